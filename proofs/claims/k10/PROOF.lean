import PyProof.Rows.All
import Wide.All
import OpenK.AllK
import Wide.FinOn
import HandS.ForMost
import HandS.ForExc
import HandS.Lambda
import HandS.EndTab
import HandS.Zip
import HandS.Conv
import HandS.SetFor
import HandS.More
import HandS.IsInst
import HandS.Walk
import HandS.StrMore
import HandS.StrSplit
import HandS.CallSlots
import HandS.RevRange
import HandS.SetKeys
import HandS.Flow
import HandS.Style
import KE.SortData
import KE.DataMinMax
import KE.DataEq
import KE.DataFind
import KE.DataIsa
import KE.KDictWalk
import KE.GoesNew
import KE.GoesEnum
import HandS.Iter
import HandS.TupAny
import HandS.TupMul
import PyProof.ReprReads
import PyProof.ReprRoads
import HandS.RaiseMore
import HandS.WideBits
import HandS.ExcCtx
import HandS.HotCalls
import HandS.ExcIs
import KE.KNestM
import KE.KLam
import HandS.Deep
import PyProof.CallFns
import PyProof.StrHeap
import HandS.Strs
import HandS.Small
import HandS.Text
import PyProof.StrOps2
import HandS.ReplaceLit
import KE.SortKeyHeap
import KE.KSortKey
import PyProof.Rows.SeqItemCall
import PyProof.AutoSeq1
import HandS.ListItems
import KE.KDictPairs
import PyProof.Rows.SortWalk
import HandS.Head2
import HandS.HeadHook4
import HandS.ExcValue
import PyProof.StrLawsRepr
import KE.DatumOrd
import PySem.Challenge.RW_grindturns_k10_classes_of_refusals
set_option Elab.async false
set_option linter.all false
set_option maxRecDepth 100000
set_option maxHeartbeats 4000000
/-! Z: deep values over HandS. Part 0: values, store, representation, the state, steps. -/
namespace Z
open PySem PySem.Spec PyProof.Rows L2

inductive Val where
  | d (x : PyData)
  | ref (n : Nat)
  | scr (ns : List Int)
inductive Node where
  | lst (xs : List Val)
  | tup (xs : List Val)
  | dic (kvs : List (Key × Val))
  | obj (c : Str) (fs : List (Str × Val))
  | dead
abbrev Store := List Node
inductive Res (α : Type) where
  | ok (a : α) (M : Store)
  | exn (c : Str) (M : Store)
  | stuck
def Res.bind {α β : Type} (r : Res α) (f : α → Store → Res β) : Res β := match r with
  | .ok a M => f a M
  | .exn c M => .exn c M
  | .stuck => .stuck
@[simp] theorem bind_ok {α β : Type} (a : α) (M : Store) (f : α → Store → Res β) : (Res.ok a M).bind f = f a M := rfl
@[simp] theorem bind_exn {α β : Type} (c : Str) (M : Store) (f : α → Store → Res β) : (Res.exn c M : Res α).bind f = .exn c M := rfl
@[simp] theorem bind_stuck {α β : Type} (f : α → Store → Res β) : (Res.stuck : Res α).bind f = .stuck := rfl
/-! ### representation of pure data in the part S of the heap that never changes -/
def keyD : Key → PyData
  | .inl i => .int i
  | .inr x => .str x
/-- a tuple whose object is known, without a dict of its own -/
def StrT (S : Hp) (a : Addr) (xs : List V) : Prop := ∃ ob : Obj, S a = some (.frz ob (.tup xs)) ∧ ob.dict = none
def pairD : PyData → Bool
  | .tuple [_, _] => true
  | _ => false
/-- pairs, one at least -/
def sackish (ds : List PyData) : Bool := !ds.isEmpty && ds.all pairD
def TupX (K : PySem.W.Frag) (S : Hp) (a : Addr) (xs : List V) (ds : List PyData) : Prop := SqT K S a xs ∧ (sackish ds = true → StrT S a xs)
mutual
inductive Rp (K : PySem.W.Frag) (S : Hp) : V → PyData → Prop
  | non : Rp K S .non .none
  | bl (b : Bool) : Rp K S (.bl b) (.bool b)
  | int (i : Int) : Rp K S (.int i) (.int i)
  | str (x : Str) : Rp K S (.str x) (.str x)
  | lst {a : Addr} {xs : List V} {ds : List PyData} : S a = some (.lst xs) → RpAll K S xs ds → Rp K S (.ref a) (.list ds)
  | tup {a : Addr} {xs : List V} {ds : List PyData} : TupX K S a xs ds → RpAll K S xs ds → Rp K S (.ref a) (.tuple ds)
  | dic {a : Addr} {kvs : List (Key × V)} {ds : List (PyData × PyData)} : S a = some (.dK kvs) → RpKv K S kvs ds → Rp K S (.ref a) (.dict ds)
inductive RpAll (K : PySem.W.Frag) (S : Hp) : List V → List PyData → Prop
  | nil : RpAll K S [] []
  | cons {v : V} {vs : List V} {d : PyData} {ds : List PyData} : Rp K S v d → RpAll K S vs ds → RpAll K S (v :: vs) (d :: ds)
inductive RpKv (K : PySem.W.Frag) (S : Hp) : List (Key × V) → List (PyData × PyData) → Prop
  | nil : RpKv K S [] []
  | cons {k : Key} {v : V} {kvs : List (Key × V)} {d : PyData} {ds : List (PyData × PyData)} : Rp K S v d → RpKv K S kvs ds → RpKv K S ((k, v) :: kvs) ((keyD k, d) :: ds)
end
section
variable {K : PySem.W.Frag} {S S' H H' : Hp}
theorem rdMono {a : Addr} {u : HO} (e : Same S S') (h : Rd S a u) : Rd S' a u := by
  rcases h with h | ⟨o, h⟩
  · exact .inl (e _ _ h)
  · exact .inr ⟨o, e _ _ h⟩
theorem sqlMono {a : Addr} {xs : List V} (e : Same S S') (h : SqL K S a xs) : SqL K S' a xs := by
  rcases h with h | h
  · exact .inl (rdMono e h)
  · exact .inr h
theorem sqtMono {a : Addr} {xs : List V} (e : Same S S') (h : SqT K S a xs) : SqT K S' a xs := by
  rcases h with h | h
  · exact .inl (rdMono e h)
  · exact .inr h
theorem StrT.mono {a : Addr} {xs : List V} (e : Same S S') (h : StrT S a xs) : StrT S' a xs := let ⟨ob, h1, h2⟩ := h; ⟨ob, e _ _ h1, h2⟩
theorem TupX.mono {a : Addr} {xs : List V} {ds : List PyData} (e : Same S S') (h : TupX K S a xs ds) : TupX K S' a xs ds := ⟨sqtMono e h.1, fun z => (h.2 z).mono e⟩
theorem TupX.new {H : Hp} {p : Addr} {ob : Obj} {xs : List V} {ds : List PyData} (h : ob.dict = none) : TupX K (upd H p (.frz ob (.tup xs))) p xs ds := ⟨.inl (.inr ⟨ob, upd_same⟩), fun _ => ⟨ob, upd_same, h⟩⟩
/-- one that holds no pairs alone -/
theorem TupX.weak {H : Hp} {p : Addr} {xs : List V} {ds : List PyData} (h : sackish ds = false) : TupX K (upd H p (.tup xs)) p xs ds := ⟨SqT.of upd_same, fun z => by rw [h] at z; cases z⟩
mutual
theorem Rp.mono (e : Same S S') : ∀ (d : PyData) (v : V), Rp K S v d → Rp K S' v d
  | .none, _, h => by cases h; exact .non
  | .bool b, _, h => by cases h; exact .bl b
  | .int i, _, h => by cases h; exact .int i
  | .str x, _, h => by cases h; exact .str x
  | .list ds, _, h => by
    cases h with
    | lst h1 h2 => exact .lst (e _ _ h1) (RpAll.mono e ds _ h2)
  | .tuple ds, _, h => by
    cases h with
    | tup h1 h2 => exact .tup (h1.mono e) (RpAll.mono e ds _ h2)
  | .dict ds, _, h => by
    cases h with
    | dic h1 h2 => exact .dic (e _ _ h1) (RpKv.mono e ds _ h2)
theorem RpAll.mono (e : Same S S') : ∀ (ds : List PyData) (vs : List V), RpAll K S vs ds → RpAll K S' vs ds
  | [], _, h => by cases h; exact .nil
  | d :: ds, _, h => by
    cases h with
    | cons h1 h2 => exact .cons (Rp.mono e d _ h1) (RpAll.mono e ds _ h2)
theorem RpKv.mono (e : Same S S') : ∀ (ds : List (PyData × PyData)) (vs : List (Key × V)), RpKv K S vs ds → RpKv K S' vs ds
  | [], _, h => by cases h; exact .nil
  | (k, d) :: ds, _, h => by
    cases h with
    | cons h1 h2 => exact .cons (Rp.mono e d _ h1) (RpKv.mono e ds _ h2)
end
theorem RpAll.length : ∀ {ds : List PyData} {vs : List V}, RpAll K S vs ds → vs.length = ds.length
  | [], _, h => by cases h; rfl
  | d :: ds, _, h => by
    cases h with
    | cons h1 h2 => simp [RpAll.length h2]
theorem RpAll.get : ∀ {ds : List PyData} {vs : List V} {i : Nat} {d : PyData}, RpAll K S vs ds → ds[i]? = some d → ∃ v, vs[i]? = some v ∧ Rp K S v d
  | [], _, i, d, h, e => by simp at e
  | d :: ds, _, i, d', h, e => by
    cases h with
    | cons h1 h2 =>
      cases i with
      | zero => simp at e; subst e; exact ⟨_, rfl, h1⟩
      | succ i => simpa using RpAll.get h2 (by simpa using e)
theorem RpAll.append : ∀ {ds es : List PyData} {vs us : List V}, RpAll K S vs ds → RpAll K S us es → RpAll K S (vs ++ us) (ds ++ es)
  | [], _, _, _, h, g => by cases h; exact g
  | d :: ds, _, _, _, h, g => by
    cases h with
    | cons h1 h2 => exact .cons h1 (RpAll.append h2 g)
theorem RpAll.take : ∀ {ds : List PyData} {vs : List V} (n : Nat), RpAll K S vs ds → RpAll K S (vs.take n) (ds.take n)
  | _, _, 0, _ => by simp; exact .nil
  | [], _, n + 1, h => by cases h; simp; exact .nil
  | d :: ds, _, n + 1, h => by
    cases h with
    | cons h1 h2 => simp; exact .cons h1 (RpAll.take n h2)
theorem RpAll.drop : ∀ {ds : List PyData} {vs : List V} (n : Nat), RpAll K S vs ds → RpAll K S (vs.drop n) (ds.drop n)
  | _, _, 0, h => by simpa using h
  | [], _, n + 1, h => by cases h; simp; exact .nil
  | d :: ds, _, n + 1, h => by
    cases h with
    | cons h1 h2 => simpa using RpAll.drop n h2
theorem RpAll.set : ∀ {ds : List PyData} {vs : List V} {d : PyData} {v : V} (i : Nat), RpAll K S vs ds → Rp K S v d → RpAll K S (vs.set i v) (ds.set i d)
  | [], _, _, _, i, h, g => by cases h; simp; exact .nil
  | d :: ds, _, _, _, 0, h, g => by
    cases h with
    | cons h1 h2 => exact .cons g h2
  | d :: ds, _, _, _, i + 1, h, g => by
    cases h with
    | cons h1 h2 => exact .cons h1 (RpAll.set i h2 g)
/-! ### down to the library's Reads -/
section
variable {X : Cx} {pins : List (Addr × Obj)} {σ : L2.St} {s : Shared}
/-- what is tracked -/
abbrev Trk (H : Hp) (as : List Addr) : Prop := ∀ a ∈ as, ∃ o, H a = some o
theorem Trk.nil {H : Hp} : Trk H [] := fun _ h => nomatch h
theorem Trk.app {H : Hp} {as bs : List Addr} (h : Trk H as) (g : Trk H bs) : Trk H (as ++ bs) := fun a m => (List.mem_append.mp m).elim (h a) (g a)
theorem Trk.cons {H : Hp} {a : Addr} {as : List Addr} {o : HO} (e : H a = some o) (g : Trk H as) : Trk H (a :: as) := fun b m => (List.mem_cons.mp m).elim (fun z => ⟨o, by rw [z]; exact e⟩) (g b)
theorem keys_reads {h : Heap} {H : Hp} : ∀ (kvs : List (Key × V)) (ds : List (PyData × PyData)) (vs : List (Key × Value)) (es : List DictEntry), RpKv K S kvs ds → KV kvs vs →
    (∀ (i : Nat) (e : DictEntry) (k : Key) (v : Value), es[i]? = some e → vs[i]? = some (k, v) → keyIs k e.key = true ∧ e.val = v) → es.length = vs.length → ∃ as, ReadsAll h (es.map (·.key)) (ds.map (·.1)) as ∧ Trk H as
  | [], _, _, es, r, q, _, hl => by
    cases r; cases q
    have e0 : es = [] := List.length_eq_zero_iff.mp (by simpa using hl)
    subst e0
    exact ⟨_, .nil, Trk.nil⟩
  | (k, v) :: kvs, _, _, es, r, q, hk, hl => by
    cases r with
    | cons r1 r2 =>
      cases q with
      | @cons _ p _ vs' q1 q2 =>
        cases es with
        | nil => simp at hl
        | cons e es =>
          obtain ⟨as, ih, tr⟩ := keys_reads (h := h) (H := H) kvs _ _ es r2 q2 (fun i e' k' v' h1 h2 => hk (i + 1) e' k' v' (by simpa using h1) (by simpa using h2)) (by simpa using hl)
          obtain ⟨pk, pv⟩ := p
          have e0 := (hk 0 e pk pv rfl rfl).1
          obtain ⟨q1a, q1b⟩ := q1
          simp only at q1a
          subst q1a
          have : Reads h e.key (keyD k) [] := by
            rcases keyIs_shape e0 with ⟨i, t, rfl, e1⟩ | ⟨x, t, rfl, e1⟩
            · rw [e1]; exact Reads.int i t
            · rw [e1]; exact Reads.str x t
          exact ⟨_, .cons this ih, tr⟩
mutual
theorem Rp.readsT (I : Inv X pins σ H s) (sm : Same S H) : ∀ (d : PyData) (v : V) (u : Value), Rp X.K S v d → RelV v u → ∃ as, Reads s.heap u d as ∧ Trk H as
  | .none, _, _, h, r => by
    cases h; cases r
    exact ⟨_, Reads.none, Trk.nil⟩
  | .bool b, _, _, h, r => by
    cases h; cases r
    exact ⟨_, Reads.bool b, Trk.nil⟩
  | .int i, _, _, h, r => by
    cases h
    obtain ⟨t, rfl⟩ := r
    exact ⟨_, Reads.int i t, Trk.nil⟩
  | .str x, _, _, h, r => by
    cases h
    obtain ⟨t, rfl⟩ := r
    exact ⟨_, Reads.str x t, Trk.nil⟩
  | .list ds, _, _, h, r => by
    cases h with
    | lst hs ha =>
      cases r
      obtain ⟨its, rv, ⟨o, n, ho, hc, _, hd⟩, _⟩ := I.list (SqL.of (sm _ _ hs))
      obtain ⟨as, hr, tr⟩ := Rp.readsAllT I sm ds _ its ha rv
      exact ⟨_, Reads.list ho hc hd hr, Trk.cons (sm _ _ hs) tr⟩
  | .tuple ds, _, _, h, r => by
    cases h with
    | tup hs ha =>
      cases r
      obtain ⟨its, rv, ⟨o, ho, hc, n, hd⟩, _⟩ := I.tuple (sqtMono sm hs.1)
      obtain ⟨as, hr, tr⟩ := Rp.readsAllT I sm ds _ its ha rv
      exact ⟨_, Reads.tuple ho hc hd hr, tr⟩
  | .dict ds, _, _, h, r => by
    cases h with
    | @dic a kvs _ hs ha =>
      cases r
      obtain ⟨z, hd, vs, rel, dd⟩ := dk_of I.hok (sm _ _ hs)
      obtain ⟨es, ep, ⟨o, ho, hc, hdd⟩, hsz, hi⟩ := PySem.Heap.DictOf.raw dd
      have hl : es.toList.length = vs.length := by simpa using hsz
      obtain ⟨as, h1, tr1⟩ := keys_reads (h := s.heap) (H := H) kvs ds vs es.toList ha rel (fun i e k v h1 h2 => by
        have hlt : i < es.size := by
          have := (List.getElem?_eq_some_iff.mp h1).1
          simpa using this
        have e1 : es[i] = e := by
          have := (List.getElem?_eq_some_iff.mp h1).2
          simpa using this
        have := hi i hlt k v h2
        rw [e1] at this
        exact this) hl
      have hv : es.toList.map (·.val) = vs.map (·.2) := by
        apply List.ext_getElem
        · simpa using hl
        · intro i h1 h2
          have hlt : i < es.size := by simpa using h1
          have hlt2 : i < vs.length := by simpa using h2
          have := (hi i hlt vs[i].1 vs[i].2 (by simp [hlt2])).2
          simpa using this
      obtain ⟨bs, h2, tr2⟩ := Rp.readsKvT I sm ds kvs vs ha rel
      rw [← hv] at h2
      exact ⟨_, Reads.dict ho hc.1 hdd h1 h2, Trk.cons (sm _ _ hs) (tr1.app tr2)⟩
theorem Rp.readsAllT (I : Inv X pins σ H s) (sm : Same S H) : ∀ (ds : List PyData) (vs : List V) (us : List Value), RpAll X.K S vs ds → Vals vs us → ∃ as, ReadsAll s.heap us ds as ∧ Trk H as
  | [], _, _, h, r => by
    cases h; cases r
    exact ⟨_, ReadsAll.nil, Trk.nil⟩
  | d :: ds, _, _, h, r => by
    cases h with
    | cons h1 h2 =>
      cases r with
      | cons r1 r2 =>
        obtain ⟨as, q1, t1⟩ := Rp.readsT I sm d _ _ h1 r1
        obtain ⟨bs, q2, t2⟩ := Rp.readsAllT I sm ds _ _ h2 r2
        exact ⟨_, ReadsAll.cons q1 q2, t1.app t2⟩
theorem Rp.readsKvT (I : Inv X pins σ H s) (sm : Same S H) : ∀ (ds : List (PyData × PyData)) (kvs : List (Key × V)) (vs : List (Key × Value)), RpKv X.K S kvs ds → KV kvs vs → ∃ as, ReadsAll s.heap (vs.map (·.2)) (ds.map (·.2)) as ∧ Trk H as
  | [], _, _, h, r => by
    cases h; cases r
    exact ⟨_, ReadsAll.nil, Trk.nil⟩
  | (_, d) :: ds, _, _, h, r => by
    cases h with
    | cons h1 h2 =>
      cases r with
      | cons r1 r2 =>
        obtain ⟨as, q1, t1⟩ := Rp.readsT I sm d _ _ h1 r1.2
        obtain ⟨bs, q2, t2⟩ := Rp.readsKvT I sm ds _ _ h2 r2
        exact ⟨_, ReadsAll.cons q1 q2, t1.app t2⟩
end
theorem Rp.reads (I : Inv X pins σ H s) (sm : Same S H) (d : PyData) (v : V) (u : Value) (h : Rp X.K S v d) (r : RelV v u) : ∃ as, Reads s.heap u d as :=
  let ⟨as, q, _⟩ := Rp.readsT I sm d v u h r; ⟨as, q⟩
theorem Rp.readsAll (I : Inv X pins σ H s) (sm : Same S H) (ds : List PyData) (vs : List V) (us : List Value) (h : RpAll X.K S vs ds) (r : Vals vs us) : ∃ as, ReadsAll s.heap us ds as :=
  let ⟨as, q, _⟩ := Rp.readsAllT I sm ds vs us h r; ⟨as, q⟩
end
end

/-! ### the ghost state -/
structure G where
  phi : List Addr
  S : Hp
structure Ctx where
  K : PySem.W.Frag
  mg : Str → Option Value
  T : List (Addr × Str)
def Rep (C : Ctx) (g : G) (v : V) : Val → Prop
  | .d x => Rp C.K g.S v x
  | .ref n => ∃ a, g.phi[n]? = some a ∧ v = .ref a
  | .scr ns => ∃ a, v = .ref a ∧ SqL C.K g.S a (ns.map V.int)
abbrev Reps (C : Ctx) (g : G) : List V → List Val → Prop := Paired (Rep C g)
abbrev PReps (C : Ctx) (g : G) {κ : Type} : List (κ × V) → List (κ × Val) → Prop := Paired fun p q => p.1 = q.1 ∧ Rep C g p.2 q.2
def NodeOk (C : Ctx) (g : G) (H : Hp) (a : Addr) : Node → Prop
  | .lst xs => ∃ vs, H a = some (.lst vs) ∧ Reps C g vs xs
  | .tup xs => ∃ vs, Rd H a (.tup vs) ∧ Reps C g vs xs
  | .dic kvs => ∃ kv, H a = some (.dK kv) ∧ PReps C g kv kvs
  | .obj c fs => ∃ A dx vf, H a = some (.ins A dx vf) ∧ C.mg c = some (.ref A) ∧ PReps C g vf fs
  | .dead => False
structure Ok (C : Ctx) (g : G) (M : Store) (H : Hp) : Prop where
  ex : Same g.S H
  len : g.phi.length = M.length
  nd : g.phi.Nodup
  sep : ∀ a ∈ g.phi, g.S a = none
  node : ∀ (n : Nat) (a : Addr) (nd : Node), g.phi[n]? = some a → M[n]? = some nd → NodeOk C g H a nd
  tabs : LamX.Tabs C.T H
  nt : ∀ b ps, g.S b ≠ some (.tbl ps)
structure Step (g : G) (H : Hp) (g' : G) (H' : Hp) : Prop where
  pre : ∃ r, g'.phi = g.phi ++ r
  ex : Same g.S g'.S
  fr : ∀ b o, b ∉ g.phi → (∀ ps, o ≠ .tbl ps) → H b = some o → H' b = some o
  fresh : ∀ b, H' b = none → H b = none
  nphi : ∀ b ∈ g'.phi, b ∈ g.phi ∨ H b = none
  nS : ∀ b o, g'.S b = some o → g.S b = some o ∨ H b = none
section
variable {C : Ctx} {g g' g'' : G} {M M' : Store} {H H' H'' H0 : Hp}
theorem Step.refl (g : G) (H : Hp) : Step g H g H := ⟨⟨[], by simp⟩, Same.refl _, fun _ _ _ _ h => h, fun _ h => h, fun _ h => .inl h, fun _ _ h => .inl h⟩
theorem Step.trans (a : Step g H g' H') (b : Step g' H' g'' H'') : Step g H g'' H'' where
  pre := by
    obtain ⟨r, e⟩ := a.pre; obtain ⟨q, f⟩ := b.pre
    exact ⟨r ++ q, by rw [f, e, List.append_assoc]⟩
  ex := a.ex.trans b.ex
  fr := fun c o h1 h2 h3 => b.fr c o (fun z => (a.nphi c z).elim h1 fun n => by rw [h3] at n; cases n) h2 (a.fr c o h1 h2 h3)
  fresh := fun c h => a.fresh c (b.fresh c h)
  nphi := fun c h => (b.nphi c h).elim (fun z => a.nphi c z) fun z => .inr (a.fresh c z)
  nS := fun c o h => (b.nS c o h).elim (fun z => a.nS c o z) fun z => .inr (a.fresh c z)
theorem Step.get (s : Step g H g' H') {n : Nat} {a : Addr} (h : g.phi[n]? = some a) : g'.phi[n]? = some a := by
  obtain ⟨r, e⟩ := s.pre
  rw [e, List.getElem?_append_left (List.getElem?_eq_some_iff.mp h).1]
  exact h
theorem Rep.step (s : Step g H g' H') {v : V} : ∀ {x : Val}, Rep C g v x → Rep C g' v x
  | .d x, h => Rp.mono s.ex x v h
  | .ref n, ⟨a, h1, h2⟩ => ⟨a, s.get h1, h2⟩
  | .scr ns, ⟨a, h1, h2⟩ => ⟨a, h1, sqlMono s.ex h2⟩
theorem Reps.step (s : Step g H g' H') {vs : List V} {xs : List Val} (h : Reps C g vs xs) : Reps C g' vs xs := Paired.mapP h fun _ _ r => r.step s
theorem PReps.step (s : Step g H g' H') {κ : Type} {vs : List (κ × V)} {xs : List (κ × Val)} (h : PReps C g vs xs) : PReps C g' vs xs := Paired.mapP h fun _ _ r => ⟨r.1, r.2.step s⟩

/-! ### slots -/
inductive Slot where
  | sh (v : Val)
  | ol (xs : List PyData)
  | od (kvs : List (Key × PyData))
abbrev Rho := List (Option Slot)
def isOwn : Option (Option Slot) → Prop
  | some (some (.ol _)) => True
  | some (some (.od _)) => True
  | _ => False
abbrev KvD (C : Ctx) (S : Hp) : List (Key × V) → List (Key × PyData) → Prop := Paired fun p q => p.1 = q.1 ∧ Rp C.K S p.2 q.2
structure RSt (C : Ctx) (H0 : Hp) (g : G) (H : Hp) (σ : L2.St) (ρ : Rho) : Prop where
  len : ρ.length = σ.length
  sh : ∀ (i : Nat) (x : Val), ρ[i]? = some (some (.sh x)) → ∃ v, σ[i]? = some (some v) ∧ Rep C g v x
  ol : ∀ (i : Nat) (xs : List PyData), ρ[i]? = some (some (.ol xs)) → ∃ a vs, σ[i]? = some (some (.ref a)) ∧ H a = some (.lst vs) ∧ RpAll C.K g.S vs xs ∧ g.S a = none ∧ a ∉ g.phi ∧ H0 a = none
  od : ∀ (i : Nat) (kvs : List (Key × PyData)), ρ[i]? = some (some (.od kvs)) → ∃ a vs, σ[i]? = some (some (.ref a)) ∧ H a = some (.dK vs) ∧ KvD C g.S vs kvs ∧ g.S a = none ∧ a ∉ g.phi ∧ H0 a = none
  ne : ∀ (i j : Nat) (a : Addr), i ≠ j → isOwn ρ[i]? → isOwn ρ[j]? → σ[i]? = some (some (.ref a)) → σ[j]? = some (some (.ref a)) → False
theorem own_keep (s : Step g H g' H') {a : Addr} {o : HO} (h1 : H a = some o) (nt : ∀ ps, o ≠ .tbl ps) (h2 : g.S a = none) (h3 : a ∉ g.phi) : H' a = some o ∧ g'.S a = none ∧ a ∉ g'.phi := by
  refine ⟨s.fr a o h3 nt h1, ?_, fun z => ?_⟩
  · cases e : g'.S a with
    | none => rfl
    | some u =>
      rcases s.nS a u e with z | z
      · rw [h2] at z; cases z
      · rw [h1] at z; cases z
  · rcases s.nphi a z with z | z
    · exact h3 z
    · rw [h1] at z; cases z
theorem KvD.mono {C : Ctx} {S S' : Hp} {vs : List (Key × V)} {kvs : List (Key × PyData)} (e : Same S S') (h : KvD C S vs kvs) : KvD C S' vs kvs := Paired.mapP h fun _ _ r => ⟨r.1, Rp.mono e _ _ r.2⟩
theorem RSt.step {σ : L2.St} {ρ : Rho} (r : RSt C H0 g H σ ρ) (s : Step g H g' H') : RSt C H0 g' H' σ ρ where
  len := r.len
  sh := fun i x h => by
    obtain ⟨v, h1, h2⟩ := r.sh i x h
    exact ⟨v, h1, h2.step s⟩
  ol := fun i xs h => by
    obtain ⟨a, vs, h1, h2, h3, h4, h5, h6⟩ := r.ol i xs h
    obtain ⟨k1, k2, k3⟩ := own_keep s h2 (fun _ z => by cases z) h4 h5
    exact ⟨a, vs, h1, k1, RpAll.mono s.ex _ _ h3, k2, k3, h6⟩
  od := fun i xs h => by
    obtain ⟨a, vs, h1, h2, h3, h4, h5, h6⟩ := r.od i xs h
    obtain ⟨k1, k2, k3⟩ := own_keep s h2 (fun _ z => by cases z) h4 h5
    exact ⟨a, vs, h1, k1, KvD.mono s.ex h3, k2, k3, h6⟩
  ne := r.ne

/-! ### changes of the heap -/
theorem tabs_upd {T : List (Addr × Str)} {a : Addr} {o : HO} (t : LamX.Tabs T H) (h : H a = none ∨ (∃ xs, H a = some (.lst xs)) ∨ (∃ xs, H a = some (.dK xs)) ∨ (∃ C dx fs, H a = some (.ins C dx fs)) ∨ (∃ b, H a = some (.own b))) : LamX.Tabs T (upd H a o) := by
  have hne : ∀ b u, H b = some u → ((∃ ps, u = .tbl ps) ∨ ∃ φ, u = .ext φ) → b ≠ a := fun b u hb hu z => by
    subst z
    rw [hb] at h
    rcases hu with ⟨ps, rfl⟩ | ⟨φ, rfl⟩ <;> rcases h with h | ⟨_, h⟩ | ⟨_, h⟩ | ⟨_, _, _, h⟩ | ⟨_, h⟩ <;> cases h
  intro p hp
  obtain ⟨ps, h1, h2, h3⟩ := t p hp
  refine ⟨ps, by rw [upd_ne (hne _ _ h1 (.inl ⟨_, rfl⟩))]; exact h1, h2, fun pos cv hc => ?_⟩
  obtain ⟨c, e1, e2⟩ := h3 pos cv hc
  exact ⟨c, e1, by rw [upd_ne (hne _ _ e2 (.inr ⟨_, rfl⟩))]; exact e2⟩
theorem same_new {S : Hp} {p : Addr} {o : HO} (h : S p = none) : Same S (upd S p o) := fun b u e => by
  rw [upd_ne (ne_of_none e h)]; exact e
theorem Ok.free (k : Ok C g M H) {p : Addr} (h : H p = none) : g.S p = none ∧ p ∉ g.phi := by
  refine ⟨?_, fun z => ?_⟩
  · cases e : g.S p with
    | none => rfl
    | some o => have := k.ex _ _ e; rw [h] at this; cases this
  · obtain ⟨n, hn⟩ := List.getElem?_of_mem z
    have hl : n < M.length := by rw [← k.len]; exact (List.getElem?_eq_some_iff.mp hn).1
    have := k.node n p M[n] hn (by simp [hl])
    cases hm : M[n] with
    | lst xs => rw [hm] at this; obtain ⟨_, e, _⟩ := this; rw [h] at e; cases e
    | tup xs => rw [hm] at this; obtain ⟨_, e | ⟨_, e⟩, _⟩ := this <;> (rw [h] at e; cases e)
    | dic xs => rw [hm] at this; obtain ⟨_, e, _⟩ := this; rw [h] at e; cases e
    | obj c xs => rw [hm] at this; obtain ⟨_, _, _, e, _⟩ := this; rw [h] at e; cases e
    | dead => rw [hm] at this; exact this.elim
theorem NodeOk.keep {a : Addr} {nd : Node} (e : H' a = H a) (hr : ∀ v x, Rep C g v x → Rep C g' v x) (h : NodeOk C g H a nd) : NodeOk C g' H' a nd := by
  cases nd with
  | lst xs => obtain ⟨vs, h1, h2⟩ := h; exact ⟨vs, by rw [e]; exact h1, Paired.mapP h2 hr⟩
  | tup xs => obtain ⟨vs, h1, h2⟩ := h; exact ⟨vs, by unfold Rd at h1 ⊢; rw [e]; exact h1, Paired.mapP h2 hr⟩
  | dic xs => obtain ⟨vs, h1, h2⟩ := h; exact ⟨vs, by rw [e]; exact h1, Paired.mapP h2 fun _ _ r => ⟨r.1, hr _ _ r.2⟩⟩
  | obj c xs => obtain ⟨A, dx, vf, h1, h2, h3⟩ := h; exact ⟨A, dx, vf, by rw [e]; exact h1, h2, Paired.mapP h3 fun _ _ r => ⟨r.1, hr _ _ r.2⟩⟩
  | dead => exact h
/-- a new object that never changes -/
theorem Ok.newS (k : Ok C g M H) {p : Addr} {o : HO} (h : H p = none) (no : ∀ ps, o ≠ .tbl ps := by intro ps z; cases z) : Ok C ⟨g.phi, upd g.S p o⟩ M (upd H p o) ∧ Step g H ⟨g.phi, upd g.S p o⟩ (upd H p o) := by
  obtain ⟨hS, hp⟩ := k.free h
  have st : Step g H ⟨g.phi, upd g.S p o⟩ (upd H p o) := ⟨⟨[], by simp⟩, same_new hS, fun b u h1 h2 h3 => by rw [upd_ne (ne_of_none h3 h)]; exact h3, fun b hb => by
      by_cases e : b = p
      · subst e; exact h
      · rwa [upd_ne e] at hb, fun b hb => .inl hb, fun b u hb => by
      by_cases e : b = p
      · subst e; exact .inr h
      · have hb : upd g.S p o b = some u := hb
        rw [upd_ne e] at hb; exact .inl hb⟩
  refine ⟨⟨fun b u hb => ?_, k.len, k.nd, fun a ha => ?_, fun n a nd h1 h2 => ?_, tabs_upd k.tabs (.inl h), fun b ps e => ?_⟩, st⟩
  · have hb : upd g.S p o b = some u := hb
    by_cases e : b = p
    · subst e; rw [upd_same] at hb ⊢; exact hb
    · rw [upd_ne e] at hb ⊢; exact k.ex _ _ hb
  · have : a ≠ p := fun z => hp (by rw [← z]; exact ha)
    show upd g.S p o a = none
    rw [upd_ne this]; exact k.sep a ha
  · have ha : a ≠ p := fun z => hp (by rw [← z]; exact List.mem_of_getElem? h1)
    exact (k.node n a nd h1 h2).keep (upd_ne ha) fun v x r => r.step st
  · have e : upd g.S p o b = some (.tbl ps) := e
    by_cases z : b = p
    · subst z; rw [upd_same] at e; exact no ps (Option.some.inj e)
    · rw [upd_ne z] at e; exact k.nt b ps e
/-- a new place of the store -/
theorem Ok.newM (k : Ok C g M H) {p : Addr} {o : HO} {nd : Node} (h : H p = none) (hn : ∀ g', (∀ v x, Rep C g v x → Rep C g' v x) → g'.phi = g.phi ++ [p] → NodeOk C g' (upd H p o) p nd) :
    Ok C ⟨g.phi ++ [p], g.S⟩ (M ++ [nd]) (upd H p o) ∧ Step g H ⟨g.phi ++ [p], g.S⟩ (upd H p o) := by
  obtain ⟨hS, hp⟩ := k.free h
  have st : Step g H ⟨g.phi ++ [p], g.S⟩ (upd H p o) := ⟨⟨[p], rfl⟩, Same.refl _, fun b u h1 h2 h3 => by rw [upd_ne (ne_of_none h3 h)]; exact h3, fun b hb => by
      by_cases e : b = p
      · subst e; exact h
      · rwa [upd_ne e] at hb, fun b hb => by
      rcases List.mem_append.mp hb with hb | hb
      · exact .inl hb
      · rw [List.mem_singleton.mp hb]; exact .inr h, fun b u hb => .inl hb⟩
  refine ⟨⟨fun b u hb => ?_, by simp [k.len], ?_, fun a ha => ?_, fun n a nd' h1 h2 => ?_, tabs_upd k.tabs (.inl h), k.nt⟩, st⟩
  · rw [upd_ne (ne_of_none hb hS)]; exact k.ex _ _ hb
  · rw [List.nodup_append]
    exact ⟨k.nd, by simp, fun a ha b hb => by rw [List.mem_singleton.mp hb]; exact fun z => hp (z ▸ ha)⟩
  · rcases List.mem_append.mp ha with ha | ha
    · exact k.sep a ha
    · rw [List.mem_singleton.mp ha]; exact hS
  · by_cases hlt : n < M.length
    · have h1' : g.phi[n]? = some a := by
        have h1 : (g.phi ++ [p])[n]? = some a := h1
        rwa [List.getElem?_append_left (by rw [k.len]; exact hlt)] at h1
      have h2' : M[n]? = some nd' := by rwa [List.getElem?_append_left hlt] at h2
      have ha : a ≠ p := fun z => hp (by rw [← z]; exact List.mem_of_getElem? h1')
      exact (k.node n a nd' h1' h2').keep (upd_ne ha) fun v x r => r.step st
    · rw [List.getElem?_append_right (by omega)] at h2
      have hn0 : n - M.length = 0 := by
        have := (List.getElem?_eq_some_iff.mp h2).1
        simp at this; omega
      rw [hn0] at h2
      simp at h2
      subst h2
      have h1 : (g.phi ++ [p])[n]? = some a := h1
      rw [List.getElem?_append_right (by rw [k.len]; omega)] at h1
      rw [k.len, hn0] at h1
      simp at h1
      subst h1
      exact hn _ (fun v x r => r.step st) rfl
/-- what may stand at a place that is written -/
def Wr (H : Hp) (a : Addr) : Prop := (∃ xs, H a = some (.lst xs)) ∨ (∃ xs, H a = some (.dK xs)) ∨ ∃ C dx fs, H a = some (.ins C dx fs)
theorem Wr.some {a : Addr} (h : Wr H a) : H a ≠ none := by
  rcases h with ⟨_, h⟩ | ⟨_, h⟩ | ⟨_, _, _, h⟩ <;> rw [h] <;> exact fun z => by cases z
theorem Wr.tabs {T : List (Addr × Str)} {a : Addr} {o : HO} (t : LamX.Tabs T H) (h : Wr H a) : LamX.Tabs T (upd H a o) :=
  tabs_upd t (by
    rcases h with h | h | h
    · exact .inr (.inl h)
    · exact .inr (.inr (.inl h))
    · exact .inr (.inr (.inr (.inl h))))
/-- a place of the store is written -/
theorem Ok.setM (k : Ok C g M H) {a : Addr} {n : Nat} {o : HO} {nd : Node} (h : g.phi[n]? = some a) (w : Wr H a) (hn : NodeOk C g (upd H a o) a nd) :
    Ok C g (M.set n nd) (upd H a o) ∧ Step g H g (upd H a o) := by
  have ha := List.mem_of_getElem? h
  have hS := k.sep a ha
  refine ⟨⟨fun b u hb => ?_, by simp [k.len], k.nd, k.sep, fun m b nd' h1 h2 => ?_, w.tabs k.tabs, k.nt⟩, ⟨⟨[], by simp⟩, Same.refl _, fun b u h1 h2 h3 => by rw [upd_ne (fun z => h1 (by rw [z]; exact ha))]; exact h3, fun b hb => ?_, fun b hb => .inl hb, fun b u hb => .inl hb⟩⟩
  · rw [upd_ne (ne_of_none hb hS)]; exact k.ex _ _ hb
  · by_cases e : m = n
    · subst e
      have : b = a := Option.some.inj (h1.symm.trans h)
      subst this
      have hl : m < M.length := by rw [← k.len]; exact (List.getElem?_eq_some_iff.mp h).1
      rw [List.getElem?_set_self hl] at h2
      cases h2
      exact hn
    · rw [List.getElem?_set_ne (Ne.symm e)] at h2
      have : b ≠ a := fun z => e (by
        subst z
        exact nd_ix k.nd h1 h)
      exact (k.node m b nd' h1 h2).keep (upd_ne this) fun _ _ r => r
  · by_cases e : b = a
    · subst e; rw [upd_same] at hb; cases hb
    · rwa [upd_ne e] at hb
/-- an object of one's own is written -/
theorem Ok.setO (k : Ok C g M H) {a : Addr} {o : HO} (h1 : g.S a = none) (h2 : a ∉ g.phi) (w : Wr H a) : Ok C g M (upd H a o) := by
  refine ⟨fun b u hb => ?_, k.len, k.nd, k.sep, fun m b nd' e1 e2 => ?_, w.tabs k.tabs, k.nt⟩
  · rw [upd_ne (ne_of_none hb h1)]; exact k.ex _ _ hb
  · exact (k.node m b nd' e1 e2).keep (upd_ne fun z => h2 (z ▸ List.mem_of_getElem? e1)) fun _ _ r => r
theorem Step.setO {g0 : G} (s : Step g0 H0 g H) {a : Addr} {o : HO} (h : H0 a = none) (w : H a ≠ none) : Step g0 H0 g (upd H a o) :=
  ⟨s.pre, s.ex, fun b u h1 h2 h3 => by rw [upd_ne (ne_of_none h3 h)]; exact s.fr b u h1 h2 h3, fun b hb => by
    by_cases e : b = a
    · subst e; exact h
    · rw [upd_ne e] at hb; exact s.fresh b hb, s.nphi, s.nS⟩
/-- a new object of one's own -/
theorem Ok.newO (k : Ok C g M H) {p : Addr} {o : HO} (h : H p = none) : Ok C g M (upd H p o) ∧ Step g H g (upd H p o) := by
  obtain ⟨hS, hp⟩ := k.free h
  refine ⟨⟨fun b u hb => ?_, k.len, k.nd, k.sep, fun m b nd' e1 e2 => ?_, tabs_upd k.tabs (.inl h), k.nt⟩, ⟨⟨[], by simp⟩, Same.refl _, fun b u h1 h2 h3 => by rw [upd_ne (ne_of_none h3 h)]; exact h3, fun b hb => ?_, fun b hb => .inl hb, fun b u hb => .inl hb⟩⟩
  · rw [upd_ne (ne_of_none hb hS)]; exact k.ex _ _ hb
  · exact (k.node m b nd' e1 e2).keep (upd_ne fun z => hp (z ▸ List.mem_of_getElem? e1)) fun _ _ r => r
  · by_cases e : b = p
    · subst e; exact h
    · rwa [upd_ne e] at hb
end
end Z

/-! Z, part 1: judgements. -/
namespace Z
open PySem PySem.Spec PyProof.Rows L2

def Post (C : Ctx) (E : XK) (g : G) (H : Hp) {α : Type} (r : Res α) (k : α → G → Store → Hp → Prop) : Prop := match r with
  | .ok x M' => ∀ g' H', Ok C g' M' H' → Step g H g' H' → k x g' M' H'
  | .exn c M' => ∀ g' H' A, Ok C g' M' H' → Step g H g' H' → C.mg c = some (.ref A) → E (.ref A) none H'
  | .stuck => False
section
variable {C : Ctx} {E : XK} {g g' : G} {H H' H0 : Hp} {M M' : Store} {α β : Type}
theorem Post.back {r : Res α} {k : α → G → Store → Hp → Prop} (h : Post C E g H r k) (s : Step g H g' H') : Post C E g' H' r k := by
  cases r with
  | ok x M => exact fun g2 H2 o st => h g2 H2 o (s.trans st)
  | exn c M => exact fun g2 H2 A o st => h g2 H2 A o (s.trans st)
  | stuck => exact h
theorem Post.bind {r : Res α} {f : α → Store → Res β} {k : β → G → Store → Hp → Prop} (h : Post C E g H (r.bind f) k) : Post C E g H r fun x g' M' H' => Post C E g' H' (f x M') k := by
  cases r with
  | ok x M => exact fun g2 H2 o st => Post.back (r := f x M) h st
  | exn c M => exact h
  | stuck => exact h
theorem Post.bind0 {r : Res α} {f : α → Store → Res β} {k : β → G → Store → Hp → Prop} (h : Post C E g H (r.bind f) k) : Post C E g H r fun x _ M' _ => Post C E g H (f x M') k := by
  cases r with
  | ok x M => exact fun _ _ _ _ => h
  | exn c M => exact h
  | stuck => exact h
theorem Post.imp {r : Res α} {k k' : α → G → Store → Hp → Prop} (h : Post C E g H r k) (i : ∀ x g' M' H', Ok C g' M' H' → Step g H g' H' → k x g' M' H' → k' x g' M' H') : Post C E g H r k' := by
  cases r with
  | ok x M => exact fun g2 H2 o st => i _ _ _ _ o st (h g2 H2 o st)
  | exn c M => exact h
  | stuck => exact h
theorem Post.here {x : α} {k : α → G → Store → Hp → Prop} (h : Post C E g H (.ok x M) k) (o : Ok C g M H) : k x g M H := h g H o (Step.refl _ _)
theorem Post.at {x : α} {k : α → G → Store → Hp → Prop} (h : Post C E g H (.ok x M) k) (o : Ok C g' M H' ∧ Step g H g' H') : k x g' M H' := h g' H' o.1 o.2

/-! ### weak representation: what is read at once -/
inductive RpC (K : PySem.W.Frag) (S H : Hp) : V → PyData → Prop
  | of {v : V} {d : PyData} : Rp K S v d → RpC K S H v d
  | lst {a : Addr} {xs : List V} {ds : List PyData} : H a = some (.lst xs) → RpAll K S xs ds → RpC K S H (.ref a) (.list ds)
  | dic {a : Addr} {kvs : List (Key × V)} {ds : List (PyData × PyData)} : H a = some (.dK kvs) → RpKv K S kvs ds → RpC K S H (.ref a) (.dict ds)
theorem RpC.rp {K : PySem.W.Frag} {S H : Hp} {v : V} {d : PyData} (s : Same S H) (h : RpC K S H v d) : Rp K H v d := by
  cases h with
  | of h => exact Rp.mono s _ _ h
  | lst h1 h2 => exact .lst h1 (RpAll.mono s _ _ h2)
  | dic h1 h2 => exact .dic h1 (RpKv.mono s _ _ h2)
theorem RpC.list {K : PySem.W.Frag} {S H : Hp} {v : V} {ds : List PyData} (s : Same S H) (h : RpC K S H v (.list ds)) : ∃ a xs, v = .ref a ∧ H a = some (.lst xs) ∧ RpAll K S xs ds := by
  cases h with
  | of h => cases h with
    | lst h1 h2 => exact ⟨_, _, rfl, s _ _ h1, h2⟩
  | lst h1 h2 => exact ⟨_, _, rfl, h1, h2⟩
theorem RpC.tupS {K : PySem.W.Frag} {S H : Hp} {v : V} {ds : List PyData} (h : RpC K S H v (.tuple ds)) : Rp K S v (.tuple ds) := by
  cases h with
  | of h => exact h
theorem RpC.tuple {K : PySem.W.Frag} {S H : Hp} {v : V} {ds : List PyData} (s : Same S H) (h : RpC K S H v (.tuple ds)) : ∃ a xs, v = .ref a ∧ SqT K H a xs ∧ RpAll K S xs ds := by
  cases h with
  | of h => cases h with
    | tup h1 h2 => exact ⟨_, _, rfl, sqtMono s h1.1, h2⟩
theorem RpC.dict {K : PySem.W.Frag} {S H : Hp} {v : V} {ds : List (PyData × PyData)} (s : Same S H) (h : RpC K S H v (.dict ds)) : ∃ a xs, v = .ref a ∧ H a = some (.dK xs) ∧ RpKv K S xs ds := by
  cases h with
  | of h => cases h with
    | dic h1 h2 => exact ⟨_, _, rfl, s _ _ h1, h2⟩
  | dic h1 h2 => exact ⟨_, _, rfl, h1, h2⟩
theorem RpC.int {K : PySem.W.Frag} {S H : Hp} {v : V} {i : Int} (h : RpC K S H v (.int i)) : v = .int i := by
  cases h with
  | of h => cases h; rfl
theorem RpC.bool {K : PySem.W.Frag} {S H : Hp} {v : V} {i : Bool} (h : RpC K S H v (.bool i)) : v = .bl i := by
  cases h with
  | of h => cases h; rfl
theorem RpC.str {K : PySem.W.Frag} {S H : Hp} {v : V} {i : Str} (h : RpC K S H v (.str i)) : v = .str i := by
  cases h with
  | of h => cases h; rfl
theorem RpC.none {K : PySem.W.Frag} {S H : Hp} {v : V} (h : RpC K S H v .none) : v = .non := by
  cases h with
  | of h => cases h; rfl
def RepX (C : Ctx) (g : G) (H : Hp) (v : V) : Val → Prop
  | .d x => RpC C.K g.S H v x
  | .ref n => Rep C g v (.ref n)
  | .scr n => Rep C g v (.scr n)
def RepW (C : Ctx) (g : G) (H : Hp) (v : V) (x : Val) : Prop := ∀ g' M' H', Ok C g' M' H' → Step g H g' H' → RepX C g' H' v x
theorem Rep.x {v : V} : ∀ {x : Val}, Rep C g v x → RepX C g H v x
  | .d x, h => .of h
  | .ref n, h => h
  | .scr n, h => h
theorem Rep.w {v : V} {x : Val} (h : Rep C g v x) : RepW C g H v x := fun _ _ _ _ s => (h.step s).x
theorem RepW.step {v : V} {x : Val} (h : RepW C g H v x) (s : Step g H g' H') : RepW C g' H' v x := fun g2 M2 H2 o st => h g2 M2 H2 o (s.trans st)
theorem RepW.here {v : V} {x : Val} (h : RepW C g H v x) (o : Ok C g M H) : RepX C g H v x := h g M H o (Step.refl _ _)
def pures : List Val → Option (List PyData)
  | [] => some []
  | .d x :: r => (pures r).map (x :: ·)
  | _ :: _ => none
def pureKv : List (Key × Val) → Option (List (PyData × PyData))
  | [] => some []
  | (k, .d x) :: r => (pureKv r).map ((keyD k, x) :: ·)
  | _ :: _ => none
@[simp] theorem pures_map (xs : List PyData) : pures (xs.map Val.d) = some xs := by
  induction xs with
  | nil => rfl
  | cons x r ih => simp [pures, ih]
@[simp] theorem pures_nil : pures [] = some [] := rfl
@[simp] theorem pures_cons (x : PyData) (r : List Val) : pures (.d x :: r) = (pures r).map (x :: ·) := rfl
theorem pures_eq : ∀ {xs : List Val} {ds : List PyData}, pures xs = some ds → xs = ds.map Val.d
  | [], ds, h => by simp [pures] at h; subst h; rfl
  | .d x :: r, ds, h => by
    simp [pures] at h
    obtain ⟨es, h1, rfl⟩ := h
    simp [pures_eq h1]
  | .ref n :: r, ds, h => by simp [pures] at h
  | .scr n :: r, ds, h => by simp [pures] at h
def load (M : Store) : Val → Option PyData
  | .d x => some x
  | .ref n => match M[n]? with
    | some (.lst xs) => (pures xs).map .list
    | some (.dic kvs) => (pureKv kvs).map .dict
    | _ => none
  | .scr _ => none
@[simp] theorem load_d (M : Store) (x : PyData) : load M (.d x) = some x := rfl
theorem repAll_of {vs : List V} : ∀ {xs : List Val} {ds : List PyData}, Reps C g vs xs → pures xs = some ds → RpAll C.K g.S vs ds := by
  intro xs ds h e
  have := pures_eq e
  subst this
  clear e
  induction ds generalizing vs with
  | nil => cases h; exact .nil
  | cons x r ih =>
    cases h with
    | cons h1 h2 => exact .cons h1 (ih h2)
theorem reps_of {vs : List V} {ds : List PyData} (h : RpAll C.K g.S vs ds) : Reps C g vs (ds.map Val.d) := by
  induction ds generalizing vs with
  | nil => cases h; exact .nil
  | cons x r ih =>
    cases h with
    | cons h1 h2 => exact .cons h1 (ih h2)
theorem repKv_of : ∀ {vs : List (Key × V)} {xs : List (Key × Val)} {ds : List (PyData × PyData)}, PReps C g vs xs → pureKv xs = some ds → RpKv C.K g.S vs ds
  | _, [], ds, h, e => by
    simp [pureKv] at e; subst e; cases h; exact .nil
  | _, (k, .d x) :: r, ds, h, e => by
    simp [pureKv] at e
    obtain ⟨es, e1, rfl⟩ := e
    cases h with
    | @cons p _ vs' _ h1 h2 =>
      obtain ⟨pk, pv⟩ := p
      obtain ⟨h1a, h1b⟩ := h1
      simp only at h1a
      subst h1a
      exact .cons h1b (repKv_of h2 e1)
  | _, (k, .ref n) :: r, ds, h, e => by simp [pureKv] at e
  | _, (k, .scr n) :: r, ds, h, e => by simp [pureKv] at e
theorem RepX.load {v : V} {d : PyData} (o : Ok C g M H) : ∀ {x : Val}, RepX C g H v x → load M x = some d → RpC C.K g.S H v d
  | .d x, h, e => by simp at e; subst e; exact h
  | .ref n, h, e => by
    obtain ⟨a, h1, rfl⟩ := h
    have e : (match M[n]? with
      | some (.lst xs) => (pures xs).map PyData.list
      | some (.dic kvs) => (pureKv kvs).map PyData.dict
      | _ => none) = some d := e
    cases hm : M[n]? with
    | none => rw [hm] at e; simp at e
    | some nd =>
      rw [hm] at e
      have := o.node n a nd h1 hm
      cases nd with
      | lst xs =>
        simp at e
        obtain ⟨ds, e1, rfl⟩ := e
        obtain ⟨vs, k1, k2⟩ := this
        exact .lst k1 (repAll_of k2 e1)
      | tup xs => simp at e
      | dic kvs =>
        simp at e
        obtain ⟨ds, e1, rfl⟩ := e
        obtain ⟨vs, k1, k2⟩ := this
        exact .dic k1 (repKv_of k2 e1)
      | obj c fs => simp at e
      | dead => simp at e
  | .scr n, h, e => by cases e

/-! ### judgements on readings -/
abbrev Sm (α : Type) := Rho → Store → Res α
def EvE (C : Ctx) (E : XK) (te : TE) (m : Sm Val) : Prop := ∀ (H0 : Hp) (g : G) (M : Store) (H : Hp) (σ : L2.St) (ρ : Rho) (Q : VK), Ok C g M H → RSt C H0 g H σ ρ →
  Post C E g H (m ρ M) (fun x g' _ H' => ∀ v, Rep C g' v x → Q v H') → te σ H Q
def EvW (C : Ctx) (E : XK) (te : TE) (m : Sm Val) : Prop := ∀ (H0 : Hp) (g : G) (M : Store) (H : Hp) (σ : L2.St) (ρ : Rho) (Q : VK), Ok C g M H → RSt C H0 g H σ ρ →
  Post C E g H (m ρ M) (fun x g' _ H' => ∀ v, RepW C g' H' v x → Q v H') → te σ H Q
def EvT (C : Ctx) (E : XK) (tt : TT) (m : Sm Bool) : Prop := ∀ (H0 : Hp) (g : G) (M : Store) (H : Hp) (σ : L2.St) (ρ : Rho) (Q : Bool → Hp → Prop), Ok C g M H → RSt C H0 g H σ ρ →
  Post C E g H (m ρ M) (fun x _ _ H' => Q x H') → tt σ H Q
/-- arguments, each strong -/
def EvA (C : Ctx) (E : XK) (ta : TA) (m : Sm (List Val)) : Prop := ∀ (H0 : Hp) (g : G) (M : Store) (H : Hp) (σ : L2.St) (ρ : Rho) (Q : List V → Hp → Prop), Ok C g M H → RSt C H0 g H σ ρ →
  Post C E g H (m ρ M) (fun xs g' _ H' => ∀ vs, Reps C g' vs xs → Q vs H') → ta σ H Q
/-- arguments, each weak -/
def EvAW (C : Ctx) (E : XK) (ta : TA) (m : Sm (List Val)) : Prop := ∀ (H0 : Hp) (g : G) (M : Store) (H : Hp) (σ : L2.St) (ρ : Rho) (Q : List V → Hp → Prop), Ok C g M H → RSt C H0 g H σ ρ →
  Post C E g H (m ρ M) (fun xs g' _ H' => ∀ vs, Paired (RepW C g' H') vs xs → Q vs H') → ta σ H Q
/-- a new list that nothing else holds -/
def EvL (C : Ctx) (E : XK) (te : TE) (m : Sm (List Val)) : Prop := ∀ (H0 : Hp) (g : G) (M : Store) (H : Hp) (σ : L2.St) (ρ : Rho) (Q : VK), Ok C g M H → RSt C H0 g H σ ρ →
  Post C E g H (m ρ M) (fun xs g' _ H' => ∀ p vs, H' p = some (.lst vs) → Reps C g' vs xs → g'.S p = none → p ∉ g'.phi → H p = none → Q (.ref p) H') → te σ H Q
/-- a new dict -/
def EvD (C : Ctx) (E : XK) (te : TE) (m : Sm (List (Key × Val))) : Prop := ∀ (H0 : Hp) (g : G) (M : Store) (H : Hp) (σ : L2.St) (ρ : Rho) (Q : VK), Ok C g M H → RSt C H0 g H σ ρ →
  Post C E g H (m ρ M) (fun xs g' _ H' => ∀ p vs, H' p = some (.dK vs) → PReps C g' vs xs → g'.S p = none → p ∉ g'.phi → H p = none → Q (.ref p) H') → te σ H Q
theorem EvE.w {te : TE} {m : Sm Val} (h : EvE C E te m) : EvW C E te m := fun H0 g M H σ ρ Q o r p =>
  h H0 g M H σ ρ Q o r (p.imp fun x g' M' H' _ _ k v rv => k v rv.w)

/-! freezing, laying in the store -/
theorem Ok.freeze (k : Ok C g M H) {p : Addr} {o : HO} (h : H p = some o) (h2 : p ∉ g.phi) (no : ∀ ps, o ≠ .tbl ps := by intro ps z; cases z) : Ok C ⟨g.phi, upd g.S p o⟩ M H := by
  refine ⟨fun b u hb => ?_, k.len, k.nd, fun a ha => ?_, fun n a nd h1 h2' => ?_, k.tabs, fun b ps e => ?_⟩
  · have hb : upd g.S p o b = some u := hb
    by_cases e : b = p
    · subst e; rw [upd_same] at hb; rw [h]; exact hb
    · rw [upd_ne e] at hb; exact k.ex _ _ hb
  · have : a ≠ p := fun z => h2 (by rw [← z]; exact ha)
    show upd g.S p o a = none
    rw [upd_ne this]; exact k.sep a ha
  · have hn := k.node n a nd h1 h2'
    cases hp : g.S p with
    | none =>
      refine NodeOk.keep (g := g) rfl (fun v x r => ?_) hn
      cases x with
      | d x => exact Rp.mono (same_new hp) _ _ r
      | ref n => exact r
      | scr n =>
        obtain ⟨b, e1, e2⟩ := r
        exact ⟨b, e1, sqlMono (same_new hp) e2⟩
    | some u =>
      have hu : u = o := by
        have := k.ex _ _ hp
        rw [h] at this; exact (Option.some.inj this).symm
      refine NodeOk.keep (g := g) rfl (fun v x r => ?_) hn
      cases x with
      | d x =>
        refine Rp.mono (fun b u' hb => ?_) _ _ r
        by_cases e : b = p
        · subst e; rw [hp] at hb; show upd g.S b o b = _; rw [upd_same, ← hb, hu]
        · show upd g.S p o b = _; rw [upd_ne e]; exact hb
      | ref n => exact r
      | scr n =>
        obtain ⟨b, e1, e2⟩ := r
        refine ⟨b, e1, sqlMono (fun b u' hb => ?_) e2⟩
        by_cases e : b = p
        · subst e; rw [hp] at hb; show upd g.S b o b = _; rw [upd_same, ← hb, hu]
        · show upd g.S p o b = _; rw [upd_ne e]; exact hb
  · have e : upd g.S p o b = some (.tbl ps) := e
    by_cases z : b = p
    · subst z; rw [upd_same] at e; exact no ps (Option.some.inj e)
    · rw [upd_ne z] at e; exact k.nt b ps e
theorem Step.freeze (s : Step g H g' H') {p : Addr} {o : HO} (hS : g'.S p = none) (h : H p = none) : Step g H ⟨g'.phi, upd g'.S p o⟩ H' :=
  ⟨s.pre, s.ex.trans (same_new hS), s.fr, s.fresh, s.nphi, fun b u hb => by
    have hb : upd g'.S p o b = some u := hb
    by_cases e : b = p
    · subst e; exact .inr h
    · rw [upd_ne e] at hb; exact s.nS b u hb⟩
theorem Ok.enter (k : Ok C g M H) {p : Addr} {nd : Node} (h1 : g.S p = none) (h2 : p ∉ g.phi) (hn : NodeOk C ⟨g.phi ++ [p], g.S⟩ H p nd) : Ok C ⟨g.phi ++ [p], g.S⟩ (M ++ [nd]) H := by
  have up : ∀ v x, Rep C g v x → Rep C ⟨g.phi ++ [p], g.S⟩ v x := fun v x r => by
    cases x with
    | d x => exact r
    | ref n =>
      obtain ⟨a, e1, e2⟩ := r
      exact ⟨a, by show (g.phi ++ [p])[n]? = _; rw [List.getElem?_append_left (List.getElem?_eq_some_iff.mp e1).1]; exact e1, e2⟩
    | scr n => exact r
  refine ⟨k.ex, by simp [k.len], ?_, fun a ha => ?_, fun n a nd' e1 e2 => ?_, k.tabs, k.nt⟩
  · rw [List.nodup_append]
    exact ⟨k.nd, by simp, fun a ha b hb => by rw [List.mem_singleton.mp hb]; exact fun z => h2 (z ▸ ha)⟩
  · rcases List.mem_append.mp ha with ha | ha
    · exact k.sep a ha
    · rw [List.mem_singleton.mp ha]; exact h1
  · have e1 : (g.phi ++ [p])[n]? = some a := e1
    by_cases hlt : n < M.length
    · rw [List.getElem?_append_left (by rw [k.len]; exact hlt)] at e1
      rw [List.getElem?_append_left hlt] at e2
      exact (k.node n a nd' e1 e2).keep rfl up
    · rw [List.getElem?_append_right (by omega)] at e2
      have hn0 : n - M.length = 0 := by
        have := (List.getElem?_eq_some_iff.mp e2).1
        simp at this; omega
      rw [hn0] at e2
      simp at e2
      subst e2
      rw [List.getElem?_append_right (by rw [k.len]; omega)] at e1
      rw [k.len, hn0] at e1
      simp at e1
      subst e1
      exact hn
theorem Step.enter (s : Step g H g' H') {p : Addr} (h : H p = none) : Step g H ⟨g'.phi ++ [p], g'.S⟩ H' := by
  obtain ⟨r, e⟩ := s.pre
  exact ⟨⟨r ++ [p], by show g'.phi ++ [p] = _; rw [e, List.append_assoc]⟩, s.ex, s.fr, s.fresh, fun b hb => by
    rcases List.mem_append.mp hb with hb | hb
    · exact s.nphi b hb
    · rw [List.mem_singleton.mp hb]; exact .inr h, s.nS⟩
def frz (xs : List Val) (M : Store) : Res Val := match pures xs with
  | some ds => .ok (.d (.list ds)) M
  | none => .stuck
def lay (xs : List Val) (M : Store) : Res Val := .ok (.ref M.length) (M ++ [.lst xs])
@[simp] theorem frz_map (xs : List PyData) (M : Store) : frz (xs.map Val.d) M = .ok (.d (.list xs)) M := by simp [frz]
theorem EvL.frz {te : TE} {m : Sm (List Val)} (h : EvL C E te m) : EvE C E te fun ρ M => (m ρ M).bind Z.frz := fun H0 g M H σ ρ Q o r p =>
  h H0 g M H σ ρ Q o r (p.bind0.imp fun xs g' M' H' o' st k q vs h1 h2 h3 h4 h5 => by
    unfold Z.frz at k
    cases e : pures xs with
    | none => rw [e] at k; exact k.elim
    | some ds =>
      rw [e] at k
      exact k.at ⟨o'.freeze h1 h4, st.freeze h3 h5⟩ _ (.lst upd_same (RpAll.mono (same_new h3) _ _ (repAll_of h2 e))))
theorem Rep.enter {v : V} {p : Addr} : ∀ {x : Val}, Rep C g v x → Rep C ⟨g.phi ++ [p], g.S⟩ v x
  | .d x, r => r
  | .ref n, ⟨a, e1, e2⟩ => ⟨a, by show (g.phi ++ [p])[n]? = _; rw [List.getElem?_append_left (List.getElem?_eq_some_iff.mp e1).1]; exact e1, e2⟩
  | .scr n, r => r
theorem rep_new {p : Addr} (o : Ok C g M H) : Rep C ⟨g.phi ++ [p], g.S⟩ (.ref p) (.ref M.length) := ⟨p, by show (g.phi ++ [p])[M.length]? = _; rw [← o.len]; simp, rfl⟩
theorem EvL.lay {te : TE} {m : Sm (List Val)} (h : EvL C E te m) : EvE C E te fun ρ M => (m ρ M).bind Z.lay := fun H0 g M H σ ρ Q o r p =>
  h H0 g M H σ ρ Q o r (p.bind0.imp fun xs g' M' H' o' st k q vs h1 h2 h3 h4 h5 => by
    exact k.at ⟨o'.enter h3 h4 ⟨vs, h1, Paired.mapP h2 fun _ _ r => r.enter⟩, st.enter h5⟩ _ (rep_new o'))
def layD (xs : List (Key × Val)) (M : Store) : Res Val := .ok (.ref M.length) (M ++ [.dic xs])
def frzD (xs : List (Key × Val)) (M : Store) : Res Val := match pureKv xs with
  | some ds => .ok (.d (.dict ds)) M
  | none => .stuck
theorem EvD.lay {te : TE} {m : Sm (List (Key × Val))} (h : EvD C E te m) : EvE C E te fun ρ M => (m ρ M).bind Z.layD := fun H0 g M H σ ρ Q o r p =>
  h H0 g M H σ ρ Q o r (p.bind0.imp fun xs g' M' H' o' st k q vs h1 h2 h3 h4 h5 => by
    exact k.at ⟨o'.enter h3 h4 ⟨vs, h1, Paired.mapP h2 fun _ _ r => ⟨r.1, r.2.enter⟩⟩, st.enter h5⟩ _ (rep_new o'))
theorem EvD.frz {te : TE} {m : Sm (List (Key × Val))} (h : EvD C E te m) : EvE C E te fun ρ M => (m ρ M).bind Z.frzD := fun H0 g M H σ ρ Q o r p =>
  h H0 g M H σ ρ Q o r (p.bind0.imp fun xs g' M' H' o' st k q vs h1 h2 h3 h4 h5 => by
    unfold Z.frzD at k
    cases e : pureKv xs with
    | none => rw [e] at k; exact k.elim
    | some ds =>
      rw [e] at k
      exact k.at ⟨o'.freeze h1 h4, st.freeze h3 h5⟩ _ (.dic upd_same (RpKv.mono (same_new h3) _ _ (repKv_of h2 e))))

/-! ### expressions -/
section
variable {ta tb tc te : TE} {ma mb mc m : Sm Val} {tt tu : TT} {mt mu : Sm Bool} {tA : TA} {mA : Sm (List Val)}
/-! names and constants -/
def eVar (i : Nat) : Sm Val := fun ρ M => match ρ[i]? with
  | some (some (.sh v)) => .ok v M
  | _ => .stuck
theorem ev_var {i : Nat} : EvE C E (tVar i) (eVar i) := fun H0 g M H σ ρ Q o r p => by
  unfold eVar at p
  cases h : ρ[i]? with
  | none => rw [h] at p; exact p.elim
  | some s =>
    rw [h] at p
    cases s with
    | none => exact p.elim
    | some s =>
      cases s with
      | sh v =>
        obtain ⟨u, h1, h2⟩ := r.sh i v h
        exact ⟨u, h1, p.here o u h2⟩
      | ol xs => exact p.elim
      | od xs => exact p.elim
/-- what one's own list or dict holds, read at once -/
def kvD : List (Key × PyData) → List (PyData × PyData) := List.map fun p => (keyD p.1, p.2)
def wVar (i : Nat) : Sm Val := fun ρ M => match ρ[i]? with
  | some (some (.sh v)) => .ok v M
  | some (some (.ol xs)) => .ok (.d (.list xs)) M
  | some (some (.od xs)) => .ok (.d (.dict (kvD xs))) M
  | _ => .stuck
def eC (x : PyData) : Sm Val := fun _ M => .ok (.d x) M
theorem ev_c {v : V} {x : PyData} (h : ∀ K S, Rp K S v x) : EvE C E (tC v) (eC x) := fun H0 g M H σ ρ Q o r p => p.here o v (h _ _)
theorem ev_int {i : Int} : EvE C E (tC (.int i)) (eC (.int i)) := ev_c fun _ _ => .int i
theorem ev_bl {b : Bool} : EvE C E (tC (.bl b)) (eC (.bool b)) := ev_c fun _ _ => .bl b
theorem ev_str {x : Str} : EvE C E (tC (.str x)) (eC (.str x)) := ev_c fun _ _ => .str x

def Op2 (C : Ctx) (E : XK) (r : R2) (f : PyData → PyData → Option PyData) : Prop := ∀ (g : G) (M : Store) (H : Hp) (v u : V) (x y z : PyData) (Q : VK), Ok C g M H → RpC C.K g.S H v x → RpC C.K g.S H u y → f x y = some z →
  Post C E g H (.ok (.d z) M) (fun z g' _ H' => ∀ u, Rep C g' u z → Q u H') → r v u H Q
def lift1 (f : PyData → Option PyData) (x : Val) (M : Store) : Res Val := match load M x with
  | some a => match f a with
    | some b => .ok (.d b) M
    | none => .stuck
  | none => .stuck
def lift2 (f : PyData → PyData → Option PyData) (x y : Val) (M : Store) : Res Val := match load M x, load M y with
  | some a, some b => match f a b with
    | some c => .ok (.d c) M
    | none => .stuck
  | _, _ => .stuck
def e1 (f : PyData → Option PyData) (ma : Sm Val) : Sm Val := fun ρ M => (ma ρ M).bind (lift1 f)
def e2 (f : PyData → PyData → Option PyData) (ma mb : Sm Val) : Sm Val := fun ρ M => (ma ρ M).bind fun x M1 => (mb ρ M1).bind fun y M2 => lift2 f x y M2
theorem ev_op {r : R2} {f : PyData → PyData → Option PyData} (op : Op2 C E r f) (ha : EvW C E ta ma) (hb : EvW C E tb mb) : EvE C E (tOp r ta tb) (e2 f ma mb) := fun H0 g M H σ ρ Q o r p =>
  ha H0 g M H σ ρ _ o r (p.bind.imp fun x g' M' H' o' st k v rv => hb H0 g' M' H' σ ρ _ o' (r.step st) (k.bind.imp fun y g2 M2 H2 o2 st2 k2 u ru => by
    unfold lift2 at k2
    cases e : load M2 x with
    | none => rw [e] at k2; exact k2.elim
    | some a =>
      cases e' : load M2 y with
      | none => rw [e, e'] at k2; exact k2.elim
      | some b =>
        rw [e, e'] at k2
        simp only at k2
        cases e3 : f a b with
        | none => rw [e3] at k2; exact k2.elim
        | some c =>
          rw [e3] at k2
          exact op g2 M2 H2 v u a b c Q o2 (((rv.step st2).here o2).load o2 e) ((ru.here o2).load o2 e') e3 k2))
end
end
end Z

/-! Z, part 2: operators with flat answers. -/
namespace Z
open PySem PySem.Spec PyProof.Rows L2

/-- room on the stack: what a rule over data asks -/
def Hu (X : Cx) : Prop := X.A.units + 180 < cLine
theorem hu_room {X : Cx} {k : Nat} (r : Room k X.A) : Hu X := by have := r.un; unfold Hu; omega

def flat : PyData → Option V
  | .none => some .non
  | .bool b => some (.bl b)
  | .int i => some (.int i)
  | .str x => some (.str x)
  | _ => none
theorem flat_rp {K : PySem.W.Frag} {S : Hp} : ∀ {d : PyData} {v : V}, flat d = some v → Rp K S v d
  | .none, _, h => by cases h; exact .non
  | .bool b, _, h => by cases h; exact .bl b
  | .int i, _, h => by cases h; exact .int i
  | .str x, _, h => by cases h; exact .str x
  | .list _, _, h => by cases h
  | .tuple _, _, h => by cases h
  | .dict _, _, h => by cases h
def rF2 (K : PySem.W.Frag) (f : PyData → PyData → Option PyData) : R2 := fun x y H Q => ∃ a b z v, Rp K H x a ∧ Rp K H y b ∧ f a b = some z ∧ flat z = some v ∧ Q v H
def rFn (K : PySem.W.Frag) (f : List PyData → Option PyData) : List V → Hp → VK → Prop := fun xs H Q => ∃ as z v, RpAll K H xs as ∧ f as = some z ∧ flat z = some v ∧ Q v H
section
variable {C : Ctx} {E : XK} {ta tb te : TE} {ma mb m : Sm Val} {tA : TA} {mA : Sm (List Val)}
theorem op2_flat {f : PyData → PyData → Option PyData} (hf : ∀ a b z, f a b = some z → (flat z).isSome = true) : Op2 C E (rF2 C.K f) f := fun g M H v u x y z Q o rx ry e p => by
  obtain ⟨w, hw⟩ := Option.isSome_iff_exists.mp (hf _ _ _ e)
  exact ⟨x, y, z, w, rx.rp o.ex, ry.rp o.ex, e, hw, p.here o w (flat_rp hw)⟩
end

/-! the operators on data -/
def cMul (i j : Int) : Bool := (decide (-(2 ^ 64) < i) && decide (i < 2 ^ 64)) || (decide (-(2 ^ 64) < j) && decide (j < 2 ^ 64))
def fSub : PyData → PyData → Option PyData
  | .int i, .int j => some (.int (i - j))
  | _, _ => none
def fMulI : PyData → PyData → Option PyData
  | .int i, .int j => if cMul i j = true then some (.int (i * j)) else none
  | _, _ => none
def fDiv : PyData → PyData → Option PyData
  | .int i, .int j => if 0 < j ∧ j < 1073741824 then some (.int (i / j)) else none
  | _, _ => none
def fMod : PyData → PyData → Option PyData
  | .int i, .int j => if 0 < j then some (.int (i % j)) else none
  | _, _ => none
def fAddF : PyData → PyData → Option PyData
  | .int i, .int j => some (.int (i + j))
  | .str a, .str b => if a.length + b.length ≤ sizeLine then some (.str (a ++ b)) else none
  | _, _ => none
def okEq (a b : PyData) : Bool := a.plain && b.plain && decide (min a.depth b.depth ≤ 90)
def fEq (a b : PyData) : Option PyData := if okEq a b = true then some (.bool (PyData.eqv a b)) else none
def fNe (a b : PyData) : Option PyData := if okEq a b = true then some (.bool (!PyData.eqv a b)) else none
def isNone : PyData → Bool
  | .none => true
  | _ => false
def okLt (a b : PyData) : Bool := PySem.W.alike a b && !isNone a && decide (min a.depth b.depth ≤ 90)
def fLt (a b : PyData) : Option PyData := if okLt a b = true then some (.bool (PySem.W.dataLt a b)) else none
def fLe (a b : PyData) : Option PyData := if okLt a b = true then some (.bool (!PySem.W.dataLt b a)) else none
def fGt (a b : PyData) : Option PyData := if okLt a b = true then some (.bool (PySem.W.dataLt b a)) else none
def fGe (a b : PyData) : Option PyData := if okLt a b = true then some (.bool (!PySem.W.dataLt a b)) else none
def okIn (x : PyData) (ys : List PyData) : Bool := PyData.plainAll ys && x.plain && decide (min (PyData.depthAll ys) x.depth ≤ 90)
theorem fl_if {c : Bool} {y z : PyData} (h : (if c = true then some y else none) = some z) : c = true ∧ z = y := by
  cases c with
  | true => exact ⟨rfl, (Option.some.inj (by simpa using h)).symm⟩
  | false => simp at h
section
variable {X : Cx} {C : Ctx} {E : XK}
theorem rint {K : PySem.W.Frag} {S : Hp} {v : V} {i : Int} (h : Rp K S v (.int i)) : v = .int i := by cases h; rfl
theorem rstr {K : PySem.W.Frag} {S : Hp} {v : V} {i : Str} (h : Rp K S v (.str i)) : v = .str i := by cases h; rfl
theorem rbl {K : PySem.W.Frag} {S : Hp} {v : V} {i : Bool} (h : Rp K S v (.bool i)) : v = .bl i := by cases h; rfl
theorem OpR.of {f : Value → Value → Sem Value} {r r' : R2} (h : OpR X f r) (i : ∀ x y H Q, r' x y H Q → r x y H Q) : OpR X f r' := fun pins s σ H x y v u Q I rx ry q => h pins s σ H x y v u Q I rx ry (i _ _ _ _ q)
theorem oz_mulI : OpR X (binaryOp .Mult) (rF2 X.K fMulI) := OpR.of op_mul fun x y H Q ⟨a, b, z, v, h1, h2, h3, h4, q⟩ => by
  unfold fMulI at h3
  split at h3
  · obtain ⟨hc, rfl⟩ := fl_if h3
    cases h4
    refine ⟨_, _, rint h1, rint h2, ?_, q⟩
    simpa [cMul, CMul] using hc
  · cases h3
theorem oz_div : OpR X (binaryOp .FloorDiv) (rF2 X.K fDiv) := OpR.of op_fdiv fun x y H Q ⟨a, b, z, v, h1, h2, h3, h4, q⟩ => by
  unfold fDiv at h3
  split at h3
  · split at h3
    · rename_i hc
      cases h3; cases h4; exact ⟨_, _, rint h1, rint h2, hc, q⟩
    · cases h3
  · cases h3
theorem oz_mod : OpR X (binaryOp .Mod) (rF2 X.K fMod) := OpR.of op_mod fun x y H Q ⟨a, b, z, v, h1, h2, h3, h4, q⟩ => by
  unfold fMod at h3
  split at h3
  · split at h3
    · rename_i hc
      cases h3; cases h4; exact ⟨_, _, rint h1, rint h2, hc, q⟩
    · cases h3
  · cases h3
theorem oz_eq (hu : Hu X) : OpR X (compareOp .Eq) (rF2 X.K fEq) := fun pins s σ H x y v u Q I rx ry ⟨a, b, z, w, h1, h2, h3, h4, q⟩ => by
  obtain ⟨hc, rfl⟩ := fl_if h3
  cases h4
  simp [okEq] at hc
  obtain ⟨as, r1⟩ := Rp.reads I (Same.refl H) a x v h1 rx
  obtain ⟨bs, r2⟩ := Rp.reads I (Same.refl H) b y u h2 ry
  exact PySem.SeqAt.eq_plain r1 r2 hc.1.1 hc.1.2 (by unfold Hu at hu; omega) ⟨.bl _, H, I, rfl, q⟩
theorem oz_ne (hu : Hu X) : OpR X (compareOp .NotEq) (rF2 X.K fNe) := fun pins s σ H x y v u Q I rx ry ⟨a, b, z, w, h1, h2, h3, h4, q⟩ => by
  obtain ⟨hc, rfl⟩ := fl_if h3
  cases h4
  simp [okEq] at hc
  obtain ⟨as, r1⟩ := Rp.reads I (Same.refl H) a x v h1 rx
  obtain ⟨bs, r2⟩ := Rp.reads I (Same.refl H) b y u h2 ry
  exact PySem.SeqAt.ne_plain r1 r2 hc.1.1 hc.1.2 (by unfold Hu at hu; omega) ⟨.bl _, H, I, rfl, q⟩
theorem nn {a : PyData} (h : (!isNone a) = true) : a ≠ .none := fun z => by subst z; simp [isNone] at h
theorem oz_lt (hu : Hu X) : OpR X (compareOp .Lt) (rF2 X.K fLt) := fun pins s σ H x y v u Q I rx ry ⟨a, b, z, w, h1, h2, h3, h4, q⟩ => by
  obtain ⟨hc, rfl⟩ := fl_if h3
  cases h4
  simp only [okLt, Bool.and_eq_true, decide_eq_true_eq] at hc
  obtain ⟨as, r1⟩ := Rp.reads I (Same.refl H) a x v h1 rx
  obtain ⟨bs, r2⟩ := Rp.reads I (Same.refl H) b y u h2 ry
  exact PySem.W.lt_data r1 r2 hc.1.1 (nn hc.1.2) (by unfold Hu at hu; omega) ⟨.bl _, H, I, rfl, q⟩
theorem oz_le (hu : Hu X) : OpR X (compareOp .LtE) (rF2 X.K fLe) := fun pins s σ H x y v u Q I rx ry ⟨a, b, z, w, h1, h2, h3, h4, q⟩ => by
  obtain ⟨hc, rfl⟩ := fl_if h3
  cases h4
  simp only [okLt, Bool.and_eq_true, decide_eq_true_eq] at hc
  obtain ⟨as, r1⟩ := Rp.reads I (Same.refl H) a x v h1 rx
  obtain ⟨bs, r2⟩ := Rp.reads I (Same.refl H) b y u h2 ry
  exact PySem.W.le_data r1 r2 hc.1.1 (nn hc.1.2) (by unfold Hu at hu; omega) ⟨.bl _, H, I, rfl, q⟩
theorem oz_gt (hu : Hu X) : OpR X (compareOp .Gt) (rF2 X.K fGt) := fun pins s σ H x y v u Q I rx ry ⟨a, b, z, w, h1, h2, h3, h4, q⟩ => by
  obtain ⟨hc, rfl⟩ := fl_if h3
  cases h4
  simp only [okLt, Bool.and_eq_true, decide_eq_true_eq] at hc
  obtain ⟨as, r1⟩ := Rp.reads I (Same.refl H) a x v h1 rx
  obtain ⟨bs, r2⟩ := Rp.reads I (Same.refl H) b y u h2 ry
  exact PySem.W.gt_data r1 r2 hc.1.1 (nn hc.1.2) (by unfold Hu at hu; omega) ⟨.bl _, H, I, rfl, q⟩
theorem fl_mulI : ∀ a b z, fMulI a b = some z → (flat z).isSome = true := fun a b z h => by
  unfold fMulI at h; split at h
  · obtain ⟨_, rfl⟩ := fl_if h; rfl
  · cases h
theorem fl_div : ∀ a b z, fDiv a b = some z → (flat z).isSome = true := fun a b z h => by
  unfold fDiv at h; split at h
  · split at h <;> cases h; rfl
  · cases h
theorem fl_mod : ∀ a b z, fMod a b = some z → (flat z).isSome = true := fun a b z h => by
  unfold fMod at h; split at h
  · split at h <;> cases h; rfl
  · cases h
theorem fl_eq : ∀ a b z, fEq a b = some z → (flat z).isSome = true := fun a b z h => by obtain ⟨_, rfl⟩ := fl_if h; rfl
theorem fl_ne : ∀ a b z, fNe a b = some z → (flat z).isSome = true := fun a b z h => by obtain ⟨_, rfl⟩ := fl_if h; rfl
theorem fl_lt : ∀ a b z, fLt a b = some z → (flat z).isSome = true := fun a b z h => by obtain ⟨_, rfl⟩ := fl_if h; rfl
theorem fl_le : ∀ a b z, fLe a b = some z → (flat z).isSome = true := fun a b z h => by obtain ⟨_, rfl⟩ := fl_if h; rfl
theorem fl_gt : ∀ a b z, fGt a b = some z → (flat z).isSome = true := fun a b z h => by obtain ⟨_, rfl⟩ := fl_if h; rfl
end
end Z

/-! Z, part 3: expressions. -/
namespace Z
open PySem PySem.Spec PyProof.Rows L2
section
variable {C : Ctx} {E : XK} {g g' : G} {H H' H0 : Hp} {M M' : Store}
variable {ta tb tc te : TE} {ma mb mc m : Sm Val} {tt tu : TT} {mt mu : Sm Bool} {tA tB : TA} {mA mB : Sm (List Val)}

/-! ### truth values -/
def asB (x : Val) (M : Store) : Res Bool := match x with
  | .d (.bool b) => .ok b M
  | _ => .stuck
@[simp] theorem asB_bool (b : Bool) (M : Store) : asB (.d (.bool b)) M = .ok b M := rfl
theorem asB_inv {C : Ctx} {E : XK} {g : G} {H : Hp} {M : Store} {x : Val} {v : V} {k : Bool → G → Store → Hp → Prop} (h : Post C E g H (asB x M) k) (r : RepX C g H v x) : ∃ b, x = .d (.bool b) ∧ v = .bl b ∧ Post C E g H (.ok b M) k := by
  cases x with
  | d x =>
    cases x with
    | bool b => exact ⟨b, rfl, RpC.bool r, h⟩
    | none => exact h.elim
    | int i => exact h.elim
    | str i => exact h.elim
    | list i => exact h.elim
    | tuple i => exact h.elim
    | dict i => exact h.elim
  | ref n => exact h.elim
  | scr n => exact h.elim
def eAnd (ma mb : Sm Val) : Sm Val := fun ρ M => (ma ρ M).bind fun x M1 => (asB x M1).bind fun b M2 => if b = true then mb ρ M2 else .ok (.d (.bool false)) M2
def eOr (ma mb : Sm Val) : Sm Val := fun ρ M => (ma ρ M).bind fun x M1 => (asB x M1).bind fun b M2 => if b = true then .ok (.d (.bool true)) M2 else mb ρ M2
def eNot (ma : Sm Val) : Sm Val := fun ρ M => (ma ρ M).bind fun x M1 => (asB x M1).bind fun b M2 => .ok (.d (.bool (!b))) M2
theorem ev_and (ha : EvW C E ta ma) (hb : EvE C E tb mb) : EvE C E (tAndV ta tb) (eAnd ma mb) := fun H0 g M H σ ρ Q o r p =>
  ha H0 g M H σ ρ _ o r (p.bind.imp fun x g' M' H' o' st k v rv => by
    have k : Post C E g' H' ((asB x M').bind _) _ := k
    obtain ⟨b, rfl, rfl, k⟩ := asB_inv k.bind (rv.here o')
    have k := k.here o'
    refine ⟨b, rfl, ?_⟩
    cases b with
    | true => exact hb H0 g' M' H' σ ρ _ o' (r.step st) k
    | false => exact k.here o' _ (.bl false))
theorem ev_not (ha : EvW C E ta ma) : EvE C E (tNotV ta) (eNot ma) := fun H0 g M H σ ρ Q o r p =>
  ha H0 g M H σ ρ _ o r (p.bind.imp fun x g' M' H' o' st k v rv => by
    have k : Post C E g' H' ((asB x M').bind _) _ := k
    obtain ⟨b, rfl, rfl, k⟩ := asB_inv k.bind (rv.here o')
    have k := k.here o'
    exact ⟨b, rfl, k.here o' _ (.bl _)⟩)
/-! tests -/
def tVal (m : Sm Val) : Sm Bool := fun ρ M => (m ρ M).bind asB
theorem et_B (h : EvW C E te m) : EvT C E (L2.tB te) (tVal m) := fun H0 g M H σ ρ Q o r p =>
  h H0 g M H σ ρ _ o r (p.bind.imp fun x g' M' H' o' st k v rv => by
    obtain ⟨b, rfl, rfl, k⟩ := asB_inv k (rv.here o')
    exact ⟨b, rfl, k.here o'⟩)
theorem et_test (h : EvW C E te m) : EvT C E (tTest te) (tVal m) := fun H0 g M H σ ρ Q o r p =>
  h H0 g M H σ ρ _ o r (p.bind.imp fun x g' M' H' o' st k v rv => by
    obtain ⟨b, rfl, rfl, k⟩ := asB_inv k (rv.here o')
    exact ⟨b, rfl, k.here o'⟩)
def tAndM (mt mu : Sm Bool) : Sm Bool := fun ρ M => (mt ρ M).bind fun b M1 => if b = true then mu ρ M1 else .ok false M1
def tOrM (mt mu : Sm Bool) : Sm Bool := fun ρ M => (mt ρ M).bind fun b M1 => if b = true then .ok true M1 else mu ρ M1
def tNotM (mt : Sm Bool) : Sm Bool := fun ρ M => (mt ρ M).bind fun b M1 => .ok (!b) M1
theorem et_or (h1 : EvT C E tt mt) (h2 : EvT C E tu mu) : EvT C E (tOr tt tu) (tOrM mt mu) := fun H0 g M H σ ρ Q o r p =>
  h1 H0 g M H σ ρ _ o r (p.bind.imp fun b g' M' H' o' st k => by
    cases b with
    | false => exact h2 H0 g' M' H' σ ρ _ o' (r.step st) k
    | true => exact k.here o')
theorem et_not (h1 : EvT C E tt mt) : EvT C E (tNot tt) (tNotM mt) := fun H0 g M H σ ρ Q o r p =>
  h1 H0 g M H σ ρ _ o r (p.bind.imp fun b g' M' H' o' st k => k.here o')
def eIf (mt : Sm Bool) (ma mb : Sm Val) : Sm Val := fun ρ M => (mt ρ M).bind fun b M1 => if b = true then ma ρ M1 else mb ρ M1
/-! a chain of two comparisons -/
def eChain (f f' : PyData → PyData → Option PyData) (ma mb mc : Sm Val) : Sm Val := fun ρ M => (ma ρ M).bind fun x M1 => (mb ρ M1).bind fun y M2 => (lift2 f x y M2).bind fun z M3 => (asB z M3).bind fun b M4 =>
  if b = true then (mc ρ M4).bind fun w M5 => lift2 f' y w M5 else .ok (.d (.bool false)) M4
theorem lift2_at {f : PyData → PyData → Option PyData} {r : R2} (op : Op2 C E r f) {x y : Val} {v u : V} {Q : VK} {M : Store} {g : G} {H : Hp} (o : Ok C g M H) (rx : RepX C g H v x) (ry : RepX C g H u y)
    (k : Post C E g H (lift2 f x y M) (fun z g' _ H' => ∀ u, Rep C g' u z → Q u H')) : r v u H Q := by
  unfold lift2 at k
  cases e : load M x with
  | none => rw [e] at k; exact k.elim
  | some a =>
    cases e' : load M y with
    | none => rw [e, e'] at k; exact k.elim
    | some b =>
      rw [e, e'] at k
      simp only at k
      cases e3 : f a b with
      | none => rw [e3] at k; exact k.elim
      | some c =>
        rw [e3] at k
        exact op g M H v u a b c Q o (rx.load o e) (ry.load o e') e3 k
theorem ev_chain {r r' : R2} {f f' : PyData → PyData → Option PyData} (op : Op2 C E r f) (op' : Op2 C E r' f') (ha : EvW C E ta ma) (hb : EvW C E tb mb) (hc : EvW C E tc mc) : EvE C E (tChain r r' ta tb tc) (eChain f f' ma mb mc) := fun H0 g M H σ ρ Q o r p =>
  ha H0 g M H σ ρ _ o r (p.bind.imp fun x g' M' H' o' st k v rv => hb H0 g' M' H' σ ρ _ o' (r.step st) (k.bind.imp fun y g2 M2 H2 o2 st2 k2 u ru => by
    refine lift2_at op o2 ((rv.step st2).here o2) (ru.here o2) (k2.bind.imp fun z g3 M3 H3 o3 st3 k3 d rd => ?_)
    have k3 : Post C E g3 H3 ((asB z M3).bind _) _ := k3
    obtain ⟨b, rfl, rfl, k4⟩ := asB_inv k3.bind rd.x
    have k4 := k4.here o3
    refine ⟨b, rfl, ?_⟩
    cases b with
    | true => exact hc H0 g3 M3 H3 σ ρ _ o3 (((r.step st).step st2).step st3) (k4.bind.imp fun w g5 M5 H5 o5 st5 k5 d' rd' => lift2_at op' o5 (((ru.step st3).step st5).here o5) (rd'.here o5) k5)
    | false => exact k4.here o3 _ (.bl false)))

/-! ### arguments -/
def aNil : Sm (List Val) := fun _ M => .ok [] M
def aCons (m : Sm Val) (mA : Sm (List Val)) : Sm (List Val) := fun ρ M => (m ρ M).bind fun x M1 => (mA ρ M1).bind fun xs M2 => .ok (x :: xs) M2
theorem ea_nil : EvA C E tNil aNil := fun H0 g M H σ ρ Q o r p => p.here o [] .nil
theorem ea_cons (h : EvE C E te m) (hr : EvA C E tA mA) : EvA C E (tCons te tA) (aCons m mA) := fun H0 g M H σ ρ Q o r p =>
  h H0 g M H σ ρ _ o r (p.bind.imp fun x g' M' H' o' st k v rv => hr H0 g' M' H' σ ρ _ o' (r.step st) (k.bind.imp fun xs g2 M2 H2 o2 st2 k2 vs rs => k2.here o2 _ (.cons (rv.step st2) rs)))
theorem eaw_nil : EvAW C E tNil aNil := fun H0 g M H σ ρ Q o r p => p.here o [] .nil
theorem eaw_cons (h : EvW C E te m) (hr : EvAW C E tA mA) : EvAW C E (tCons te tA) (aCons m mA) := fun H0 g M H σ ρ Q o r p =>
  h H0 g M H σ ρ _ o r (p.bind.imp fun x g' M' H' o' st k v rv => hr H0 g' M' H' σ ρ _ o' (r.step st) (k.bind.imp fun xs g2 M2 H2 o2 st2 k2 vs rs => k2.here o2 _ (.cons (rv.step st2) rs)))
/-! displays -/
/-- a new tuple, its object known -/
def NewT (H : Hp) (xs : List V) (Q : VK) : Prop := ∀ (p : Addr) (ob : Obj), H p = none → ob.dict = none → Q (.ref p) (upd H p (.frz ob (.tup xs)))
theorem newT_go {X : Cx} {pins : List (Addr × Obj)} {s : Shared} {xs : List V} {its : List Value} {Q : VK} (I : Inv X pins σ H s) (r : Vals xs its) (z : xs.length ≤ sizeLine) (q : NewT H xs Q) :
    EP X pins σ Q (.ref s.heap.objs.size) { s with heap := s.heap.push { cls := .type "tuple", data := .seq its.toArray } } := by
  refine ⟨.ref _, _, I.laid (t' := s.toks) (o := .frz { cls := .type "tuple", data := .seq its.toArray } (.tup xs)) (fun _ _ e => Heap.get?_push_of_some _ e) (Nat.le_refl _) ?_, rfl, q _ _ (I.hok.fresh (Nat.le_refl _)) rfl⟩
  exact ⟨Heap.get?_push_size _ rfl, z, its, r, IsTup.new _ _⟩
def mkTup (xs : List Val) (M : Store) : Res Val := match pures xs with
  | some ds => .ok (.d (.tuple ds)) M
  | none => .ok (.ref M.length) (M ++ [.tup xs])
@[simp] theorem mkTup_map (xs : List PyData) (M : Store) : mkTup (xs.map Val.d) M = .ok (.d (.tuple xs)) M := by simp [mkTup]
def sz (xs : List Val) (M : Store) : Res (List Val) := if xs.length ≤ 100000 then .ok xs M else .stuck
theorem el_lst (h : EvA C E tA mA) : EvL C E (tLst tA) (fun ρ M => (mA ρ M).bind sz) := fun H0 g M H σ ρ Q o r p =>
  h H0 g M H σ ρ _ o r (p.bind0.imp fun xs g' M' H' o' st k vs rs => by
    have hl := Paired.length rs
    unfold sz at k
    by_cases hz : xs.length ≤ 100000
    · rw [if_pos hz] at k
      refine ⟨by rw [hl, sizeLine_eq]; omega, fun q hq => ?_⟩
      have nw := o'.newO (o := .lst vs) hq
      exact k g' (upd H' q (.lst vs)) nw.1 (st.trans nw.2) q vs upd_same rs (o'.free hq).1 (o'.free hq).2 (st.fresh q hq)
    · rw [if_neg hz] at k; exact k.elim)

/-! ### built-in functions with a flat answer -/
def loads (M : Store) : List Val → Option (List PyData)
  | [] => some []
  | x :: xs => match load M x, loads M xs with
    | some a, some r => some (a :: r)
    | _, _ => none
@[simp] theorem loads_nil (M : Store) : loads M [] = some [] := rfl
theorem loads_cons {M : Store} {x : Val} {xs : List Val} {ds : List PyData} (h : loads M (x :: xs) = some ds) : ∃ a r, load M x = some a ∧ loads M xs = some r ∧ ds = a :: r := by
  unfold loads at h
  cases e : load M x with
  | none => rw [e] at h; cases h
  | some a =>
    cases e2 : loads M xs with
    | none => rw [e, e2] at h; cases h
    | some r => rw [e, e2] at h; exact ⟨a, r, rfl, rfl, (Option.some.inj h).symm⟩
inductive RpCs (K : PySem.W.Frag) (S H : Hp) : List V → List PyData → Prop
  | nil : RpCs K S H [] []
  | cons {v : V} {vs : List V} {d : PyData} {ds : List PyData} : RpC K S H v d → RpCs K S H vs ds → RpCs K S H (v :: vs) (d :: ds)
theorem RpCs.rp {K : PySem.W.Frag} {S H : Hp} (s : Same S H) : ∀ {vs : List V} {ds : List PyData}, RpCs K S H vs ds → RpAll K H vs ds
  | _, _, .nil => .nil
  | _, _, .cons h t => .cons (h.rp s) (t.rp s)
theorem loads_rp {vs : List V} : ∀ {xs : List Val} {ds : List PyData}, Ok C g M H → Paired (RepW C g H) vs xs → loads M xs = some ds → RpCs C.K g.S H vs ds := by
  intro xs ds o h e
  induction h generalizing ds with
  | nil => simp at e; subst e; exact .nil
  | cons h1 h2 ih =>
    obtain ⟨a, r, e1, e2, rfl⟩ := loads_cons e
    exact .cons ((h1.here o).load o e1) (ih e2)
def Opn (C : Ctx) (E : XK) (r : List V → Hp → VK → Prop) (f : List PyData → Option PyData) : Prop := ∀ (g : G) (M : Store) (H : Hp) (vs : List V) (xs : List PyData) (y : PyData) (Q : VK), Ok C g M H → RpCs C.K g.S H vs xs → f xs = some y →
  Post C E g H (.ok (.d y) M) (fun z g' _ H' => ∀ u, Rep C g' u z → Q u H') → r vs H Q
theorem opn_flat {f : List PyData → Option PyData} (hf : ∀ a z, f a = some z → (flat z).isSome = true) : Opn C E (rFn C.K f) f := fun g M H v x y Q o rx e p => by
  obtain ⟨w, hw⟩ := Option.isSome_iff_exists.mp (hf _ _ e)
  exact ⟨x, y, w, rx.rp o.ex, e, hw, p.here o w (flat_rp hw)⟩
def liftn (f : List PyData → Option PyData) (xs : List Val) (M : Store) : Res Val := match loads M xs with
  | some as => match f as with
    | some b => .ok (.d b) M
    | none => .stuck
  | none => .stuck
def eCB (f : List PyData → Option PyData) (mA : Sm (List Val)) : Sm Val := fun ρ M => (mA ρ M).bind (liftn f)
theorem liftn_at {f : List PyData → Option PyData} {r : List V → Hp → VK → Prop} (op : Opn C E r f) {xs : List Val} {vs : List V} {Q : VK} {M : Store} {g : G} {H : Hp} (o : Ok C g M H) (rx : Paired (RepW C g H) vs xs)
    (k : Post C E g H (liftn f xs M) (fun z g' _ H' => ∀ u, Rep C g' u z → Q u H')) : r vs H Q := by
  unfold liftn at k
  cases e : loads M xs with
  | none => rw [e] at k; exact k.elim
  | some a =>
    rw [e] at k
    simp only at k
    cases e3 : f a with
    | none => rw [e3] at k; exact k.elim
    | some c =>
      rw [e3] at k
      exact op g M H vs a c Q o (loads_rp o rx e) e3 k
theorem ev_cb {f : List PyData → Option PyData} {r : List V → Hp → VK → Prop} (op : Opn C E r f) (ha : EvAW C E tA mA) : EvE C E (tCB r tA) (eCB f mA) := fun H0 g M H σ ρ Q o r p =>
  ha H0 g M H σ ρ _ o r (p.bind.imp fun xs g' M' H' o' st k vs rs => liftn_at op o' rs k)
end
end Z

/-! Z, part 4: a def's promise where it is known which guards stand on the stack (none), and calls by it. -/
namespace Z
open PySem PySem.Spec PyProof.Rows L2

structure FnG (P : Program) (w : World) (K : PySem.W.Frag) (mg : Str → Option Value) (base : Heap) (k : Nat) (f : Addr) (fd : FuncData) (ps : List Str) (sp : Sp) : Prop where
  len : ∀ vs H Q E, sp vs H Q E → vs.length = ps.length
  go : ∀ (A : Around) (out : List Env) (s : Shared) (H : Hp) (args : Args) (us : List Value) (vs : List V) (Q : VK) (E : XK), A.guards = some [] → Room k A → Env0 P w K mg base A out s H →
    BindsTo s fd args (ps.zip us) → Vals vs us → sp vs H Q E → codeAny (model P w) A (.call (.ref f) args) (CR (L2N.CX P w) out P w H s Q E) s
theorem FnG.up {P : Program} {w : World} {K : PySem.W.Frag} {mg : Str → Option Value} {base : Heap} {j k : Nat} {f : Addr} {fd : FuncData} {ps : List Str} {sp : Sp} (F : FnG P w K mg base j f fd ps sp) (h : j ≤ k) : FnG P w K mg base k f fd ps sp :=
  ⟨F.len, fun A out s H args us vs Q E hg hr => F.go A out s H args us vs Q E hg (hr.mono h)⟩

section
variable {P : Program} {w : World} {K : PySem.W.Frag} {mg : Str → Option Value} {base : Heap}
/-- a def's body keeps the promise -/
theorem fnG_ofC {x qual : Str} {st : Stmt} {f : Addr} {fd : FuncData} {N ps : List Str} {k : Nat} {sp : Sp} (F : Fun K x qual st f fd) (S : FnScope N ps (defScope st)) (hlen : ∀ vs H Q E, sp vs H Q E → vs.length = ps.length)
    (body : ∀ (cd : Value) (A : Around) (out : List Env) (s : Shared) (H : Hp) (vs : List V) (Q : VK) (E : XK), fd.code = cd → A.guards = some [] → Room k (A.deeper (envOfC qual (defScope st) s.heap.objs.size f cd)) → sp vs H Q E →
      ∃ t, PSs (cxOf (L2N.CX P w) P w K mg base N qual (defScope st) f cd A out s H E) (defBody st) t ∧ t { nx := fun _ H' => Q .non H', rt := Q } (L2.start N vs) H) :
    FnG P w K mg base (k + 1) f fd ps sp := by
  obtain ⟨oc, od, kV, doc, pm, an, cd, ct, osl, e, look, code⟩ := F.ex
  subst e
  constructor
  · exact hlen
  intro A out s H args us vs Q E hg room en bd rv hp
  have hl := hlen _ _ _ _ hp
  have old : ∀ b o, base.get? b = some o → s.heap.get? b = some o := fun b o q => (en.bs b o q).1
  have kinds : ∀ y ∈ ps.zip us, (defScope st).names.lookup y.1 = some .local ∨ ((defScope st).names.lookup y.1 = some .cell ∧ ((cellsFrom (s.heap.objs.size + 1) (defScope st).names []).lookup y.1).isSome = true) := by
    rintro ⟨n, v⟩ hy
    rcases S.par n (List.of_mem_zip hy).1 with q | q
    · left; exact q
    · right; exact ⟨q, PySem.W.cellsFrom_some _ _ _ (.inl q)⟩
  refine codeAny_call_function room.depth ((en.mod.kin.keeps old) _ _ look) rfl S.co S.gen rfl (PySem.W.codeRec_of (en.mod.kin.keeps old) code) (bd _ _ _ _ ?_)
  refine wpAny_newFunctionEnv_cells S.kind kinds fun env ee s1 xx => ?_
  subst ee
  refine ⟨(en.mod.nolimit.keeps old).keeps xx.toInCall.keep, codeAny_func ?_⟩
  obtain ⟨t, ht, hq⟩ := body cd A out s H vs Q E rfl hg (room.deeper _) hp
  have J0 := inv_start (CX := L2N.CX P w) (E := E) S room.hd en hl rv xx
  refine wpAny_mono (ht.run [] s1 _ H _ J0 hq) ?_ (fun _ _ z => z)
  intro fl s' z
  cases fl with
  | ret u => obtain ⟨v, _, H', J, r, q⟩ := z; exact ⟨v, H', J.os, J.bare, J.base, J.hok, r, q⟩
  | next => obtain ⟨_, H', J, q⟩ := z; exact ⟨.non, H', J.os, J.bare, J.base, J.hok, rfl, q⟩
  | brk => obtain ⟨_, _, _, q⟩ := z; exact q.elim
  | cont => obtain ⟨_, _, _, q⟩ := z; exact q.elim
theorem fnG_of {x qual : Str} {st : Stmt} {f : Addr} {fd : FuncData} {N ps : List Str} {k : Nat} {sp : Sp} (F : Fun K x qual st f fd) (S : FnScope N ps (defScope st)) (hlen : ∀ vs H Q E, sp vs H Q E → vs.length = ps.length)
    (body : ∀ (cd : Value) (A : Around) (out : List Env) (s : Shared) (H : Hp) (vs : List V) (Q : VK) (E : XK), A.guards = some [] → Room k (A.deeper (envOfC qual (defScope st) s.heap.objs.size f cd)) → sp vs H Q E →
      ∃ t, PSs (cxOf (L2N.CX P w) P w K mg base N qual (defScope st) f cd A out s H E) (defBody st) t ∧ t { nx := fun _ H' => Q .non H', rt := Q } (L2.start N vs) H) :
    FnG P w K mg base (k + 1) f fd ps sp :=
  fnG_ofC F S hlen fun cd A out s H vs Q E _ hg hr hp => body cd A out s H vs Q E hg hr hp
end

section
variable {X : Cx} {k : Nat} {f Cl : Addr} {fd : FuncData} {ps : List Str} {sp : Sp} {E : XK} {x m : Str} {p pos apos : Pos} {e o : Expr} {es : List Expr} {ta : TE} {t : TA}
abbrev Ps (X : Cx) (E : XK) : Prop := Passes (L2N.CX X.prog X.w) X E
theorem runG {pins : List (Addr × Obj)} {σ : L2.St} {H : Hp} {s : Shared} {Q : VK} {us : List Value} {vs : List V} (F : FnG X.prog X.w X.K X.mg X.base k f fd ps sp) (hg : X.A.guards = some []) (hr : Room k X.A) (hb : Binds X.K fd ps []) (hx : Ps X E)
    (I : Inv X pins σ H s) (r : Vals vs us) (h : sp vs H Q E) : wpAny (model X.prog X.w) X.A (call (.ref f) us) (EP X pins σ Q) X.xe s := by
  have n1 : us.length = ps.length := r.length.symm.trans (F.len _ _ _ _ h)
  have bb : BindsTo s fd ⟨us, []⟩ (ps.zip us) := by
    have := hb s us I.kIn (by simpa using n1)
    simpa using this
  refine wpAny_call (codeAny_mono (F.go _ _ _ _ _ _ _ _ _ hg hr I.env0 bb r h) ?_)
  intro res s' hq
  match res, hq with
  | .error ex, hq => exact hx pins σ H s ex s' I hq
  | .ok (.ret u), hq => exact I.after hq
theorem pe_callG (F : FnG X.prog X.w X.K X.mg X.base k f fd ps sp) (hgd : X.A.guards = some []) (hr : Room k X.A) (hg : Gl X x) (hm : X.mg x = some (.ref f)) (hk : PySem.W.keepIn X.K (.ref f) = true) (hb : Binds X.K fd ps []) (hx : Ps X E)
    (ha : PA X (e :: es) t) (hdb : (x == ("__debug__" : Str)) = false := by decide) (he : starEach (e :: es) X.env = (false, eval e X.env) :: starEach es X.env := by rfl)
    (hpl : (backTo pos (starEach es X.env)).any (·.1) = false := by rfl) : PE X (.Call (.Name x p) (e :: es) [] pos) (tCall sp [] E t) := by
  constructor
  intro pins s σ H Q I h
  refine wpAny_Call_Name_kw (ld_glob I hg hm (PySem.W.callWith_K (h₀ := X.base) I.ok.mod.kin hk (thn (ha.run pos pins s σ H _ I h) ?_) he hpl) hdb)
  rintro us s1 ⟨vs, H1, I1, r, q⟩
  refine ⟨I1.kIn, runG F hgd hr hb hx I1 r ?_⟩
  simpa using q
end
end Z

/-! Z, part 5: what is walked: a list or a tuple, by itself, under enumerate, two of them under zip. -/
namespace Z
open PySem PySem.Spec PyProof.Rows L2

/-- true: a list; false: a tuple -/
def sqK (k : Bool) (K : PySem.W.Frag) (H : Hp) (a : Addr) (xs : List V) : Prop := if k then SqL K H a xs else SqT K H a xs
def isK (k : Bool) (h : Heap) (a : Addr) (its : Array Value) : Prop := if k then h.IsList a its else h.IsTuple a its
def itK (k : Bool) (h : Heap) (it a : Addr) (i : Nat) : Prop := if k then h.IsListIter it a i else h.IsTupleIter it a i
theorem sqK_at {X : Cx} {pins : List (Addr × Obj)} {σ : L2.St} {H : Hp} {s : Shared} {k : Bool} {a : Addr} {xs : List V} (I : Inv X pins σ H s) (h : sqK k X.K H a xs) : ∃ its : List Value, Vals xs its ∧ isK k s.heap a its.toArray ∧ a < s.heap.objs.size := by
  cases k with
  | true =>
    obtain ⟨its, r, p, _⟩ := I.list h
    exact ⟨its, r, p.isList, p.lt⟩
  | false =>
    obtain ⟨its, r, p, _⟩ := I.tuple h
    exact ⟨its, r, p, p.lt⟩
theorem sqK_one {X : Cx} {pins : List (Addr × Obj)} {σ : L2.St} {H : Hp} {s : Shared} {k : Bool} {a : Addr} {xs ys : List V} (I : Inv X pins σ H s) (h : sqK k X.K H a xs) (h' : sqK k X.K H a ys) : xs = ys := by
  cases k with
  | true => exact I.list_inj h h'
  | false => exact I.tuple_inj h h'
theorem drawK {prog : Program} {w : World} {A : Around} (hh : A.handled = none) (k : Bool) (it a : Addr) (ne : a ≠ it) (items : Array Value) :
    Draws prog w A it [it, a] items.size (fun i v => items[i]? = some v) (fun i h => itK k h it a i ∧ isK k h a items) := by
  cases k with
  | true => exact Draws.list hh it a ne items
  | false => exact Draws.tuple hh it a ne items
theorem itK_obj {k : Bool} {h : Heap} {it a : Addr} {i : Nat} (x : itK k h it a i) : ∃ o, h.get? it = some o ∧ ∀ v, o.data ≠ .cell v := by
  cases k with
  | true => obtain ⟨o, e, _, d⟩ := x; exact ⟨o, e, fun v z => by rw [d] at z; cases z⟩
  | false => obtain ⟨o, e, _, d⟩ := x; exact ⟨o, e, fun v z => by rw [d] at z; cases z⟩
theorem itK_keep {k : Bool} {h h' : Heap} {it a : Addr} {i : Nat} (x : itK k h it a i) (e : ∀ o, h.get? it = some o → h'.get? it = some o) : itK k h' it a i := by
  cases k with
  | true => exact Heap.IsListIter.at x e
  | false => exact Heap.IsTupleIter.at x e
/-! zip(a, b) -/
def ItZ (K : PySem.W.Frag) (k1 k2 : Bool) (a b : Addr) : It where
  go := fun i H => ∃ xs ys x y, sqK k1 K H a xs ∧ sqK k2 K H b ys ∧ xs[i]? = some x ∧ ys[i]? = some y
  yld := fun i H v H' => ∃ T x y ob, v = .ref T ∧ H T = none ∧ H' = upd H T (.frz ob (.tup [x, y])) ∧ Obj.dict ob = none ∧ (∀ xs, sqK k1 K H a xs → xs[i]? = some x) ∧ ∀ ys, sqK k2 K H b ys → ys[i]? = some y
  stop := fun i H => ∃ xs ys, sqK k1 K H a xs ∧ sqK k2 K H b ys ∧ i = min xs.length ys.length
/-- a turn of zip: the pair's object told -/
theorem zip_turn {prog : Program} {w : World} {A : Around} {elts : List Expr} {kk : Nat} {pos : Pos} {z TI TO i1 i2 : Addr} {fp1 fp2 : List Addr} {n1 n2 i : Nat} {P1 P2 : Nat → Value → Prop} {St1 St2 : Nat → Heap → Prop}
    (S : ZipSep2 z TI TO i1 i2 fp1 fp2) (D1 : Draws prog w A.in1 i1 fp1 n1 P1 St1) (D2 : Draws prog w A.in1 i2 fp2 n2 P2 St2) {s : Shared} {Q : Value → Shared → Prop} {E : Value → Shared → Prop} (l1 : i < n1) (l2 : i < n2)
    (hz : IsZip s.heap z TI TO .none) (hTI : IsTupOf2 s.heap TI (.ref i1) (.ref i2)) (hTO : ∃ a1 a2, IsTupOf2 s.heap TO a1 a2) (st1 : St1 i s.heap) (st2 : St2 i s.heap)
    (go : ∀ x y h' tk, P1 i x → P2 i y → IsTupOf2 h' s.heap.objs.size x y → IsZip h' z TI TO .none → IsTupOf2 h' TI (.ref i1) (.ref i2) → IsTupOf2 h' TO x y → St1 (i + 1) h' → St2 (i + 1) h' →
      (∀ b o, b ≠ z → b ≠ TO → b ≠ i1 → b ≠ i2 → s.heap.get? b = some o → h'.get? b = some o) → Q (.ref s.heap.objs.size) { s with heap := h', toks := tk }) :
    wpAny (model prog w) A (pyNext (.ref z)) (fun r s₁ => ∃ v, r = some v ∧ wpAny (model prog w) A (letOwnedTupleGo (.Tuple elts kk pos) (.ref z) v) (fun _ s₂ => Q v s₂) E s₁) E s := by
  obtain ⟨a1, a2, hTO⟩ := hTO
  refine wpAny_pyNext_zipD2_item S D1 D2 hz hTI hTO st1 st2 l1 l2 ?_
  intro x y h' tk px py gz gT s1 s2 gn _ hk
  refine ⟨_, rfl, wpAny_letOwnedTupleGo_zip gz ?_⟩
  intro h₂ z₂ k₂
  have ne : s.heap.objs.size ≠ z := Nat.ne_of_gt (Heap.lt_size hz)
  exact go x y h₂ tk px py (k₂.extBut _ _ ne gn) z₂ (k₂.extBut _ _ S.TIz (hk _ _ S.TIz S.TITO S.TIi1 S.TIi2 hTI)) (k₂.extBut _ _ S.TOz gT) (D1.over s1 k₂ S.zf1) (D2.over s2 k₂ S.zf2)
    fun b o b1 b2 b3 b4 e => k₂.extBut _ _ b1 (hk b o b1 b2 b3 b4 e)
theorem turnZ {P : Program} {w : World} {K : PySem.W.Frag} {elts : List Expr} {kk : Nat} {tpos : Pos} {k1 k2 : Bool} {a b z TI TO i1 i2 : Addr} (D : ZipSep2 z TI TO i1 i2 [i1, a] [i2, b]) (n1 : a ≠ i1) (n2 : b ≠ i2) :
    Turn P w K (.Tuple elts kk tpos) (ItZ K k1 k2 a b) [z, TI, TO, i1, i2] z
      (fun i h => IsZip h z TI TO .none ∧ IsTupOf2 h TI (.ref i1) (.ref i2) ∧ (∃ x y, IsTupOf2 h TO x y) ∧ itK k1 h i1 a i ∧ itK k2 h i2 b i) where
  mem := by simp
  obj := by
    rintro i h ⟨hz, q1, ⟨x, y, q2⟩, h1, h2⟩ c hc
    simp only [List.mem_cons, List.not_mem_nil, or_false] at hc
    rcases hc with rfl | rfl | rfl | rfl | rfl
    · exact ⟨_, hz, fun v q => nomatch q⟩
    · exact ⟨_, q1, fun v q => nomatch q⟩
    · exact ⟨_, q2, fun v q => nomatch q⟩
    · exact itK_obj h1
    · exact itK_obj h2
  keep := by
    rintro i h h' ⟨hz, hTI, ⟨x, y, hTO⟩, h1, h2⟩ kp
    exact ⟨kp z (by simp) _ hz, kp TI (by simp) _ hTI, ⟨x, y, kp TO (by simp) _ hTO⟩, itK_keep h1 (kp i1 (by simp)), itK_keep h2 (kp i2 (by simp))⟩
  item := by
    intro X eP ew eK hc i pins s σ H E I hf st hg
    subst eP ew eK
    obtain ⟨hz, hTI, hTO, h1, h2⟩ := st
    obtain ⟨xs, ys, x, y, sx, sy, ex, ey⟩ := hg
    obtain ⟨its, rv, p1, _⟩ := sqK_at I sx
    obtain ⟨jts, rw', p2, _⟩ := sqK_at I sy
    have hh : X.A.in1.handled = none := I.ok.hd hc
    have l1 : i < its.toArray.size := by
      have := (List.getElem?_eq_some_iff.mp ex).1
      rw [rv.length] at this; simpa using this
    have l2 : i < jts.toArray.size := by
      have := (List.getElem?_eq_some_iff.mp ey).1
      rw [rw'.length] at this; simpa using this
    refine zip_turn (i := i) D (drawK hh k1 i1 a n1 its.toArray) (drawK hh k2 i2 b n2 jts.toArray) l1 l2 hz hTI hTO ⟨h1, p1⟩ ⟨h2, p2⟩ ?_
    rintro u u' h' tk e1 e2 tup z' TI' TO' ⟨h1', _⟩ ⟨h2', _⟩ keep
    generalize hT : s.heap.objs.size = T at tup
    obtain ⟨w1, g1, r1⟩ := rv.get ex
    obtain ⟨w2, g2, r2⟩ := rw'.get ey
    have q1 : w1 = u := by rw [List.getElem?_toArray, g1] at e1; exact Option.some.inj e1
    have q2 : w2 = u' := by rw [List.getElem?_toArray, g2] at e2; exact Option.some.inj e2
    subst q1 q2
    have new : ObjOk X.prog X.w (upd H T (.frz { cls := .type "tuple", data := .seq #[w1, w2] } (.tup [x, y]))) h' T (.frz { cls := .type "tuple", data := .seq #[w1, w2] } (.tup [x, y])) := ⟨tup, by show 2 ≤ sizeLine; decide, [w1, w2], .cons r1 (.cons r2 .nil), ⟨_, tup, rfl, _, rfl⟩⟩
    have bigT : s.heap.objs.size ≤ T := by rw [hT]; exact Nat.le_refl _
    have J := I.turnedNew (t' := tk) (ch := [z, TI, TO, i1, i2]) (fun c o hb q => keep c o (fun m => hb (by simp [m])) (fun m => hb (by simp [m])) (fun m => hb (by simp [m])) (fun m => hb (by simp [m])) q) hf bigT new
    refine ⟨.ref T, _, J, rfl, ⟨T, x, y, _, rfl, I.hok.fresh bigT, rfl, rfl, fun l hl => by rw [sqK_one I hl sx]; exact ex, fun l hl => by rw [sqK_one I hl sy]; exact ey⟩, ⟨z', TI', ⟨_, _, TO'⟩, h1', h2'⟩, fun c hcm => ?_⟩
    have hlt : c < s.heap.objs.size := by
      have hcm' := hcm
      simp only [List.mem_cons, List.not_mem_nil, or_false] at hcm'
      rcases hcm' with rfl | rfl | rfl | rfl | rfl
      · exact Heap.lt_size hz
      · exact Heap.lt_size hTI
      · obtain ⟨_, _, q⟩ := hTO; exact Heap.lt_size q
      · obtain ⟨_, q, _⟩ := itK_obj h1; exact Heap.lt_size q
      · obtain ⟨_, q, _⟩ := itK_obj h2; exact Heap.lt_size q
    rw [upd_ne (Nat.ne_of_lt (Nat.lt_of_lt_of_le hlt bigT))]
    exact (hf c hcm).1
  done := by
    intro X eP ew eK hc i pins s σ H E I hf st hg
    subst eP ew eK
    obtain ⟨hz, hTI, hTO, h1, h2⟩ := st
    obtain ⟨xs, ys, sx, sy, ei⟩ := hg
    obtain ⟨its, rv, p1, _⟩ := sqK_at I sx
    obtain ⟨jts, rw', p2, _⟩ := sqK_at I sy
    have hh : X.A.in1.handled = none := I.ok.hd hc
    have W := GoesN.zip2 (prog := X.prog) (w := X.w) (A := X.A) (elts := elts) (x1 := kk) (pos := tpos) D (drawK hh k1 i1 a n1 its.toArray) (drawK hh k2 i2 b n2 jts.toArray)
    have en : i = min its.toArray.size jts.toArray.size := by
      rw [ei, rv.length, rw'.length]; simp
    rw [en] at h1 h2
    refine W.stops s _ E ⟨hz, hTI, hTO, ⟨h1, p1⟩, ⟨h2, p2⟩⟩ fun h' tk keep _ => ?_
    exact I.turnedL (t' := tk) (ch := [z, TI, TO, i1, i2]) (fun c o hb q => keep c o (fun m => hb (by
      simp only [List.mem_cons, List.not_mem_nil, or_false] at m ⊢
      rcases m with m | m | m | m <;> simp [m])) q) hf
  self := fun A i s Q E st h => wpAny_pyIter_zip st.1 h
def iZipK (K : PySem.W.Frag) (ta : TA) : TI := fun σ H R => ta σ H fun vs H1 => ∃ k1 k2 a b xs ys, vs = [.ref a, .ref b] ∧ sqK k1 K H1 a xs ∧ sqK k2 K H1 b ys ∧ R (ItZ K k1 k2 a b) H1
theorem begK (k : Bool) (a : Addr) (its : Array Value) : ∃ o : Obj, Begins (.ref a) o (fun h => isK k h a its) ∧ ∀ (h : Heap) (it : Addr), h.get? it = some o → itK k h it a 0 := by
  cases k with
  | true => exact ⟨_, begins_list a its, fun h it e => ⟨_, e, rfl, rfl⟩⟩
  | false => exact ⟨_, begins_tuple a its, fun h it e => ⟨_, e, rfl, rfl⟩⟩
theorem pi_zipK {X : Cx} {e e2 : Expr} {ta : TA} {p pos tpos : Pos} {elts : List Expr} {kk : Nat} (hg : Gl X "zip") (hm : X.mg "zip" = none) (ha : PA X [e, e2] ta)
    (hs : starEach [e, e2] X.env = (false, eval e X.env) :: starEach [e2] X.env := by rfl) (hpl : (backTo pos (starEach [e2] X.env)).any (·.1) = false := by rfl) :
    PI X (.Tuple elts kk tpos) (.Call (.Name "zip" p) [e, e2] [] pos) (iZipK X.K ta) := by
  constructor
  intro pins s σ H R I h
  refine Call_ (ld_blt I hg hm PyProof.Rows.boot_zip (PyProof.Rows.callWith_type1 (thn (ha.run pos pins s σ H _ I h) ?_) hs hpl))
  rintro us s1 ⟨vs, H1, I1, r, k1, k2, a, b, xs, ys, rfl, sx, sy, q⟩
  match us, r with
  | [_, _], .cons ra (.cons rb .nil) =>
  cases ra; cases rb
  obtain ⟨its, rv, p1, la⟩ := sqK_at I1 sx
  obtain ⟨jts, rw', p2, lb⟩ := sqK_at I1 sy
  obtain ⟨o1, B1, b1⟩ := begK k1 a its.toArray
  obtain ⟨o2, B2, b2⟩ := begK k2 b jts.toArray
  refine zip_begins2 B1 B2 p1 p2 fun h' hz hTI hTO h1 h2 hsz hk => wpAny_pyIter_zip hz ?_
  have D : ZipSep2 (s1.heap.objs.size + 4) (s1.heap.objs.size + 2) (s1.heap.objs.size + 3) s1.heap.objs.size (s1.heap.objs.size + 1) [s1.heap.objs.size, a] [s1.heap.objs.size + 1, b] :=
    zip_sep2 (fp1 := [a]) (fp2 := [b]) (by simpa using la) (by simpa using lb)
  refine ⟨s1.heap.objs.size + 4, [s1.heap.objs.size + 4, s1.heap.objs.size + 2, s1.heap.objs.size + 3, s1.heap.objs.size, s1.heap.objs.size + 1], _, _, H1, rfl, I1.kept (t' := s1.toks) hk, turnZ D (Nat.ne_of_lt la) (Nat.ne_of_lt (Nat.lt_succ_of_lt lb)),
    ⟨hz, hTI, ⟨_, _, hTO⟩, b1 _ _ h1, b2 _ _ h2⟩, fun c hcm => ?_, q⟩
  have hle : s1.heap.objs.size ≤ c := by
    simp only [List.mem_cons, List.not_mem_nil, or_false] at hcm
    rcases hcm with rfl | rfl | rfl | rfl | rfl
    · exact Nat.le_add_right _ _
    · exact Nat.le_add_right _ _
    · exact Nat.le_add_right _ _
    · exact Nat.le_refl _
    · exact Nat.le_add_right _ _
  exact I1.fpOk hle (I1.hok.fresh hle)

def ItE (K : PySem.W.Frag) (k : Bool) (a : Addr) : It where
  go := fun i H => ∃ xs x, sqK k K H a xs ∧ xs[i]? = some x
  yld := fun i H v H' => ∃ T x, v = .ref T ∧ H T = none ∧ H' = upd H T (.tup [.int (i : Nat), x]) ∧ ∀ xs, sqK k K H a xs → xs[i]? = some x
  stop := fun i H => ∃ xs, sqK k K H a xs ∧ i = xs.length
/-! a list or a tuple by itself -/
def ItS (K : PySem.W.Frag) (k : Bool) (a : Addr) : It := if k then Itl K a else Itt K a
def iSeq (K : PySem.W.Frag) (te : TE) : TI := fun σ H R => te σ H fun v H1 => ∃ k a xs, v = .ref a ∧ sqK k K H1 a xs ∧ R (ItS K k a) H1
theorem pi_seq {X : Cx} {tg l : Expr} {te : TE} (hl : PE X l te) : PI X tg l (iSeq X.K te) := by
  constructor
  intro pins s σ H R I h
  refine thn (hl.run pins s σ H _ I h) ?_
  rintro u s1 ⟨v, H1, I1, r, k, a, xs, rfl, sx, q⟩
  cases r
  have fp : FpOk X pins H1 s1.heap.objs.size := I1.fpOk (Nat.le_refl _) (I1.hok.fresh (Nat.le_refl _))
  cases k with
  | true =>
    obtain ⟨its, rv, p1, la⟩ := sqK_at I1 sx
    refine wpAny_pyIter_list p1 ?_
    exact ⟨s1.heap.objs.size, [s1.heap.objs.size], _, _, H1, rfl, I1.kept (t' := s1.toks) (fun b o e => Heap.get?_push_of_some _ e), turn_list a s1.heap.objs.size, ⟨_, Heap.get?_push_size _ rfl, rfl, rfl⟩, by simpa using fp, q⟩
  | false =>
    obtain ⟨its, rv, p1, la⟩ := sqK_at I1 sx
    refine wpAny_pyIter_tuple p1 ?_
    exact ⟨s1.heap.objs.size, [s1.heap.objs.size], _, _, H1, rfl, I1.kept (t' := s1.toks) (fun b o e => Heap.get?_push_of_some _ e), turn_tuple a s1.heap.objs.size, ⟨_, Heap.get?_push_size _ rfl, rfl, rfl⟩, by simpa using fp, q⟩
end Z

/-! Z, part 6: sources of loops, targets, comprehensions. -/
namespace Z
open PySem PySem.Spec PyProof.Rows L2

structure Gle (g g' : G) : Prop where
  pre : ∃ r, g'.phi = g.phi ++ r
  ex : Same g.S g'.S
section
variable {C : Ctx} {E : XK} {g g' g2 g0 : G} {H H' H0 : Hp} {M M' : Store}
theorem Step.le (s : Step g H g' H') : Gle g g' := ⟨s.pre, s.ex⟩
theorem Gle.refl (g : G) : Gle g g := ⟨⟨[], by simp⟩, Same.refl _⟩
theorem Gle.trans (a : Gle g g') (b : Gle g' g2) : Gle g g2 := by
  obtain ⟨⟨r, e⟩, x⟩ := a
  obtain ⟨⟨q, f⟩, y⟩ := b
  exact ⟨⟨r ++ q, by rw [f, e, List.append_assoc]⟩, x.trans y⟩
theorem Rep.le (s : Gle g g') {v : V} : ∀ {x : Val}, Rep C g v x → Rep C g' v x
  | .d x, h => Rp.mono s.ex x v h
  | .ref n, ⟨a, h1, h2⟩ => by
    obtain ⟨⟨r, e⟩, _⟩ := s
    exact ⟨a, by rw [e, List.getElem?_append_left (List.getElem?_eq_some_iff.mp h1).1]; exact h1, h2⟩
  | .scr ns, ⟨a, h1, h2⟩ => ⟨a, h1, sqlMono s.ex h2⟩

/-! ### sources -/
inductive Src where
  | one (k : Bool) (x : Val)
  | rng (lo c : Int) (n : Nat)
  | enum (k : Bool) (x : Val)
  | zip (k1 k2 : Bool) (x y : Val)
  | str (a : Str)
/-- the signs of a text, each a text -/
def charsS (a : Str) : List Str := a.cps.toList.map fun c => ⟨#[c]⟩
def itemsK (M : Store) : Bool → Val → Option (List Val)
  | true, .d (.list ds) => some (ds.map Val.d)
  | false, .d (.tuple ds) => some (ds.map Val.d)
  | true, .ref n => match M[n]? with
    | some (.lst xs) => some xs
    | _ => none
  | false, .ref n => match M[n]? with
    | some (.tup xs) => some xs
    | _ => none
  | _, _ => none
@[simp] theorem itemsK_l (M : Store) (ds : List PyData) : itemsK M true (.d (.list ds)) = some (ds.map Val.d) := rfl
@[simp] theorem itemsK_t (M : Store) (ds : List PyData) : itemsK M false (.d (.tuple ds)) = some (ds.map Val.d) := rfl
def kindV (M : Store) : Val → Option Bool
  | .d (.list _) => some true
  | .d (.tuple _) => some false
  | .ref n => match M[n]? with
    | some (.lst _) => some true
    | some (.tup _) => some false
    | _ => none
  | _ => none
@[simp] theorem kindV_l (M : Store) (ds : List PyData) : kindV M (.d (.list ds)) = some true := rfl
@[simp] theorem kindV_t (M : Store) (ds : List PyData) : kindV M (.d (.tuple ds)) = some false := rfl
/-- none: no such turn is told of; some none: the end -/
def Src.at (M : Store) (i : Nat) : Src → Option (Option Val)
  | .one k x => (itemsK M k x).map fun xs => xs[i]?
  | .rng lo c n => some (if i < n then some (.d (.int (lo + (i : Int) * c))) else none)
  | .enum k x => match itemsK M k x with
    | some xs => if i = xs.length then some none else match xs[i]? with
      | some (.d y) => some (some (.d (.tuple [.int (i : Int), y])))
      | _ => none
    | none => none
  | .zip k1 k2 x y => match itemsK M k1 x, itemsK M k2 y with
    | some xs, some ys => if i = min xs.length ys.length then some none else match xs[i]?, ys[i]? with
      | some (.d a), some (.d b) => some (some (.d (.tuple [a, b])))
      | _, _ => none
    | _, _ => none
  | .str a => some ((charsS a)[i]?.map fun s => .d (.str s))
def Src.len (M : Store) : Src → Nat
  | .one k x => ((itemsK M k x).getD []).length
  | .rng _ _ n => n
  | .enum k x => ((itemsK M k x).getD []).length
  | .zip k1 k2 x y => min ((itemsK M k1 x).getD []).length ((itemsK M k2 y).getD []).length
  | .str a => (charsS a).length
theorem itemsK_rep {k : Bool} {a : Addr} {x : Val} {xs : List Val} (o : Ok C g M H) (r : Rep C g (.ref a) x) (e : itemsK M k x = some xs) : ∃ vs, sqK k C.K H a vs ∧ Reps C g vs xs := by
  cases x with
  | scr ns => cases k <;> cases e
  | d x =>
    have r : Rp C.K g.S (.ref a) x := r
    cases k <;> cases x <;> simp [itemsK] at e
    · subst e
      cases r with
      | tup h1 h2 => exact ⟨_, sqtMono o.ex h1.1, reps_of h2⟩
    · subst e
      cases r with
      | lst h1 h2 => exact ⟨_, SqL.of (o.ex _ _ h1), reps_of h2⟩
  | ref n =>
    obtain ⟨b, h1, h2⟩ := r
    cases h2
    cases k with
    | true =>
      have e : (match M[n]? with
        | some (.lst xs) => some xs
        | _ => none) = some xs := e
      cases hm : M[n]? with
      | none => rw [hm] at e; cases e
      | some nd =>
        rw [hm] at e
        cases nd <;> simp at e
        subst e
        obtain ⟨vs, k1, k2⟩ := o.node n _ _ h1 hm
        exact ⟨vs, SqL.of k1, k2⟩
    | false =>
      have e : (match M[n]? with
        | some (.tup xs) => some xs
        | _ => none) = some xs := e
      cases hm : M[n]? with
      | none => rw [hm] at e; cases e
      | some nd =>
        rw [hm] at e
        cases nd <;> simp at e
        subst e
        obtain ⟨vs, k1, k2⟩ := o.node n _ _ h1 hm
        exact ⟨vs, .inl k1, k2⟩
theorem reps_getX {vs : List V} {xs : List Val} {i : Nat} {x : Val} (h : Reps C g vs xs) (e : xs[i]? = some x) : ∃ v, vs[i]? = some v ∧ Rep C g v x := by
  induction h generalizing i with
  | nil => simp at e
  | cons h1 h2 ih =>
    cases i with
    | zero => simp at e; subst e; exact ⟨_, rfl, h1⟩
    | succ i => simpa using ih (by simpa using e)
/-- an iterator of the machine, a source of ours -/
inductive SrcJ (C : Ctx) (g : G) : It → Src → Prop
  | one {k : Bool} {a : Addr} {x : Val} : Rep C g (.ref a) x → SrcJ C g (ItS C.K k a) (.one k x)
  | rng1 {lo : Int} {n : Nat} : SrcJ C g (Itr lo n) (.rng lo 1 n)
  | rngC {lo c : Int} {n : Nat} : SrcJ C g (Itc lo c n) (.rng lo c n)
  | enum {k : Bool} {a : Addr} {x : Val} : Rep C g (.ref a) x → SrcJ C g (ItE C.K k a) (.enum k x)
  | zip {k1 k2 : Bool} {a b : Addr} {x y : Val} : Rep C g (.ref a) x → Rep C g (.ref b) y → SrcJ C g (ItZ C.K k1 k2 a b) (.zip k1 k2 x y)
  | str {a : Str} : SrcJ C g (Its a) (.str a)
theorem SrcJ.le {J : It} {s : Src} (h : SrcJ C g J s) (l : Gle g g') : SrcJ C g' J s := by
  cases h with
  | one r => exact .one (r.le l)
  | rng1 => exact .rng1
  | rngC => exact .rngC
  | enum r => exact .enum (r.le l)
  | zip r q => exact .zip (r.le l) (q.le l)
  | str => exact .str
theorem SrcJ.stop {J : It} {s : Src} {i : Nat} (h : SrcJ C g J s) (o : Ok C g M H) (e : s.at M i = some none) : J.stop i H := by
  cases h with
  | @one k a x r =>
    simp only [Src.at] at e
    cases hx : itemsK M k x with
    | none => rw [hx] at e; cases e
    | some xs =>
      rw [hx] at e
      obtain ⟨vs, h1, h2⟩ := itemsK_rep o r hx
      have e : xs[i]? = none := by simpa using e
      have hl := Paired.length h2
      have := List.getElem?_eq_none_iff.mp e
      cases k with
      | true => exact ⟨vs, h1, by rw [hl]; exact this⟩
      | false => exact ⟨vs, h1, by rw [hl]; exact this⟩
  | @rng1 lo n =>
    simp only [Src.at] at e
    show n ≤ i
    split at e
    · cases e
    · omega
  | @rngC lo c n =>
    simp only [Src.at] at e
    show n ≤ i
    split at e
    · cases e
    · omega
  | @enum k a x r =>
    simp only [Src.at] at e
    cases hx : itemsK M k x with
    | none => rw [hx] at e; cases e
    | some xs =>
      rw [hx] at e
      obtain ⟨vs, h1, h2⟩ := itemsK_rep o r hx
      have hl := Paired.length h2
      simp only at e
      split at e
      · rename_i hi
        exact ⟨vs, h1, by rw [hl]; exact hi⟩
      · split at e <;> cases e
  | @zip k1 k2 a b x y r q =>
    simp only [Src.at] at e
    cases hx : itemsK M k1 x with
    | none => rw [hx] at e; cases e
    | some xs =>
      cases hy : itemsK M k2 y with
      | none => rw [hx, hy] at e; cases e
      | some ys =>
        rw [hx, hy] at e
        obtain ⟨vs, h1, h2⟩ := itemsK_rep o r hx
        obtain ⟨us, h3, h4⟩ := itemsK_rep o q hy
        have hl := Paired.length h2
        have hl2 := Paired.length h4
        simp only at e
        split at e
        · rename_i hi
          exact ⟨vs, us, h1, h3, by rw [hl, hl2]; exact hi⟩
        · split at e <;> cases e
  | @str a =>
    simp only [Src.at, charsS] at e
    show a.cps.size ≤ i
    have e := Option.some.inj e
    rw [Option.map_eq_none_iff, List.getElem?_eq_none_iff] at e
    simpa using e
theorem SrcJ.turn {J : It} {s : Src} {i : Nat} {x : Val} (h : SrcJ C g J s) (o : Ok C g M H) (e : s.at M i = some (some x)) :
    J.go i H ∧ ∀ v H', J.yld i H v H' → ∃ g', Ok C g' M H' ∧ Step g H g' H' ∧ Rep C g' v x := by
  cases h with
  | @one k a y r =>
    simp only [Src.at] at e
    cases hx : itemsK M k y with
    | none => rw [hx] at e; cases e
    | some xs =>
      rw [hx] at e
      obtain ⟨vs, h1, h2⟩ := itemsK_rep o r hx
      have e : xs[i]? = some x := by simpa using e
      obtain ⟨w, e1, e2⟩ := reps_getX h2 e
      cases k with
      | true =>
        refine ⟨⟨vs, w, h1, e1⟩, fun v H' ⟨q1, q2⟩ => ?_⟩
        subst q1
        have := q2 vs h1
        rw [e1] at this
        cases this
        exact ⟨g, o, Step.refl _ _, e2⟩
      | false =>
        refine ⟨⟨vs, w, h1, e1⟩, fun v H' ⟨q1, q2⟩ => ?_⟩
        subst q1
        have := q2 vs h1
        rw [e1] at this
        cases this
        exact ⟨g, o, Step.refl _ _, e2⟩
  | @rng1 lo n =>
    simp only [Src.at] at e
    split at e
    · rename_i hi
      cases e
      refine ⟨hi, fun v H' ⟨q1, q2⟩ => ?_⟩
      subst q1 q2
      exact ⟨g, o, Step.refl _ _, by rw [Int.mul_one]; exact .int _⟩
    · cases e
  | @rngC lo c n =>
    simp only [Src.at] at e
    split at e
    · rename_i hi
      cases e
      refine ⟨hi, fun v H' ⟨q1, q2⟩ => ?_⟩
      subst q1 q2
      exact ⟨g, o, Step.refl _ _, .int _⟩
    · cases e
  | @enum k a y r =>
    simp only [Src.at] at e
    cases hx : itemsK M k y with
    | none => rw [hx] at e; cases e
    | some xs =>
      rw [hx] at e
      obtain ⟨vs, h1, h2⟩ := itemsK_rep o r hx
      simp only at e
      split at e
      · cases e
      · split at e
        · rename_i z hz
          cases e
          obtain ⟨w, e1, e2⟩ := reps_getX h2 hz
          refine ⟨⟨vs, w, h1, e1⟩, fun v H' ⟨T, u, q0, q1, q2, q3⟩ => ?_⟩
          have := q3 vs h1
          rw [e1] at this
          cases this
          subst q0 q2
          have nw := o.newS (o := .tup [.int (i : Nat), w]) q1
          exact ⟨_, nw.1, nw.2, .tup (.weak rfl) (.cons (.int _) (.cons (Rp.mono nw.2.ex _ _ e2) .nil))⟩
        · cases e
  | @zip k1 k2 a b y y' r q =>
    simp only [Src.at] at e
    cases hx : itemsK M k1 y with
    | none => rw [hx] at e; cases e
    | some xs =>
      cases hy : itemsK M k2 y' with
      | none => rw [hx, hy] at e; cases e
      | some ys =>
        rw [hx, hy] at e
        obtain ⟨vs, h1, h2⟩ := itemsK_rep o r hx
        obtain ⟨us, h3, h4⟩ := itemsK_rep o q hy
        simp only at e
        split at e
        · cases e
        · split at e
          · rename_i z1 z2 hz1 hz2
            cases e
            obtain ⟨w, e1, e2⟩ := reps_getX h2 hz1
            obtain ⟨w', e1', e2'⟩ := reps_getX h4 hz2
            refine ⟨⟨vs, us, w, w', h1, h3, e1, e1'⟩, fun v H' ⟨T, u, u', ob, q0, q1, q2, qd, q3, q4⟩ => ?_⟩
            have := q3 vs h1
            rw [e1] at this
            cases this
            have := q4 us h3
            rw [e1'] at this
            cases this
            subst q0 q2
            have nw := o.newS (o := .frz ob (.tup [w, w'])) q1
            exact ⟨_, nw.1, nw.2, .tup (.new qd) (.cons (Rp.mono nw.2.ex _ _ e2) (.cons (Rp.mono nw.2.ex _ _ e2') .nil))⟩
          · cases e
  | @str a =>
    simp only [Src.at, charsS] at e
    have e := Option.some.inj e
    obtain ⟨s, e1, rfl⟩ := Option.map_eq_some_iff.mp e
    rw [List.getElem?_map] at e1
    obtain ⟨c, e2, rfl⟩ := Option.map_eq_some_iff.mp e1
    rw [Array.getElem?_toList] at e2
    refine ⟨(Array.getElem?_eq_some_iff.mp e2).1, fun v H' ⟨q1, c', q2, q3⟩ => ?_⟩
    subst q1 q3
    rw [e2] at q2
    cases q2
    exact ⟨g, o, Step.refl _ _, .str _⟩
def EvI (C : Ctx) (E : XK) (wi : TI) (m : Sm Src) : Prop := ∀ (H0 : Hp) (g : G) (M : Store) (H : Hp) (σ : L2.St) (ρ : Rho) (R : It → Hp → Prop), Ok C g M H → RSt C H0 g H σ ρ →
  Post C E g H (m ρ M) (fun s g' _ H' => ∀ J, SrcJ C g' J s → R J H') → wi σ H R
section
variable {te : TE} {m : Sm Val} {tA : TA} {mA : Sm (List Val)}
def sOne (m : Sm Val) : Sm Src := fun ρ M => (m ρ M).bind fun x M1 => match kindV M1 x with
  | some k => .ok (.one k x) M1
  | none => .stuck
def sEnum (mA : Sm (List Val)) : Sm Src := fun ρ M => (mA ρ M).bind fun xs M1 => match xs with
  | [x] => match kindV M1 x with
    | some k => .ok (.enum k x) M1
    | none => .stuck
  | _ => .stuck
def sZip (mA : Sm (List Val)) : Sm Src := fun ρ M => (mA ρ M).bind fun xs M1 => match xs with
  | [x, y] => match kindV M1 x, kindV M1 y with
    | some k1, some k2 => .ok (.zip k1 k2 x y) M1
    | _, _ => .stuck
  | _ => .stuck
def inR (j : Int) : Bool := decide (-(2 ^ 62) ≤ j) && decide (j < 2 ^ 62)
def sRng1 (mA : Sm (List Val)) : Sm Src := fun ρ M => (mA ρ M).bind fun xs M1 => match xs with
  | [.d (.int j)] => if inR j = true then .ok (.rng 0 1 j.toNat) M1 else .stuck
  | _ => .stuck
theorem kindV_rep {x : Val} {v : V} {k : Bool} (o : Ok C g M H) (r : Rep C g v x) (e : kindV M x = some k) : ∃ a vs, v = .ref a ∧ sqK k C.K H a vs := by
  cases x with
  | scr ns => cases e
  | d x =>
    have r : Rp C.K g.S v x := r
    cases x <;> simp [kindV] at e
    · subst e
      cases r with
      | lst h1 h2 => exact ⟨_, _, rfl, SqL.of (o.ex _ _ h1)⟩
    · subst e
      cases r with
      | tup h1 h2 => exact ⟨_, _, rfl, sqtMono o.ex h1.1⟩
  | ref n =>
    obtain ⟨b, h1, h2⟩ := r
    have e : (match M[n]? with
      | some (.lst _) => some true
      | some (.tup _) => some false
      | _ => none) = some k := e
    cases hm : M[n]? with
    | none => rw [hm] at e; cases e
    | some nd =>
      rw [hm] at e
      cases nd <;> simp at e
      · subst e
        obtain ⟨vs, k1, k2⟩ := o.node n _ _ h1 hm
        exact ⟨b, vs, h2, SqL.of k1⟩
      · subst e
        obtain ⟨vs, k1, k2⟩ := o.node n _ _ h1 hm
        exact ⟨b, vs, h2, .inl k1⟩
theorem ei_one (h : EvE C E te m) : EvI C E (iSeq C.K te) (sOne m) := fun H0 g M H σ ρ R o r p =>
  h H0 g M H σ ρ _ o r (p.bind.imp fun x g' M' H' o' st k v rv => by
    cases e : kindV M' x with
    | none => simp only [e] at k; exact k.elim
    | some kk =>
      simp only [e] at k
      obtain ⟨a, vs, rfl, hs⟩ := kindV_rep o' rv e
      exact ⟨kk, a, vs, rfl, hs, k.here o' _ (.one rv)⟩)
theorem ei_zip (h : EvA C E tA mA) : EvI C E (iZipK C.K tA) (sZip mA) := fun H0 g M H σ ρ R o r p =>
  h H0 g M H σ ρ _ o r (p.bind.imp fun xs g' M' H' o' st k vs rv => by
    match xs, vs, rv, k with
    | [x, y], [v, u], .cons rv (.cons ru .nil), k =>
      cases e : kindV M' x with
      | none => simp only [e] at k; exact k.elim
      | some k1 =>
        cases e2 : kindV M' y with
        | none => simp only [e, e2] at k; exact k.elim
        | some k2 =>
          simp only [e, e2] at k
          obtain ⟨a, vs, rfl, hs⟩ := kindV_rep o' rv e
          obtain ⟨b, us, rfl, hs'⟩ := kindV_rep o' ru e2
          exact ⟨k1, k2, a, b, vs, us, rfl, hs, hs', k.here o' _ (.zip rv ru)⟩
    | [], _, _, k => exact k.elim
    | [_], _, _, k => exact k.elim
    | _ :: _ :: _ :: _, _, _, k => exact k.elim)
theorem ei_rng1 (h : EvA C E tA mA) : EvI C E (iRng1 tA) (sRng1 mA) := fun H0 g M H σ ρ R o r p =>
  h H0 g M H σ ρ _ o r (p.bind.imp fun xs g' M' H' o' st k vs rv => by
    split at k
    · rename_i j
      split at k
      · rename_i hj
        match vs, rv with
        | [v], .cons rv .nil =>
          have rv : Rp C.K g'.S v (.int j) := rv
          cases rv
          simp only [inR, Bool.and_eq_true, decide_eq_true_eq] at hj
          exact ⟨j, rfl, hj.1, hj.2, k.here o' _ .rng1⟩
      · exact k.elim
    · exact k.elim)
end
end
end Z

/-! Z, part 7: targets of names, comprehensions. -/
namespace Z
open PySem PySem.Spec PyProof.Rows L2

def wipeR (ρ : Rho) : List Nat → Rho
  | [] => ρ
  | v :: vs => (wipeR ρ vs).set v none
section
variable {C : Ctx} {E : XK} {g g' g2 g0 : G} {H H' H0 : Hp} {M M' : Store} {σ : L2.St} {ρ : Rho}
theorem get_set {α : Type} {l : List α} {i j : Nat} {x y : α} (h : (l.set i x)[j]? = some y) : (j = i ∧ y = x ∧ i < l.length) ∨ (j ≠ i ∧ l[j]? = some y) := by
  by_cases e : j = i
  · subst e
    have hl : j < l.length := by
      have := (List.getElem?_eq_some_iff.mp h).1
      simpa using this
    rw [List.getElem?_set_self hl] at h
    exact .inl ⟨rfl, (Option.some.inj h).symm, hl⟩
  · rw [List.getElem?_set_ne (Ne.symm e)] at h
    exact .inr ⟨e, h⟩
theorem RSt.put (r : RSt C H0 g H σ ρ) {i : Nat} {v : V} {x : Val} (rv : Rep C g v x) : RSt C H0 g H (σ.set i (some v)) (ρ.set i (some (.sh x))) where
  len := by simp [r.len]
  sh := fun j y h => by
    rcases get_set h with ⟨rfl, e, hl⟩ | ⟨e, h⟩
    · cases e
      exact ⟨v, List.getElem?_set_self (by rw [← r.len]; exact hl), rv⟩
    · obtain ⟨w, h1, h2⟩ := r.sh j y h
      exact ⟨w, by rw [List.getElem?_set_ne (Ne.symm e)]; exact h1, h2⟩
  ol := fun j y h => by
    rcases get_set h with ⟨rfl, e, hl⟩ | ⟨e, h⟩
    · cases e
    · obtain ⟨a, vs, h1, h2⟩ := r.ol j y h
      exact ⟨a, vs, by rw [List.getElem?_set_ne (Ne.symm e)]; exact h1, h2⟩
  od := fun j y h => by
    rcases get_set h with ⟨rfl, e, hl⟩ | ⟨e, h⟩
    · cases e
    · obtain ⟨a, vs, h1, h2⟩ := r.od j y h
      exact ⟨a, vs, by rw [List.getElem?_set_ne (Ne.symm e)]; exact h1, h2⟩
  ne := fun j k a hjk h1 h2 e1 e2 => by
    have key : ∀ j, isOwn (ρ.set i (some (.sh x)))[j]? → j ≠ i ∧ isOwn ρ[j]? := fun j h => by
      by_cases e : j = i
      · subst e
        by_cases hl : j < ρ.length
        · rw [List.getElem?_set_self hl] at h; exact h.elim
        · rw [List.getElem?_eq_none (by simpa using hl)] at h; exact h.elim
      · rw [List.getElem?_set_ne (Ne.symm e)] at h; exact ⟨e, h⟩
    obtain ⟨n1, o1⟩ := key j h1
    obtain ⟨n2, o2⟩ := key k h2
    rw [List.getElem?_set_ne (Ne.symm n1)] at e1
    rw [List.getElem?_set_ne (Ne.symm n2)] at e2
    exact r.ne j k a hjk o1 o2 e1 e2
theorem RSt.drop1 (r : RSt C H0 g H σ ρ) (i : Nat) (z : Option V) : RSt C H0 g H (σ.set i z) (ρ.set i none) where
  len := by simp [r.len]
  sh := fun j y h => by
    rcases get_set h with ⟨rfl, e, hl⟩ | ⟨e, h⟩
    · cases e
    · obtain ⟨w, h1, h2⟩ := r.sh j y h
      exact ⟨w, by rw [List.getElem?_set_ne (Ne.symm e)]; exact h1, h2⟩
  ol := fun j y h => by
    rcases get_set h with ⟨rfl, e, hl⟩ | ⟨e, h⟩
    · cases e
    · obtain ⟨a, vs, h1, h2⟩ := r.ol j y h
      exact ⟨a, vs, by rw [List.getElem?_set_ne (Ne.symm e)]; exact h1, h2⟩
  od := fun j y h => by
    rcases get_set h with ⟨rfl, e, hl⟩ | ⟨e, h⟩
    · cases e
    · obtain ⟨a, vs, h1, h2⟩ := r.od j y h
      exact ⟨a, vs, by rw [List.getElem?_set_ne (Ne.symm e)]; exact h1, h2⟩
  ne := fun j k a hjk h1 h2 e1 e2 => by
    have key : ∀ j, isOwn (ρ.set i none)[j]? → j ≠ i ∧ isOwn ρ[j]? := fun j h => by
      by_cases e : j = i
      · subst e
        by_cases hl : j < ρ.length
        · rw [List.getElem?_set_self hl] at h; exact h.elim
        · rw [List.getElem?_eq_none (by simpa using hl)] at h; exact h.elim
      · rw [List.getElem?_set_ne (Ne.symm e)] at h; exact ⟨e, h⟩
    obtain ⟨n1, o1⟩ := key j h1
    obtain ⟨n2, o2⟩ := key k h2
    rw [List.getElem?_set_ne (Ne.symm n1)] at e1
    rw [List.getElem?_set_ne (Ne.symm n2)] at e2
    exact r.ne j k a hjk o1 o2 e1 e2
theorem RSt.wipe (r : RSt C H0 g H σ ρ) : ∀ vs : List Nat, RSt C H0 g H (L2.wipe σ vs) (wipeR ρ vs)
  | [] => r
  | v :: vs => (RSt.wipe r vs).drop1 v none
theorem wipe_set {σ : L2.St} {i : Nat} {z : Option V} : ∀ {vs : List Nat}, i ∈ vs → L2.wipe (σ.set i z) vs = L2.wipe σ vs
  | [], h => by cases h
  | v :: vs, h => by
    show (L2.wipe (σ.set i z) vs).set v none = (L2.wipe σ vs).set v none
    by_cases e : i ∈ vs
    · rw [wipe_set e]
    · have hv : i = v := by
        rcases List.mem_cons.mp h with h | h
        · exact h
        · exact absurd h e
      subst hv
      have : ∀ (us : List Nat), i ∉ us → L2.wipe (σ.set i z) us = (L2.wipe σ us).set i z := by
        intro us
        induction us with
        | nil => intro _; rfl
        | cons u us ih =>
          intro hu
          have h1 : i ≠ u := fun q => hu (by simp [q])
          have h2 : i ∉ us := fun q => hu (by simp [q])
          show (L2.wipe (σ.set i z) us).set u none = ((L2.wipe σ us).set u none).set i z
          rw [ih h2, List.set_comm _ _ h1]
      rw [this vs e, List.set_set]
theorem wipe_wipe {σ : L2.St} : ∀ (vs us : List Nat), (∀ i ∈ vs, i ∈ us) → L2.wipe (L2.wipe σ vs) us = L2.wipe σ us
  | [], us, _ => rfl
  | v :: vs, us, h => by
    show L2.wipe ((L2.wipe σ vs).set v none) us = _
    rw [wipe_set (h v (by simp)), wipe_wipe vs us (fun i hi => h i (by simp [hi]))]

/-! ### targets that are names, or tuples of them -/
abbrev Tg := Val → Rho → Store → Res Rho
def EvG0 (C : Ctx) (tg : TG) (ts : List Nat) (m : Tg) : Prop := ∀ (H0 : Hp) (g : G) (M : Store) (H : Hp) (σ : L2.St) (ρ : Rho) (v : V) (x : Val) (Q : L2.St → Hp → Prop), Ok C g M H → RSt C H0 g H σ ρ → Rep C g v x →
  (match m x ρ M with
    | .ok ρ' M' => M' = M → ∀ σ', RSt C H0 g H σ' ρ' → (∀ vs : List Nat, (∀ i ∈ ts, i ∈ vs) → L2.wipe σ' vs = L2.wipe σ vs) → Q σ' H
    | _ => False) → tg v σ H Q
def EvGs (C : Ctx) (tg : TGs) (ts : List Nat) (m : List Val → Rho → Store → Res Rho) : Prop := ∀ (H0 : Hp) (g : G) (M : Store) (H : Hp) (σ : L2.St) (ρ : Rho) (vs : List V) (xs : List Val) (Q : L2.St → Hp → Prop), Ok C g M H → RSt C H0 g H σ ρ → Reps C g vs xs →
  (match m xs ρ M with
    | .ok ρ' M' => M' = M → ∀ σ', RSt C H0 g H σ' ρ' → (∀ vs : List Nat, (∀ i ∈ ts, i ∈ vs) → L2.wipe σ' vs = L2.wipe σ vs) → Q σ' H
    | _ => False) → tg vs σ H Q
def gN (i : Nat) : Tg := fun x ρ M => .ok (ρ.set i (some (.sh x))) M
theorem eg_name {i : Nat} : EvG0 C (gName i) [i] (gN i) := fun H0 g M H σ ρ v x Q o r rv p =>
  p rfl _ (r.put rv) fun vs h => wipe_set (h i (by simp))
def gNilM : List Val → Rho → Store → Res Rho := fun xs ρ M => match xs with
  | [] => .ok ρ M
  | _ => .stuck
def gConsM (m : Tg) (ms : List Val → Rho → Store → Res Rho) : List Val → Rho → Store → Res Rho := fun xs ρ M => match xs with
  | x :: r => (m x ρ M).bind fun ρ1 M1 => ms r ρ1 M1
  | [] => .stuck
theorem eg_nil : EvGs C gNil [] gNilM := fun H0 g M H σ ρ vs xs Q o r rv p => by
  cases rv with
  | nil => exact ⟨rfl, p rfl σ r fun _ _ => rfl⟩
  | cons _ _ => exact p.elim
theorem eg_cons {tg : TG} {tgs : TGs} {ts us : List Nat} {m : Tg} {ms : List Val → Rho → Store → Res Rho} (h : EvG0 C tg ts m) (hs : EvGs C tgs us ms) (store : ∀ x ρ M ρ' M', m x ρ M = .ok ρ' M' → M' = M) : EvGs C (gCons tg tgs) (ts ++ us) (gConsM m ms) := fun H0 g M H σ ρ vs xs Q o r rv p => by
  cases rv with
  | nil => exact p.elim
  | @cons v x vs xs r1 r2 =>
    have p : (match (m x ρ M).bind fun ρ1 M1 => ms xs ρ1 M1 with
      | .ok ρ' M' => M' = M → ∀ σ', RSt C H0 g H σ' ρ' → (∀ vs : List Nat, (∀ i ∈ ts ++ us, i ∈ vs) → L2.wipe σ' vs = L2.wipe σ vs) → Q σ' H
      | _ => False) := p
    refine ⟨v, vs, rfl, h H0 g M H σ ρ v x _ o r r1 ?_⟩
    cases e : m x ρ M with
    | stuck => rw [e] at p; exact p.elim
    | exn c M1 => rw [e] at p; exact p.elim
    | ok ρ1 M1 =>
      have e1 := store _ _ _ _ _ e
      subst e1
      rw [e] at p
      intro _ σ1 r1' w1
      refine hs H0 g M1 H σ1 ρ1 vs xs _ o r1' r2 ?_
      have p : (match ms xs ρ1 M1 with
        | .ok ρ' M' => M' = M1 → ∀ σ', RSt C H0 g H σ' ρ' → (∀ vs : List Nat, (∀ i ∈ ts ++ us, i ∈ vs) → L2.wipe σ' vs = L2.wipe σ vs) → Q σ' H
        | _ => False) := p
      cases e2 : ms xs ρ1 M1 with
      | stuck => rw [e2] at p; exact p.elim
      | exn c M2 => rw [e2] at p; exact p.elim
      | ok ρ2 M2 =>
        rw [e2] at p
        exact fun em σ2 r2' w2 => p em σ2 r2' fun zs hz => (w2 zs fun i hi => hz i (by simp [hi])).trans (w1 zs fun i hi => hz i (by simp [hi]))
/-- what a tuple holds -/
def gTupM (n : Nat) (ms : List Val → Rho → Store → Res Rho) : Tg := fun x ρ M => match itemsK M false x with
  | some xs => if xs.length = n then ms xs ρ M else .stuck
  | none => .stuck
theorem rep_ref {x : Val} {v : V} {xs : List Val} (o : Ok C g M H) (r : Rep C g v x) (e : itemsK M false x = some xs) : ∃ a vs, v = .ref a ∧ SqT C.K H a vs ∧ Reps C g vs xs := by
  have : ∃ a, v = .ref a := by
    cases x with
    | scr ns => obtain ⟨a, h, _⟩ := r; exact ⟨a, h⟩
    | ref n => obtain ⟨a, _, h⟩ := r; exact ⟨a, h⟩
    | d x =>
      have r : Rp C.K g.S v x := r
      cases x <;> simp [itemsK] at e
      cases r with
      | tup _ _ => exact ⟨_, rfl⟩
  obtain ⟨a, rfl⟩ := this
  obtain ⟨vs, h1, h2⟩ := itemsK_rep o r e
  exact ⟨a, vs, rfl, h1, h2⟩
theorem eg_tup {tgs : TGs} {ts : List Nat} {n : Nat} {ms : List Val → Rho → Store → Res Rho} (hs : EvGs C tgs ts ms) : EvG0 C (gTup C.K n tgs) ts (gTupM n ms) := fun H0 g M H σ ρ v x Q o r rv p => by
  unfold gTupM at p
  cases e : itemsK M false x with
  | none => rw [e] at p; exact p.elim
  | some xs =>
    rw [e] at p
    obtain ⟨a, vs, rfl, h1, h2⟩ := rep_ref o rv e
    by_cases hn : xs.length = n
    · simp only [hn, if_true] at p
      exact ⟨a, vs, rfl, h1, by rw [Paired.length h2]; exact hn, hs H0 g M H σ ρ vs xs Q o r h2 p⟩
    · simp only [hn, if_false] at p

/-! ### comprehensions -/
def lcM (src : Src) (tg : Tg) (tt : Sm Bool) (te : Sm Val) (ρ : Rho) : Nat → Nat → List Val → Store → Res (List Val)
  | 0, i, acc, M => match src.at M i with
    | some none => .ok acc M
    | _ => .stuck
  | k + 1, i, acc, M => match src.at M i with
    | some none => .ok acc M
    | some (some x) => (tg x ρ M).bind fun ρ1 M1 => (tt ρ1 M1).bind fun b M2 =>
      if b = true then (te ρ1 M2).bind fun y M3 => if acc.length < 16000000 then lcM src tg tt te ρ k (i + 1) (acc ++ [y]) M3 else .stuck
      else lcM src tg tt te ρ k (i + 1) acc M2
    | none => .stuck
theorem Reps.snoc {vs : List V} {xs : List Val} {v : V} {x : Val} (h : Reps C g vs xs) (r : Rep C g v x) : Reps C g (vs ++ [v]) (xs ++ [x]) := by
  induction h with
  | nil => exact .cons r .nil
  | cons h1 _ ih => exact .cons h1 ih
theorem el_lc {wi : TI} {tg : TG} {tt : TT} {te : TE} {vs ts : List Nat} {mi : Sm Src} {mg : Tg} {mt : Sm Bool} {me : Sm Val} (hi : EvI C E wi mi) (hg : EvG0 C tg ts mg) (hts : ∀ i ∈ ts, i ∈ vs) (store : ∀ x ρ M ρ' M', mg x ρ M = .ok ρ' M' → M' = M)
    (ht : EvT C (fun _ _ _ => False) tt mt) (he : EvE C (fun _ _ _ => False) te me) : EvL C E (tLc wi tg tt te vs) (fun ρ M => (mi ρ M).bind fun src M1 => match lcM src mg mt me (wipeR ρ vs) (src.len M1) 0 [] M1 with
      | .ok a M => .ok a M
      | _ => .stuck) := fun H0 g M H σ ρ Q o r p =>
  hi H0 g M H σ ρ _ o r (p.bind0.imp fun src g1 M1 H1 o1 st1 k J sj => by
    intro D hD
    have nw := o1.newO (o := .lst []) hD
    have fD := o1.free hD
    -- the word of the turns
    refine ⟨fun i m Hh => ∃ (gg : G) (MM : Store) (acc : List Val) (us : List V), Ok C gg MM Hh ∧ Step g1 H1 gg Hh ∧ Gle g1 gg ∧ Hh D = some (.lst us) ∧ Reps C gg us acc ∧ gg.S D = none ∧ D ∉ gg.phi ∧
        Post C E g H (match lcM src mg mt me (wipeR ρ vs) m i acc MM with
          | .ok a M => .ok a M
          | _ => .stuck) (fun xs g' _ H' => ∀ p vs, H' p = some (.lst vs) → Reps C g' vs xs → g'.S p = none → p ∉ g'.phi → H p = none → Q (.ref p) H'),
      ⟨src.len M1, g1, M1, [], [], nw.1, nw.2, Gle.refl _, upd_same, .nil, fD.1, fD.2, k⟩, ?_⟩
    rintro i m Hh ⟨gg, MM, acc, us, oo, ss, le, hDh, ra, sD, pD, k⟩
    have sj' := sj.le le
    have rr : RSt C H0 gg Hh σ ρ := (r.step st1).step ss
    have rw0 := rr.wipe vs
    have fin : ∀ (k : Post C E g H (.ok acc MM) (fun xs g' _ H' => ∀ p vs, H' p = some (.lst vs) → Reps C g' vs xs → g'.S p = none → p ∉ g'.phi → H p = none → Q (.ref p) H')), Q (.ref D) Hh := fun k =>
      k gg Hh oo (st1.trans ss) D us hDh ra sD pD (st1.fresh D hD)
    cases m with
    | zero =>
      simp only [lcM] at k
      cases e : src.at MM i with
      | none => rw [e] at k; exact k.elim
      | some z =>
        cases z with
        | none =>
          rw [e] at k
          exact .inl ⟨sj'.stop oo e, fin k⟩
        | some x => rw [e] at k; exact k.elim
    | succ m =>
      simp only [lcM] at k
      cases e : src.at MM i with
      | none => rw [e] at k; exact k.elim
      | some z =>
        cases z with
        | none =>
          rw [e] at k
          exact .inl ⟨sj'.stop oo e, fin k⟩
        | some x =>
          rw [e] at k
          simp only at k
          obtain ⟨go, yl⟩ := sj'.turn oo e
          refine .inr ⟨go, fun H2 => ∃ (gg : G) (MM : Store) (acc : List Val) (us : List V), Ok C gg MM H2 ∧ Step g1 H1 gg H2 ∧ Gle g1 gg ∧ H2 D = some (.lst us) ∧ Reps C gg us acc ∧ gg.S D = none ∧ D ∉ gg.phi ∧
            Post C E g H (match lcM src mg mt me (wipeR ρ vs) m (i + 1) acc MM with
              | .ok a M => .ok a M
              | _ => .stuck) (fun xs g' _ H' => ∀ p vs, H' p = some (.lst vs) → Reps C g' vs xs → g'.S p = none → p ∉ g'.phi → H p = none → Q (.ref p) H'), fun H2 h2 => ⟨m, by omega, h2⟩, fun v H2 y => ?_⟩
          obtain ⟨g2, o2, s2, rv⟩ := yl v H2 y
          have s12 := ss.trans s2
          refine hg H0 g2 MM H2 _ _ v x _ o2 (rw0.step s2) rv ?_
          cases em : mg x (wipeR ρ vs) MM with
          | stuck => rw [em] at k; exact k.elim
          | exn c M9 => rw [em] at k; exact k.elim
          | ok ρ1 M9 =>
            have e9 := store _ _ _ _ _ em
            subst e9
            rw [em] at k
            simp only [bind_ok] at k
            intro _ σ1 r1 w1
            refine ⟨by rw [w1 vs hts]; exact wipe_wipe vs vs fun _ h => h, ?_⟩
            refine ht H0 g2 M9 H2 σ1 ρ1 _ o2 r1 ?_
            cases et : mt ρ1 M9 with
            | stuck => rw [et] at k; exact k.elim
            | exn c M8 => rw [et] at k; exact k.elim
            | ok b M8 =>
              rw [et] at k
              simp only [bind_ok] at k
              intro g3 H3 o3 s3
              have s13 := s12.trans s3
              cases b with
              | false =>
                simp only [Bool.false_eq_true, if_false] at k ⊢
                obtain ⟨q1, q2, q3⟩ := own_keep (s2.trans s3) hDh (fun _ z => by cases z) sD pD
                exact ⟨g3, M8, acc, us, o3, s13, s13.le, q1, Paired.mapP ra fun _ _ q => q.step (s2.trans s3), q2, q3, k⟩
              | true =>
                simp only [if_true] at k ⊢
                refine he H0 g3 M8 H3 σ1 ρ1 _ o3 (r1.step s3) ?_
                cases ee : me ρ1 M8 with
                | stuck => rw [ee] at k; exact k.elim
                | exn c M7 => rw [ee] at k; exact k.elim
                | ok yv M7 =>
                  rw [ee] at k
                  simp only [bind_ok] at k
                  intro g4 H4 o4 s4 w rw4
                  have s24 := (s2.trans s3).trans s4
                  have s14 := s13.trans s4
                  obtain ⟨q1, q2, q3⟩ := own_keep s24 hDh (fun _ z => by cases z) sD pD
                  have ra4 : Reps C g4 us acc := Paired.mapP ra fun _ _ q => q.step s24
                  have la := Paired.length ra4
                  by_cases hz : acc.length < 16000000
                  · rw [if_pos hz] at k
                    refine ⟨us, q1, by rw [la, sizeLine_eq]; omega, g4, M7, acc ++ [yv], us ++ [w], o4.setO q2 q3 (.inl ⟨_, q1⟩), s14.setO hD (by rw [q1]; exact fun z => by cases z), s14.le, upd_same, ra4.snoc rw4, q2, q3, k⟩
                  · rw [if_neg hz] at k; exact k.elim)
end
end Z

/-! Z, part 8: statements. -/
namespace Z
open PySem PySem.Spec PyProof.Rows L2

inductive Fl where
  | nx (ρ : Rho)
  | rt (x : Val)
  | bk (ρ : Rho)
  | ct (ρ : Rho)
section
variable {C : Ctx} {E : XK} {g g' g2 g0 : G} {H H' H0 : Hp} {M M' : Store} {σ : L2.St} {ρ : Rho}
def PostS (C : Ctx) (E : XK) (H0 : Hp) (g0 g : G) (r : Res Fl) (D : Ends) : Prop := match r with
  | .ok (.nx ρ') M' => ∀ g' H' σ', Ok C g' M' H' → Step g0 H0 g' H' → Gle g g' → RSt C H0 g' H' σ' ρ' → D.nx σ' H'
  | .ok (.rt x) M' => ∀ g' H' v, Ok C g' M' H' → Step g0 H0 g' H' → Gle g g' → Rep C g' v x → D.rt v H'
  | .ok (.bk ρ') M' => ∀ g' H' σ', Ok C g' M' H' → Step g0 H0 g' H' → Gle g g' → RSt C H0 g' H' σ' ρ' → D.bk σ' H'
  | .ok (.ct ρ') M' => ∀ g' H' σ', Ok C g' M' H' → Step g0 H0 g' H' → Gle g g' → RSt C H0 g' H' σ' ρ' → D.ct σ' H'
  | .exn c M' => ∀ g' H' A, Ok C g' M' H' → Step g0 H0 g' H' → C.mg c = some (.ref A) → E (.ref A) none H'
  | .stuck => False
theorem PostS.le {r : Res Fl} {D : Ends} (h : PostS C E H0 g0 g r D) (l : Gle g g') : PostS C E H0 g0 g' r D := by
  cases r with
  | ok f M => cases f with
    | nx ρ => exact fun a b c d e f g => h a b c d e (l.trans f) g
    | rt x => exact fun a b c d e f g => h a b c d e (l.trans f) g
    | bk ρ => exact fun a b c d e f g => h a b c d e (l.trans f) g
    | ct ρ => exact fun a b c d e f g => h a b c d e (l.trans f) g
  | exn c M => exact h
  | stuck => exact h
def EvS (C : Ctx) (E : XK) (ts : TS) (m : Sm Fl) : Prop := ∀ (H0 : Hp) (g0 g : G) (M : Store) (H : Hp) (σ : L2.St) (ρ : Rho) (D : Ends), Ok C g M H → Step g0 H0 g H → RSt C H0 g H σ ρ → PostS C E H0 g0 g (m ρ M) D → ts D σ H
/-- from an expression's post to a statement's -/
theorem PostS.bind {α : Type} {r : Res α} {f : α → Store → Res Fl} {D : Ends} (s : Step g0 H0 g H) (h : PostS C E H0 g0 g (r.bind f) D) : Post C E g H r fun x g' M' H' => PostS C E H0 g0 g' (f x M') D := by
  cases r with
  | ok x M => exact fun g' H' o st => h.le st.le
  | exn c M => exact fun g' H' A o st e => h g' H' A o (s.trans st) e
  | stuck => exact h
theorem PostS.bind0 {α : Type} {r : Res α} {f : α → Store → Res Fl} {D : Ends} (s : Step g0 H0 g H) (h : PostS C E H0 g0 g (r.bind f) D) : Post C E g H r fun x g' M' H' => PostS C E H0 g0 g (f x M') D := by
  cases r with
  | ok x M => exact fun g' H' o st => h
  | exn c M => exact fun g' H' A o st e => h g' H' A o (s.trans st) e
  | stuck => exact h
variable {ta tb tc te : TE} {ma mb mc m : Sm Val} {tt : TT} {mt : Sm Bool} {tA : TA} {mA : Sm (List Val)} {ts us : TS} {ms mu : Sm Fl} {i : Nat}
def sNext : Sm Fl := fun ρ M => .ok (.nx ρ) M
theorem es_next : EvS C E tNext sNext := fun H0 g0 g M H σ ρ D o s r p => p g H σ o s (Gle.refl _) r
def sSeq (m1 m2 : Sm Fl) : Sm Fl := fun ρ M => (m1 ρ M).bind fun f M1 => match f with
  | .nx ρ1 => m2 ρ1 M1
  | f => .ok f M1
theorem es_seq (h1 : EvS C E ts ms) (h2 : EvS C E us mu) : EvS C E (tSeq ts us) (sSeq ms mu) := fun H0 g0 g M H σ ρ D o s r p => by
  refine h1 H0 g0 g M H σ ρ _ o s r ?_
  unfold sSeq at p
  cases e : ms ρ M with
  | stuck => rw [e] at p; exact p
  | exn c M1 => rw [e] at p; exact p
  | ok f M1 =>
    rw [e] at p
    cases f with
    | nx ρ1 => exact fun g' H' σ' o' s' l r' => h2 H0 g0 g' M1 H' σ' ρ1 D o' s' r' (PostS.le p l)
    | rt x => exact p
    | bk ρ1 => exact p
    | ct ρ1 => exact p
def sRet (m : Sm Val) : Sm Fl := fun ρ M => (m ρ M).bind fun x M1 => .ok (.rt x) M1
theorem es_ret (h : EvE C E te m) : EvS C E (tRet te) (sRet m) := fun H0 g0 g M H σ ρ D o s r p =>
  h H0 g M H σ ρ _ o r ((PostS.bind s p).imp fun x g' M' H' o' st k v rv => k g' H' v o' (s.trans st) (Gle.refl _) rv)
def sRetN : Sm Fl := fun ρ M => .ok (.rt (.d .none)) M
def sDrop (m : Sm Val) : Sm Fl := fun ρ M => (m ρ M).bind fun _ M1 => .ok (.nx ρ) M1
theorem es_drop (h : EvE C E te m) : EvS C E (tDrop te) (sDrop m) := fun H0 g0 g M H σ ρ D o s r p =>
  h H0 g M H σ ρ _ o r ((PostS.bind s p).imp fun x g' M' H' o' st k v rv => k g' H' σ o' (s.trans st) (Gle.refl _) (r.step st))
def sIf (mt : Sm Bool) (m1 m2 : Sm Fl) : Sm Fl := fun ρ M => (mt ρ M).bind fun b M1 => if b = true then m1 ρ M1 else m2 ρ M1
theorem es_if (h : EvT C E tt mt) (h1 : EvS C E ts ms) (h2 : EvS C E us mu) : EvS C E (tIfS tt ts us) (sIf mt ms mu) := fun H0 g0 g M H σ ρ D o s r p =>
  h H0 g M H σ ρ _ o r ((PostS.bind s p).imp fun b g' M' H' o' st k => by
    cases b with
    | true => exact h1 H0 g0 g' M' H' σ ρ D o' (s.trans st) (r.step st) k
    | false => exact h2 H0 g0 g' M' H' σ ρ D o' (s.trans st) (r.step st) k)
/-! ### assignments -/
def PostG (C : Ctx) (E : XK) (H0 : Hp) (g0 g : G) (r : Res Rho) (Q : L2.St → Hp → Prop) : Prop := match r with
  | .ok ρ' M' => ∀ g' H' σ', Ok C g' M' H' → Step g0 H0 g' H' → Gle g g' → RSt C H0 g' H' σ' ρ' → Q σ' H'
  | .exn c M' => ∀ g' H' A, Ok C g' M' H' → Step g0 H0 g' H' → C.mg c = some (.ref A) → E (.ref A) none H'
  | .stuck => False
theorem PostG.le {r : Res Rho} {Q : L2.St → Hp → Prop} (h : PostG C E H0 g0 g r Q) (l : Gle g g') : PostG C E H0 g0 g' r Q := by
  cases r with
  | ok f M => exact fun a b c d e f g => h a b c d e (l.trans f) g
  | exn c M => exact h
  | stuck => exact h
def EvG (C : Ctx) (E : XK) (tg : TG) (m : Tg) : Prop := ∀ (H0 : Hp) (g0 g : G) (M : Store) (H : Hp) (σ : L2.St) (ρ : Rho) (v : V) (x : Val) (Q : L2.St → Hp → Prop), Ok C g M H → Step g0 H0 g H → RSt C H0 g H σ ρ → Rep C g v x →
  PostG C E H0 g0 g (m x ρ M) Q → tg v σ H Q
def EvGt (C : Ctx) (E : XK) (tg : TGs) (m : List Val → Rho → Store → Res Rho) : Prop := ∀ (H0 : Hp) (g0 g : G) (M : Store) (H : Hp) (σ : L2.St) (ρ : Rho) (vs : List V) (xs : List Val) (Q : L2.St → Hp → Prop), Ok C g M H → Step g0 H0 g H → RSt C H0 g H σ ρ → Reps C g vs xs →
  PostG C E H0 g0 g (m xs ρ M) Q → tg vs σ H Q
theorem egn {i : Nat} : EvG C E (gName i) (gN i) := fun H0 g0 g M H σ ρ v x Q o s r rv p => p g H _ o s (Gle.refl _) (r.put rv)
theorem egt_nil : EvGt C E gNil gNilM := fun H0 g0 g M H σ ρ vs xs Q o s r rv p => by
  cases rv with
  | nil => exact ⟨rfl, p g H σ o s (Gle.refl _) r⟩
  | cons _ _ => exact p.elim
theorem egt_cons {tg : TG} {tgs : TGs} {m : Tg} {ms : List Val → Rho → Store → Res Rho} (h : EvG C E tg m) (hs : EvGt C E tgs ms) : EvGt C E (gCons tg tgs) (gConsM m ms) := fun H0 g0 g M H σ ρ vs xs Q o s r rv p => by
  cases rv with
  | nil => exact p.elim
  | @cons v x vs xs r1 r2 =>
    have p : PostG C E H0 g0 g ((m x ρ M).bind fun ρ1 M1 => ms xs ρ1 M1) Q := p
    refine ⟨v, vs, rfl, h H0 g0 g M H σ ρ v x _ o s r r1 ?_⟩
    cases e : m x ρ M with
    | stuck => rw [e] at p; exact p
    | exn c M1 => rw [e] at p; exact p
    | ok ρ1 M1 =>
      rw [e] at p
      exact fun g' H' σ' o' s' l r' => hs H0 g0 g' M1 H' σ' ρ1 vs xs Q o' s' r' (Paired.mapP r2 fun _ _ q => q.le l) (PostG.le (r := ms xs ρ1 M1) p l)
theorem eg_tupG {tgs : TGs} {n : Nat} {ms : List Val → Rho → Store → Res Rho} (hs : EvGt C E tgs ms) : EvG C E (gTup C.K n tgs) (gTupM n ms) := fun H0 g0 g M H σ ρ v x Q o s r rv p => by
  unfold gTupM at p
  cases e : itemsK M false x with
  | none => rw [e] at p; exact p.elim
  | some xs =>
    rw [e] at p
    obtain ⟨a, vs, rfl, h1, h2⟩ := rep_ref o rv e
    by_cases hn : xs.length = n
    · simp only [hn, if_true] at p
      exact ⟨a, vs, rfl, h1, by rw [Paired.length h2]; exact hn, hs H0 g0 g M H σ ρ vs xs Q o s r h2 p⟩
    · simp only [hn, if_false] at p
      exact p.elim
def sAsg (m : Sm Val) (tg : Tg) : Sm Fl := fun ρ M => (m ρ M).bind fun x M1 => (tg x ρ M1).bind fun ρ' M2 => .ok (.nx ρ') M2
theorem es_asg {tg : TG} {mg : Tg} (h : EvE C E te m) (hg : EvG C E tg mg) : EvS C E (tAsg te tg) (sAsg m mg) := fun H0 g0 g M H σ ρ D o s r p =>
  h H0 g M H σ ρ _ o r ((PostS.bind s p).imp fun x g' M' H' o' st k v rv => by
    refine hg H0 g0 g' M' H' σ ρ v x _ o' (s.trans st) (r.step st) rv ?_
    cases e : mg x ρ M' with
    | stuck => rw [e] at k; exact k
    | exn c M1 => rw [e] at k; exact k
    | ok ρ1 M1 => rw [e] at k; exact k)
/-- a, b = e1, e2 -/
def sPar (i j : Nat) (mA : Sm (List Val)) : Sm Fl := fun ρ M => (mA ρ M).bind fun xs M1 => match xs with
  | [x, y] => .ok (.nx ((ρ.set i (some (.sh x))).set j (some (.sh y)))) M1
  | _ => .stuck
/-- x = a new list, one's own from now on -/
def sAsgL (i : Nat) (m : Sm (List Val)) : Sm Fl := fun ρ M => (m ρ M).bind fun xs M1 => match pures xs with
  | some ds => .ok (.nx (ρ.set i (some (.ol ds)))) M1
  | none => .stuck
def pureD : List (Key × Val) → Option (List (Key × PyData))
  | [] => some []
  | (k, .d x) :: r => (pureD r).map ((k, x) :: ·)
  | _ :: _ => none
def sAsgD (i : Nat) (m : Sm (List (Key × Val))) : Sm Fl := fun ρ M => (m ρ M).bind fun xs M1 => match pureD xs with
  | some ds => .ok (.nx (ρ.set i (some (.od ds)))) M1
  | none => .stuck
def wOl (ρ : Rho) (i : Nat) (f : List PyData → Res Fl) : Res Fl := match ρ[i]? with
  | some (some (.ol xs)) => f xs
  | _ => .stuck
theorem RpAll.snoc {K : PySem.W.Frag} {S : Hp} {vs : List V} {ds : List PyData} {v : V} {d : PyData} (h : RpAll K S vs ds) (r : Rp K S v d) : RpAll K S (vs ++ [v]) (ds ++ [d]) := RpAll.append h (.cons r .nil)
/-- x.append(e) of one's own list -/
def sApp (i : Nat) (m : Sm Val) : Sm Fl := fun ρ M => wOl ρ i fun xs => (m ρ M).bind fun y M1 => match y with
  | .d y => if xs.length < 100000 then .ok (.nx (ρ.set i (some (.ol (xs ++ [y]))))) M1 else .stuck
  | _ => .stuck
/-- x.extend(a new list) of one's own list -/
def sExt (i : Nat) (m : Sm (List Val)) : Sm Fl := fun ρ M => wOl ρ i fun xs => (m ρ M).bind fun ys M1 => match pures ys with
  | some ds => if xs.length + ds.length < 100000 then .ok (.nx (ρ.set i (some (.ol (xs ++ ds))))) M1 else .stuck
  | none => .stuck
/-- x[j] = e of one's own list -/
def sSet (i : Nat) (m mj : Sm Val) : Sm Fl := fun ρ M => wOl ρ i fun xs => (m ρ M).bind fun y M1 => (mj ρ M1).bind fun j M2 => match y, j with
  | .d y, .d (.int j) => match ixN xs.length j with
    | some n => .ok (.nx (ρ.set i (some (.ol (xs.set n y))))) M2
    | none => .stuck
  | _, _ => .stuck
/-- what was one's own does not change any more -/
def frzR (ρ : Rho) (i : Nat) : Rho := match ρ[i]? with
  | some (some (.ol xs)) => ρ.set i (some (.sh (.d (.list xs))))
  | some (some (.od xs)) => ρ.set i (some (.sh (.d (.dict (kvD xs)))))
  | _ => ρ
def sFrz (i : Nat) (m : Sm Fl) : Sm Fl := fun ρ M => m (frzR ρ i) M
/-! ### loops -/
def forM (src : Src) (tg : Tg) (b : Sm Fl) : Nat → Nat → Sm Fl
  | 0, i => fun ρ M => match src.at M i with
    | some none => .ok (.nx ρ) M
    | _ => .stuck
  | k + 1, i => fun ρ M => match src.at M i with
    | some none => .ok (.nx ρ) M
    | some (some x) => (tg x ρ M).bind fun ρ1 M1 => (b ρ1 M1).bind fun f M2 => match f with
      | .nx ρ2 => forM src tg b k (i + 1) ρ2 M2
      | .ct ρ2 => forM src tg b k (i + 1) ρ2 M2
      | .bk ρ2 => .ok (.nx ρ2) M2
      | .rt x => .ok (.rt x) M2
    | none => .stuck
/-! ### a slot is forgotten -/
theorem RSt.forget (r : RSt C H0 g H σ ρ) (i : Nat) : RSt C H0 g H σ (ρ.set i none) where
  len := by simp [r.len]
  sh := fun j x h => by
    rcases get_set h with ⟨rfl, e, _⟩ | ⟨_, h⟩
    · cases e
    · exact r.sh j x h
  ol := fun j x h => by
    rcases get_set h with ⟨rfl, e, _⟩ | ⟨_, h⟩
    · cases e
    · exact r.ol j x h
  od := fun j x h => by
    rcases get_set h with ⟨rfl, e, _⟩ | ⟨_, h⟩
    · cases e
    · exact r.od j x h
  ne := fun j k a hjk o1 o2 e1 e2 => by
    have key : ∀ j, isOwn (ρ.set i none)[j]? → isOwn ρ[j]? := fun j h => by
      by_cases e : j = i
      · subst e
        by_cases hl : j < ρ.length
        · rw [List.getElem?_set_self hl] at h; exact h.elim
        · rw [List.getElem?_eq_none (by simpa using hl)] at h; exact h.elim
      · rw [List.getElem?_set_ne (Ne.symm e)] at h; exact h
    exact r.ne j k a hjk (key j o1) (key k o2) e1 e2
theorem RSt.forgetL (r : RSt C H0 g H σ ρ) : ∀ ks : List Nat, RSt C H0 g H σ (wipeR ρ ks)
  | [] => r
  | k :: ks => (RSt.forgetL r ks).forget k
def killF (ks : List Nat) : Fl → Fl
  | .nx ρ => .nx (wipeR ρ ks)
  | .ct ρ => .ct (wipeR ρ ks)
  | .bk ρ => .bk (wipeR ρ ks)
  | .rt x => .rt x
def sKill (ks : List Nat) (m : Sm Fl) : Sm Fl := fun ρ M => (m ρ M).bind fun f M1 => .ok (killF ks f) M1
def sPre (ks : List Nat) (m : Sm Fl) : Sm Fl := fun ρ M => m (wipeR ρ ks) M
theorem es_kill {ks : List Nat} (h : EvS C E ts ms) : EvS C E ts (sKill ks ms) := fun H0 g0 g M H σ ρ D o s r p => by
  refine h H0 g0 g M H σ ρ D o s r ?_
  unfold sKill at p
  cases e : ms ρ M with
  | stuck => rw [e] at p; exact p
  | exn c M1 => rw [e] at p; exact p
  | ok f M1 =>
    rw [e] at p
    cases f with
    | nx ρ1 => exact fun g' H' σ' o' s' l r' => p g' H' σ' o' s' l (r'.forgetL ks)
    | ct ρ1 => exact fun g' H' σ' o' s' l r' => p g' H' σ' o' s' l (r'.forgetL ks)
    | bk ρ1 => exact fun g' H' σ' o' s' l r' => p g' H' σ' o' s' l (r'.forgetL ks)
    | rt x => exact p
def sFor (ks : List Nat) (mi : Sm Src) (tg : Tg) (b : Sm Fl) : Sm Fl := fun ρ M => (mi ρ M).bind fun src M1 => forM src tg (sKill ks b) (src.len M1) 0 (wipeR ρ ks) M1
theorem es_for0 {ks : List Nat} {wi : TI} {tg : TG} {mi : Sm Src} {mg : Tg} (hi : EvI C E wi mi) (hg : EvG C E tg mg) (hb : EvS C E ts ms) : EvS C E (tFor wi tg ts) (fun ρ M => (mi ρ M).bind fun src M1 => forM src mg ms (src.len M1) 0 (wipeR ρ ks) M1) := fun H0 g0 g M H σ ρ D o s r p =>
  hi H0 g M H σ ρ _ o r ((PostS.bind s p).imp fun src g1 M1 H1 o1 st1 k J sj => by
    refine ⟨fun i m σ' Hh => ∃ (gg : G) (MM : Store) (ρ' : Rho), Ok C gg MM Hh ∧ Step g0 H0 gg Hh ∧ Gle g1 gg ∧ RSt C H0 gg Hh σ' ρ' ∧ PostS C E H0 g0 gg (forM src mg ms m i ρ' MM) D,
      ⟨src.len M1, g1, M1, wipeR ρ ks, o1, s.trans st1, Gle.refl _, (r.step st1).forgetL ks, k⟩, ?_⟩
    rintro i m σ' Hh ⟨gg, MM, ρ', oo, ss, le, rr, k⟩
    have sj' := sj.le le
    cases m with
    | zero =>
      simp only [forM] at k
      cases e : src.at MM i with
      | none => rw [e] at k; exact k.elim
      | some z =>
        cases z with
        | none =>
          rw [e] at k
          exact .inl ⟨sj'.stop oo e, k gg Hh σ' oo ss (Gle.refl _) rr⟩
        | some x => rw [e] at k; exact k.elim
    | succ m =>
      simp only [forM] at k
      cases e : src.at MM i with
      | none => rw [e] at k; exact k.elim
      | some z =>
        cases z with
        | none =>
          rw [e] at k
          exact .inl ⟨sj'.stop oo e, k gg Hh σ' oo ss (Gle.refl _) rr⟩
        | some x =>
          rw [e] at k
          simp only at k
          obtain ⟨go, yl⟩ := sj'.turn oo e
          refine .inr ⟨go, fun σ2 H2 => ∃ (gg : G) (MM : Store) (ρ' : Rho), Ok C gg MM H2 ∧ Step g0 H0 gg H2 ∧ Gle g1 gg ∧ RSt C H0 gg H2 σ2 ρ' ∧ PostS C E H0 g0 gg (forM src mg ms m (i + 1) ρ' MM) D, fun σ2 H2 h2 => ⟨m, by omega, h2⟩, fun v H2 y => ?_⟩
          obtain ⟨g2, o2, s2, rv⟩ := yl v H2 y
          refine hg H0 g0 g2 MM H2 σ' ρ' v x _ o2 (ss.trans s2) (rr.step s2) rv ?_
          cases em : mg x ρ' MM with
          | stuck => rw [em] at k; exact k.elim
          | exn c M9 => rw [em] at k; exact k
          | ok ρ1 M9 =>
            rw [em] at k
            simp only [bind_ok] at k
            intro g3 H3 σ3 o3 s3 l3 r3
            refine hb H0 g0 g3 M9 H3 σ3 ρ1 _ o3 s3 r3 ?_
            cases eb : ms ρ1 M9 with
            | stuck => rw [eb] at k; exact k.elim
            | exn c M8 => rw [eb] at k; exact k
            | ok f M8 =>
              rw [eb] at k
              simp only [bind_ok] at k
              cases f with
              | nx ρ2 => exact fun g4 H4 σ4 o4 s4 l4 r4 => ⟨g4, M8, ρ2, o4, s4, ((le.trans s2.le).trans l3).trans l4, r4, PostS.le (r := forM src mg ms m (i + 1) ρ2 M8) k ((s2.le.trans l3).trans l4)⟩
              | ct ρ2 => exact fun g4 H4 σ4 o4 s4 l4 r4 => ⟨g4, M8, ρ2, o4, s4, ((le.trans s2.le).trans l3).trans l4, r4, PostS.le (r := forM src mg ms m (i + 1) ρ2 M8) k ((s2.le.trans l3).trans l4)⟩
              | bk ρ2 => exact fun g4 H4 σ4 o4 s4 l4 r4 => k g4 H4 σ4 o4 s4 ((s2.le.trans l3).trans l4) r4
              | rt xx => exact fun g4 H4 v4 o4 s4 l4 r4 => k g4 H4 v4 o4 s4 ((s2.le.trans l3).trans l4) r4)
theorem es_for {ks : List Nat} {wi : TI} {tg : TG} {mi : Sm Src} {mg : Tg} (hi : EvI C E wi mi) (hg : EvG C E tg mg) (hb : EvS C E ts ms) : EvS C E (tFor wi tg ts) (sFor ks mi mg ms) := es_for0 hi hg (es_kill hb)
def whileM (c : Sm Bool) (b : Sm Fl) : Nat → Sm Fl
  | 0 => fun _ _ => .stuck
  | k + 1 => fun ρ M => (c ρ M).bind fun t M1 => if t = true then (b ρ M1).bind fun f M2 => match f with
      | .nx ρ2 => whileM c b k ρ2 M2
      | .ct ρ2 => whileM c b k ρ2 M2
      | .bk ρ2 => .ok (.nx ρ2) M2
      | .rt x => .ok (.rt x) M2
    else .ok (.nx ρ) M1
def sWhile (ks : List Nat) (n : Nat) (c : Sm Bool) (b : Sm Fl) : Sm Fl := sPre ks (whileM c (sKill ks b) n)
end
end Z

/-! Z, part 9: sums, items, parts. -/
namespace Z
open PySem PySem.Spec PyProof.Rows L2

section
variable {X : Cx} {C : Ctx} {E : XK} {g g' : G} {H H' H0 : Hp} {M M' : Store}
variable {ta tb tc te : TE} {ma mb mc m : Sm Val}
/-- a rule over values of ours -/
def OpG (C : Ctx) (E : XK) (r : R2) (f : Val → Val → Store → Res Val) : Prop := ∀ (g : G) (M : Store) (H : Hp) (v u : V) (x y : Val) (Q : VK), Ok C g M H → RepX C g H v x → RepX C g H u y →
  Post C E g H (f x y M) (fun z g' _ H' => ∀ w, Rep C g' w z → Q w H') → r v u H Q
def eG (f : Val → Val → Store → Res Val) (ma mb : Sm Val) : Sm Val := fun ρ M => (ma ρ M).bind fun x M1 => (mb ρ M1).bind fun y M2 => f x y M2
theorem ev_opG {r : R2} {f : Val → Val → Store → Res Val} (op : OpG C E r f) (ha : EvW C E ta ma) (hb : EvW C E tb mb) : EvE C E (tOp r ta tb) (eG f ma mb) := fun H0 g M H σ ρ Q o r p =>
  ha H0 g M H σ ρ _ o r (p.bind.imp fun x g' M' H' o' st k v rv => hb H0 g' M' H' σ ρ _ o' (r.step st) (k.bind.imp fun y g2 M2 H2 o2 st2 k2 u ru =>
    op g2 M2 H2 v u x y Q o2 ((rv.step st2).here o2) (ru.here o2) k2))
/-! a + b -/
def fAdd : PyData → PyData → Option PyData
  | .int i, .int j => some (.int (i + j))
  | .str a, .str b => if a.length + b.length ≤ sizeLine then some (.str (a ++ b)) else none
  | .list xs, .list ys => if xs.length + ys.length ≤ 100000 then some (.list (xs ++ ys)) else none
  | .tuple xs, .tuple ys => if xs.length + ys.length ≤ 100000 then some (.tuple (xs ++ ys)) else none
  | _, _ => none
/-- t + u, its object known -/
def rCatS (K : PySem.W.Frag) : R2 := fun x y H Q => ∃ a b xs ys, x = .ref a ∧ y = .ref b ∧ SqT K H a xs ∧ SqT K H b ys ∧ xs.length + ys.length ≤ sizeLine ∧
  (xs = [] → Q (.ref b) H) ∧ (xs ≠ [] → ys = [] → Q (.ref a) H) ∧ (xs ≠ [] → ys ≠ [] → NewT H (xs ++ ys) Q)
theorem op_catS : OpR X (binaryOp .Add) (rCatS X.K) := by
  rintro pins s σ H _ _ v u Q I rx ry ⟨a, b, xs, ys, rfl, rfl, ha, hb, hz, c0, c1, c2⟩
  obtain rfl : v = .ref a := rx
  obtain rfl : u = .ref b := ry
  obtain ⟨is, r1, t1, -⟩ := I.tuple ha
  obtain ⟨js, r2, t2, -⟩ := I.tuple hb
  have n1 : is = [] ↔ xs = [] := r1.nil_iff
  have n2 : js = [] ↔ ys = [] := r2.nil_iff
  rcases Classical.em (xs = []) with e | e
  · have e' := n1.mpr e
    subst e'
    exact cat_tup0 t1 t2 ⟨.ref b, H, I, rfl, c0 e⟩
  · refine HT.cat_tup t1 t2 (fun z => e (n1.mp z)) (fun z => ⟨.ref a, H, I, rfl, c1 e (n2.mp z)⟩) (fun z => ?_) ?_
    · exact newT_go I (r1.append r2) (by rw [List.length_append]; exact hz) (c2 e fun w => z (n2.mpr w))
    · rw [← r1.length, ← r2.length]; exact hz
def rAddZ (K : PySem.W.Frag) : R2 := fun x y H Q => rF2 K fAddF x y H Q ∨ rCat x y H Q ∨ rCatS K x y H Q
theorem oz_addF : OpR X (binaryOp .Add) (rF2 X.K fAddF) := OpR.of (OpR.or op_add op_add_str) fun x y H Q ⟨a, b, z, v, h1, h2, h3, h4, q⟩ => by
  unfold fAddF at h3
  split at h3
  · cases h3; cases h4; exact .inl ⟨_, _, rint h1, rint h2, q⟩
  · split at h3
    · rename_i hc
      cases h3; cases h4; exact .inr ⟨_, _, rstr h1, rstr h2, hc, q⟩
    · cases h3
  · cases h3
theorem oz_add : OpR X (binaryOp .Add) (rAddZ X.K) := oz_addF.or (op_cat.or op_catS)
theorem small5 {n : Nat} (h : n ≤ 100000) : n ≤ sizeLine := by rw [sizeLine_eq]; omega
theorem op2_add : Op2 C E (rAddZ C.K) fAdd := fun g M H v u x y z Q o rx ry e p => by
  unfold fAdd at e
  split at e
  · cases e
    cases RpC.int rx; cases RpC.int ry
    exact .inl ⟨_, _, _, _, .int _, .int _, rfl, rfl, p.here o _ (.int _)⟩
  · split at e
    · rename_i hc
      cases e
      cases RpC.str rx; cases RpC.str ry
      exact .inl ⟨_, _, _, _, .str _, .str _, by simp only [fAddF]; rw [if_pos hc], rfl, p.here o _ (.str _)⟩
    · cases e
  · split at e
    · rename_i hc
      cases e
      obtain ⟨a, vs, rfl, ha, h1⟩ := RpC.list o.ex rx
      obtain ⟨b, us, rfl, hb, h2⟩ := RpC.list o.ex ry
      refine .inr (.inl ⟨a, b, vs, us, rfl, rfl, ha, hb, ?_, fun q hq => ?_⟩)
      · rw [h1.length, h2.length]; exact small5 hc
      · exact p.at (o.newS (o := .lst (vs ++ us)) hq) _ (.lst upd_same (RpAll.mono (same_new (o.free hq).1) _ _ (h1.append h2)))
    · cases e
  · split at e
    · rename_i xs ys hc
      cases e
      have rx' := rx.tupS
      have ry' := ry.tupS
      obtain ⟨a, vs, rfl, ha, h1⟩ := RpC.tuple o.ex rx
      obtain ⟨b, us, rfl, hb, h2⟩ := RpC.tuple o.ex ry
      have l1 := h1.length
      have l2 := h2.length
      refine .inr (.inr ⟨a, b, vs, us, rfl, rfl, ha, hb, by rw [l1, l2]; exact small5 hc, fun e0 => ?_, fun e0 e1 => ?_, fun e0 e1 q ob hq hd => ?_⟩)
      · subst e0
        have : xs = [] := List.length_eq_zero_iff.mp (by simpa using l1.symm)
        subst this
        exact p.here o _ ry'
      · subst e1
        have : ys = [] := List.length_eq_zero_iff.mp (by simpa using l2.symm)
        subst this
        rw [List.append_nil] at p
        exact p.here o _ rx'
      · exact p.at (o.newS (o := .frz ob (.tup (vs ++ us))) hq) _ (.tup (.new hd) (RpAll.mono (same_new (o.free hq).1) _ _ (h1.append h2)))
    · cases e
  · cases e
/-! items -/
def ixV (M : Store) (x : Val) (i : Int) : Option Val := match x with
  | .scr ns => (atI ns i).map fun n => .d (.int n)
  | .d (.list ds) => (atI ds i).map .d
  | .d (.tuple ds) => (atI ds i).map .d
  | .d (.str z) => if z.length ≤ sizeLine then (atI z.cps.toList i).map fun c => .d (.str ⟨#[c]⟩) else none
  | .ref n => match M[n]? with
    | some (.lst xs) => atI xs i
    | some (.tup xs) => atI xs i
    | _ => none
  | _ => none
def fIx (x y : Val) (M : Store) : Res Val := match y with
  | .d (.int i) => match ixV M x i with
    | some v => .ok v M
    | none => .stuck
  | _ => .stuck
theorem atI_some {α : Type} {xs : List α} {i : Int} {x : α} (h : atI xs i = some x) : ∃ j, ixN xs.length i = some j ∧ xs[j]? = some x := by
  unfold atI at h
  cases e : ixN xs.length i with
  | none => rw [e] at h; cases h
  | some j => rw [e] at h; exact ⟨j, rfl, h⟩
theorem atI_rp {K : PySem.W.Frag} {S : Hp} {vs : List V} {ds : List PyData} {i : Int} {d : PyData} (h : RpAll K S vs ds) (e : atI ds i = some d) : ∃ v, atI vs i = some v ∧ Rp K S v d := by
  obtain ⟨j, e1, e2⟩ := atI_some e
  obtain ⟨v, h1, h2⟩ := h.get e2
  exact ⟨v, by unfold atI; rw [h.length, e1]; exact h1, h2⟩
theorem atI_rep {vs : List V} {ds : List Val} {i : Int} {d : Val} (h : Reps C g vs ds) (e : atI ds i = some d) : ∃ v, atI vs i = some v ∧ Rep C g v d := by
  obtain ⟨j, e1, e2⟩ := atI_some e
  obtain ⟨v, h1, h2⟩ := reps_getX h e2
  exact ⟨v, by unfold atI; rw [Paired.length h, e1]; exact h1, h2⟩
theorem fIx_at : OpG C E (rIx C.K) fIx := fun g M H v u x y Q o rx ry p => by
  cases y with
  | ref n => exact p.elim
  | scr n => exact p.elim
  | d y =>
    cases y with
    | int i =>
      have p2 : Post C E g H (match ixV M x i with
        | some v => Res.ok v M
        | none => .stuck) _ := p
      cases RpC.int ry
      cases e : ixV M x i with
      | none => rw [e] at p2; exact p2.elim
      | some w =>
        rw [e] at p2
        clear p
        cases x with
        | scr ns =>
          obtain ⟨q, rfl, hq⟩ := rx
          have e : (atI ns i).map (fun n => Val.d (.int n)) = some w := e
          cases e2 : atI ns i with
          | none => rw [e2] at e; cases e
          | some n =>
            rw [e2] at e
            cases e
            obtain ⟨j, e3, e4⟩ := atI_some e2
            exact .inl ⟨q, _, i, .int n, rfl, rfl, sqlMono o.ex hq, by unfold atI; rw [List.length_map, e3]; simp [e4], p2.here o _ (.int n)⟩
        | ref n =>
          obtain ⟨q, h1, rfl⟩ := rx
          have e : (match M[n]? with
            | some (.lst xs) => atI xs i
            | some (.tup xs) => atI xs i
            | _ => none) = some w := e
          cases hm : M[n]? with
          | none => rw [hm] at e; cases e
          | some nd =>
            rw [hm] at e
            have hn := o.node n q nd h1 hm
            cases nd with
            | lst xs =>
              obtain ⟨vs, k1, k2⟩ := hn
              obtain ⟨z, z1, z2⟩ := atI_rep k2 e
              exact .inl ⟨q, vs, i, z, rfl, rfl, SqL.of k1, z1, p2.here o _ z2⟩
            | tup xs =>
              obtain ⟨vs, k1, k2⟩ := hn
              obtain ⟨z, z1, z2⟩ := atI_rep k2 e
              exact .inr (.inl ⟨q, vs, i, z, rfl, rfl, .inl k1, z1, p2.here o _ z2⟩)
            | dic _ => cases e
            | obj _ _ => cases e
            | dead => cases e
        | d x =>
          cases x with
          | list ds =>
            have e : (atI ds i).map Val.d = some w := e
            cases e2 : atI ds i with
            | none => rw [e2] at e; cases e
            | some d =>
              rw [e2] at e; cases e
              obtain ⟨a, vs, rfl, ha, h1⟩ := RpC.list o.ex rx
              obtain ⟨z, z1, z2⟩ := atI_rp h1 e2
              exact .inl ⟨a, vs, i, z, rfl, rfl, SqL.of ha, z1, p2.here o _ z2⟩
          | tuple ds =>
            have e : (atI ds i).map Val.d = some w := e
            cases e2 : atI ds i with
            | none => rw [e2] at e; cases e
            | some d =>
              rw [e2] at e; cases e
              obtain ⟨a, vs, rfl, ha, h1⟩ := RpC.tuple o.ex rx
              obtain ⟨z, z1, z2⟩ := atI_rp h1 e2
              exact .inr (.inl ⟨a, vs, i, z, rfl, rfl, ha, z1, p2.here o _ z2⟩)
          | str z =>
            have e : (if z.length ≤ sizeLine then (atI z.cps.toList i).map fun c => Val.d (.str ⟨#[c]⟩) else none) = some w := e
            split at e
            · rename_i hz
              cases e2 : atI z.cps.toList i with
              | none => rw [e2] at e; cases e
              | some c =>
                rw [e2] at e; cases e
                cases RpC.str rx
                exact .inr (.inr ⟨z, i, c, rfl, rfl, hz, e2, p2.here o _ (.str _)⟩)
            · cases e
          | none => cases e
          | bool _ => cases e
          | int _ => cases e
          | dict _ => cases e
    | _ => exact p.elim

/-! parts -/
def EvO (C : Ctx) (E : XK) (to : TO) (m : Sm (Option Int)) : Prop := ∀ (H0 : Hp) (g : G) (M : Store) (H : Hp) (σ : L2.St) (ρ : Rho) (Q : Option Int → Hp → Prop), Ok C g M H → RSt C H0 g H σ ρ →
  Post C E g H (m ρ M) (fun x _ _ H' => Q x H') → to σ H Q
def oN : Sm (Option Int) := fun _ M => .ok none M
def oS (m : Sm Val) : Sm (Option Int) := fun ρ M => (m ρ M).bind fun x M1 => match x with
  | .d (.int i) => .ok (some i) M1
  | _ => .stuck
theorem eo_none : EvO C E tNoPart oN := fun H0 g M H σ ρ Q o r p => p.here o
theorem eo_some (h : EvE C E te m) : EvO C E (tPart te) (oS m) := fun H0 g M H σ ρ Q o r p =>
  h H0 g M H σ ρ _ o r (p.bind.imp fun x g' M' H' o' st k v rv => by
    cases x with
    | ref n => exact k.elim
    | scr n => exact k.elim
    | d x =>
      cases x with
      | int i => exact ⟨i, rint rv, k.here o'⟩
      | _ => exact k.elim)
def cut {α : Type} (xs : List α) (lo hi : Option Int) : List α := (xs.drop (HT.sIx xs.length 0 lo)).take (HT.sIx xs.length xs.length hi - HT.sIx xs.length 0 lo)
def fSl (lo hi : Option Int) : PyData → Option PyData
  | .list ds => some (.list (cut ds lo hi))
  | .tuple ds => some (.tuple (cut ds lo hi))
  | .str z => if z.length ≤ sizeLine then some (.str (cutS z lo hi)) else none
  | _ => none
/-- t[lo:hi], its object known -/
def rSlS (K : PySem.W.Frag) : V → Option Int → Option Int → Hp → VK → Prop := fun x lo hi H Q => ∃ a xs, x = .ref a ∧ SqT K H a xs ∧
  (HT.sIx xs.length 0 lo = 0 ∧ HT.sIx xs.length xs.length hi = xs.length → Q (.ref a) H) ∧ (¬ (HT.sIx xs.length 0 lo = 0 ∧ HT.sIx xs.length xs.length hi = xs.length) → NewT H (cutV xs lo hi) Q)
theorem sl_tupS : SlR X (rSlS X.K) := by
  rintro pins s σ H _ v vl vu lo hi sl Q I rx hs pl pu ⟨a, xs, rfl, ha, c1, c2⟩
  obtain rfl : v = .ref a := rx
  obtain ⟨is, r, t, hz⟩ := I.tuple ha
  have n : is.toArray.size = xs.length := by rw [List.size_toArray, r.length]
  refine ⟨"tuple", _, PyProof.Rows.slot_tuple_getitem.lookup, t.typeIs, ?_⟩
  rcases Classical.em (HT.sIx xs.length 0 lo = 0 ∧ HT.sIx xs.length xs.length hi = xs.length) with e | e
  · exact getItem_tuple_whole t hs pl pu (by rw [n]; exact e) ⟨.ref a, H, I, rfl, c1 e⟩
  · refine HT.getItem_tuple_cut t hs pl pu (by rw [n]; exact e) ?_ (by rw [n]; exact hz)
    rw [n]
    exact newT_go I ((r.drop _).take _) (Nat.le_trans (cutV_length xs lo hi) hz) (c2 e)
def rSlZ (K : PySem.W.Frag) : V → Option Int → Option Int → Hp → VK → Prop := fun x lo hi H Q => rSlL K x lo hi H Q ∨ rSlS K x lo hi H Q ∨ L2.rSlS x lo hi H Q
theorem sl_z : SlR X (rSlZ X.K) := sl_list.or (sl_tupS.or sl_str)
def eSl (m : Sm Val) (ml mh : Sm (Option Int)) : Sm Val := fun ρ M => (m ρ M).bind fun x M1 => (ml ρ M1).bind fun lo M2 => (mh ρ M2).bind fun hi M3 => lift1 (fSl lo hi) x M3
theorem RpAll.cut {K : PySem.W.Frag} {S : Hp} {vs : List V} {ds : List PyData} (h : RpAll K S vs ds) (lo hi : Option Int) : RpAll K S (cutV vs lo hi) (Z.cut ds lo hi) := by
  unfold cutV Z.cut
  rw [h.length]
  exact (h.drop _).take _
theorem cut_all {α : Type} {xs : List α} {lo hi : Option Int} (h1 : HT.sIx xs.length 0 lo = 0) (h2 : HT.sIx xs.length xs.length hi = xs.length) : cut xs lo hi = xs := by
  unfold cut; rw [h1, h2]; simp
theorem ev_sl {tl th : TO} {ml mh : Sm (Option Int)} (h : EvW C E te m) (hl : EvO C E tl ml) (hh : EvO C E th mh) : EvE C E (tSl (rSlZ C.K) te tl th) (eSl m ml mh) := fun H0 g M H σ ρ Q o r p =>
  h H0 g M H σ ρ _ o r (p.bind.imp fun x g' M' H' o' st k v rv => hl H0 g' M' H' σ ρ _ o' (r.step st) (k.bind.imp fun lo g2 M2 H2 o2 st2 k2 => hh H0 g2 M2 H2 σ ρ _ o2 ((r.step st).step st2) (k2.bind.imp fun hi g3 M3 H3 o3 st3 k3 => by
    unfold lift1 at k3
    cases e : load M3 x with
    | none => rw [e] at k3; exact k3.elim
    | some a =>
      rw [e] at k3
      simp only at k3
      have ra := (((rv.step st2).step st3).here o3).load o3 e
      cases a with
      | list ds =>
        obtain ⟨a, vs, rfl, ha, h1⟩ := RpC.list o3.ex ra
        exact .inl ⟨a, vs, rfl, SqL.of ha, fun q hq => k3.at (o3.newS (o := .lst (cutV vs lo hi)) hq) _ (.lst upd_same (RpAll.mono (same_new (o3.free hq).1) _ _ (h1.cut lo hi)))⟩
      | tuple ds =>
        have rs := ra.tupS
        obtain ⟨a, vs, rfl, ha, h1⟩ := RpC.tuple o3.ex ra
        have hl := h1.length
        refine .inr (.inl ⟨a, vs, rfl, ha, fun hw => ?_, fun _ q ob hq hd => k3.at (o3.newS (o := .frz ob (.tup (cutV vs lo hi))) hq) _ (.tup (.new hd) (RpAll.mono (same_new (o3.free hq).1) _ _ (h1.cut lo hi)))⟩)
        rw [hl] at hw
        simp only [fSl, cut_all hw.1 hw.2] at k3
        exact k3.here o3 _ rs
      | str z =>
        simp only [fSl] at k3
        by_cases hz : z.length ≤ sizeLine
        · simp only [if_pos hz] at k3
          cases RpC.str ra
          exact .inr (.inr ⟨z, rfl, hz, k3.here o3 _ (.str _)⟩)
        · simp only [if_neg hz] at k3; exact k3.elim
      | none => exact k3.elim
      | bool _ => exact k3.elim
      | int _ => exact k3.elim
      | dict _ => exact k3.elim)))
end
end Z

/-! Z, part 10: built-in functions. -/
namespace Z
open PySem PySem.Spec PyProof.Rows L2

section
variable {X : Cx} {C : Ctx} {E : XK} {g g' : G} {H H' H0 : Hp} {M M' : Store}
variable {ta tb tc te : TE} {ma mb mc m : Sm Val} {tA : TA} {mA : Sm (List Val)}
def CbG (C : Ctx) (E : XK) (r : List V → Hp → VK → Prop) (f : List Val → Store → Res Val) : Prop := ∀ (g : G) (M : Store) (H : Hp) (vs : List V) (xs : List Val) (Q : VK), Ok C g M H → Paired (RepX C g H) vs xs →
  Post C E g H (f xs M) (fun z g' _ H' => ∀ u, Rep C g' u z → Q u H') → r vs H Q
theorem pairedX {vs : List V} {xs : List Val} (o : Ok C g M H) (h : Paired (RepW C g H) vs xs) : Paired (RepX C g H) vs xs := Paired.mapP h fun _ _ r => r.here o
theorem ev_cbG {r : List V → Hp → VK → Prop} {f : List Val → Store → Res Val} (op : CbG C E r f) (ha : EvAW C E tA mA) : EvE C E (tCB r tA) (fun ρ M => (mA ρ M).bind f) := fun H0 g M H σ ρ Q o r p =>
  ha H0 g M H σ ρ _ o r (p.bind.imp fun xs g' M' H' o' st k vs rs => op g' M' H' vs xs Q o' (pairedX o' rs) k)
/-! whole numbers, truth values out of data -/
def intsD : List PyData → Option (List Int)
  | [] => some []
  | .int i :: r => (intsD r).map (i :: ·)
  | _ :: _ => none
def boolsD : List PyData → Option (List Bool)
  | [] => some []
  | .bool i :: r => (boolsD r).map (i :: ·)
  | _ :: _ => none
@[simp] theorem ints_map (xs : List Int) : intsD (xs.map PyData.int) = some xs := by
  induction xs with
  | nil => rfl
  | cons x r ih => simp [intsD, ih]
@[simp] theorem bools_map (xs : List Bool) : boolsD (xs.map PyData.bool) = some xs := by
  induction xs with
  | nil => rfl
  | cons x r ih => simp [boolsD, ih]
theorem ints_v {K : PySem.W.Frag} {S : Hp} : ∀ {ds : List PyData} {vs : List V} {ns : List Int}, RpAll K S vs ds → intsD ds = some ns → vs = ns.map V.int
  | [], _, ns, h, e => by simp [intsD] at e; subst e; cases h; rfl
  | d :: ds, _, ns, h, e => by
    cases h with
    | cons h1 h2 =>
      cases d with
      | int i =>
        simp [intsD] at e
        obtain ⟨ms, e1, rfl⟩ := e
        rw [ints_v h2 e1, rint h1]; rfl
      | _ => simp [intsD] at e
theorem bools_v {K : PySem.W.Frag} {S : Hp} : ∀ {ds : List PyData} {vs : List V} {ns : List Bool}, RpAll K S vs ds → boolsD ds = some ns → vs = ns.map V.bl
  | [], _, ns, h, e => by simp [boolsD] at e; subst e; cases h; rfl
  | d :: ds, _, ns, h, e => by
    cases h with
    | cons h1 h2 =>
      cases d with
      | bool i =>
        simp [boolsD] at e
        obtain ⟨ms, e1, rfl⟩ := e
        rw [bools_v h2 e1, rbl h1]; rfl
      | _ => simp [boolsD] at e
/-! sum, all -/
def fSum : List PyData → Option PyData
  | [.list ds] => (intsD ds).map fun ns => .int ns.sum
  | [.tuple ds] => (intsD ds).map fun ns => .int ns.sum
  | _ => none
def fAll : List PyData → Option PyData
  | [.list ds] => (boolsD ds).map fun ns => .bool (ns.all id)
  | _ => none
def fAbs : List PyData → Option PyData
  | [.int i] => some (.int (if i < 0 then -i else i))
  | _ => none
def fMax2 : List PyData → Option PyData
  | [.int i, .int j] => some (.int (if j > i then j else i))
  | _ => none
def fMin2 : List PyData → Option PyData
  | [.int i, .int j] => some (.int (if j < i then j else i))
  | _ => none
theorem CallR.of {f : Value} {r r' : List V → Hp → VK → Prop} (h : CallR X f r) (i : ∀ x H Q, r' x H Q → r x H Q) : CallR X f r' := fun pins s σ H xs us Q I rs q => h pins s σ H xs us Q I rs (i _ _ _ q)
theorem rps1 {K : PySem.W.Frag} {S : Hp} {vs : List V} {d : PyData} (h : RpAll K S vs [d]) : ∃ v, vs = [v] ∧ Rp K S v d := by
  cases h with
  | cons h1 h2 => cases h2; exact ⟨_, rfl, h1⟩
theorem rps2 {K : PySem.W.Frag} {S : Hp} {vs : List V} {d d' : PyData} (h : RpAll K S vs [d, d']) : ∃ v u, vs = [v, u] ∧ Rp K S v d ∧ Rp K S u d' := by
  cases h with
  | cons h1 h2 =>
    cases h2 with
    | cons h3 h4 => cases h4; exact ⟨_, _, rfl, h1, h3⟩
theorem sum_tup (hh : X.A.handled = none) {s : Shared} {t : Addr} {vs : List Value} {ns : List Int} {Q : Value → Shared → Prop} {E : Value → Shared → Prop} (hl : s.heap.IsTuple t vs.toArray) (hi : IntsAre vs ns)
    (h : ∀ h' tk t', (∀ b o, s.heap.get? b = some o → h'.get? b = some o) → Q (.int ns.sum t') { s with heap := h', toks := tk }) : wpAny (model X.prog X.w) X.A (call (.builtin "sum") [.ref t]) Q E s := by
  obtain ⟨xs, hx⟩ := hi.allInts.items
  have hn : numsOf vs.toArray.toList = ns := by rw [show vs.toArray.toList = vs from rfl, hi.numsOf]
  rw [hx] at hl hn
  rw [nums_intItems] at hn
  refine PySem.W.ktm_sumG hh hl fun h' tk t' hk => ?_
  have := h h' tk t' hk
  rw [preSum_eq, List.take_of_length_le (by simp), hn]
  exact this
theorem cb_sum (hc : X.calm = true) : CallR X (.builtin "sum") (rFn X.K fSum) := by
  intro pins s σ H vs us Q I r h
  obtain ⟨as, z, v, ra, e, fz, q⟩ := h
  unfold fSum at e
  split at e
  · rename_i ds
    cases e1 : intsD ds with
    | none => rw [e1] at e; cases e
    | some ns =>
      rw [e1] at e; cases e; cases fz
      obtain ⟨v, rfl, rv⟩ := rps1 ra
      cases rv with
      | lst h1 h2 =>
        have := ints_v h2 e1
        subst this
        exact cr_sum hc pins s σ H _ us Q I r ⟨_, ns, rfl, SqL.of h1, q⟩
  · rename_i ds
    cases e1 : intsD ds with
    | none => rw [e1] at e; cases e
    | some ns =>
      rw [e1] at e; cases e; cases fz
      obtain ⟨v, rfl, rv⟩ := rps1 ra
      cases rv with
      | tup h1 h2 =>
        have := ints_v h2 e1
        subst this
        obtain ⟨its, rv, hl, _⟩ := I.tuple h1.1
        rw [Vals.ref1 r]
        exact sum_tup (I.ok.hd hc) hl rv.ints fun h' tk t' hk => ⟨.int _, H, I.kept hk, ⟨_, rfl⟩, q⟩
  · cases e
theorem cb_all (hc : X.calm = true) : CallR X (.builtin "all") (rFn X.K fAll) := by
  intro pins s σ H vs us Q I r h
  obtain ⟨as, z, v, ra, e, fz, q⟩ := h
  unfold fAll at e
  split at e
  · rename_i ds
    cases e1 : boolsD ds with
    | none => rw [e1] at e; cases e
    | some ns =>
      rw [e1] at e; cases e; cases fz
      obtain ⟨v, rfl, rv⟩ := rps1 ra
      cases rv with
      | lst h1 h2 =>
        have := bools_v h2 e1
        subst this
        exact cr_all hc pins s σ H _ us Q I r ⟨_, ns, rfl, SqL.of h1, q⟩
  · cases e
theorem cb_abs : CallR X (.builtin "abs") (rFn X.K fAbs) := CallR.of call_abs fun vs H Q ⟨as, z, v, ra, e, fz, q⟩ => by
  unfold fAbs at e
  split at e
  · cases e; cases fz
    obtain ⟨v, rfl, rv⟩ := rps1 ra
    cases rint rv
    exact ⟨_, rfl, q⟩
  · cases e
theorem cb_max2 (hc : X.calm = true) : CallR X (.builtin "max") (rFn X.K fMax2) := CallR.of (call_max2 hc) fun vs H Q ⟨as, z, v, ra, e, fz, q⟩ => by
  unfold fMax2 at e
  split at e
  · cases e; cases fz
    obtain ⟨v, u, rfl, rv, ru⟩ := rps2 ra
    cases rint rv; cases rint ru
    exact ⟨_, _, rfl, q⟩
  · cases e
theorem cb_min2 (hc : X.calm = true) : CallR X (.builtin "min") (rFn X.K fMin2) := CallR.of (call_min2 hc) fun vs H Q ⟨as, z, v, ra, e, fz, q⟩ => by
  unfold fMin2 at e
  split at e
  · cases e; cases fz
    obtain ⟨v, u, rfl, rv, ru⟩ := rps2 ra
    cases rint rv; cases rint ru
    exact ⟨_, _, rfl, q⟩
  · cases e
theorem fl_sum : ∀ a z, fSum a = some z → (flat z).isSome = true := fun a z h => by
  unfold fSum at h; split at h
  · simp at h; obtain ⟨_, _, rfl⟩ := h; rfl
  · simp at h; obtain ⟨_, _, rfl⟩ := h; rfl
  · cases h
theorem fl_all : ∀ a z, fAll a = some z → (flat z).isSome = true := fun a z h => by
  unfold fAll at h; split at h
  · simp at h; obtain ⟨_, _, rfl⟩ := h; rfl
  · cases h
theorem fl_abs : ∀ a z, fAbs a = some z → (flat z).isSome = true := fun a z h => by unfold fAbs at h; split at h <;> cases h; rfl
theorem fl_max2 : ∀ a z, fMax2 a = some z → (flat z).isSome = true := fun a z h => by unfold fMax2 at h; split at h <;> cases h; rfl
theorem fl_min2 : ∀ a z, fMin2 a = some z → (flat z).isSome = true := fun a z h => by unfold fMin2 at h; split at h <;> cases h; rfl
/-! len -/
def rLenZ : (K : PySem.W.Frag) → List V → Hp → VK → Prop := fun K xs H Q => (∃ p ys, xs = [.ref p] ∧ (SqL K H p ys ∨ SqT K H p ys) ∧ Q (.int ys.length) H) ∨
  (∃ z, xs = [.str z] ∧ z.length ≤ sizeLine ∧ Q (.int z.length) H) ∨ (∃ a kvs, xs = [V.ref a] ∧ H a = some (.dK kvs) ∧ Q (.int kvs.length) H)
theorem cb_len : CallR X (.builtin "len") (rLenZ X.K) := L2.CallR.or call_len_seq (L2.CallR.or call_len_str call_lenD)
def lenV (M : Store) : Val → Option Nat
  | .scr ns => some ns.length
  | .d (.list ds) => some ds.length
  | .d (.tuple ds) => some ds.length
  | .d (.dict ds) => some ds.length
  | .d (.str z) => if z.length ≤ sizeLine then some z.length else none
  | .ref n => match M[n]? with
    | some (.lst xs) => some xs.length
    | some (.tup xs) => some xs.length
    | some (.dic xs) => some xs.length
    | _ => none
  | _ => none
@[simp] theorem lenV_l (M : Store) (ds : List PyData) : lenV M (.d (.list ds)) = some ds.length := rfl
@[simp] theorem lenV_t (M : Store) (ds : List PyData) : lenV M (.d (.tuple ds)) = some ds.length := rfl
@[simp] theorem lenV_s (M : Store) (ds : List Int) : lenV M (.scr ds) = some ds.length := rfl
def fLen (xs : List Val) (M : Store) : Res Val := match xs with
  | [x] => match lenV M x with
    | some n => .ok (.d (.int (n : Int))) M
    | none => .stuck
  | _ => .stuck
theorem RpKv.length {K : PySem.W.Frag} {S : Hp} : ∀ {ds : List (PyData × PyData)} {vs : List (Key × V)}, RpKv K S vs ds → vs.length = ds.length
  | [], _, h => by cases h; rfl
  | d :: ds, _, h => by
    cases h with
    | cons h1 h2 => simp [RpKv.length h2]
theorem fLen_at : CbG C E (rLenZ C.K) fLen := fun g M H vs xs Q o rx p => by
  match vs, xs, rx, p with
  | [], _, .nil, p => exact p.elim
  | _ :: _ :: _, _, .cons _ (.cons _ _), p => exact p.elim
  | [v], [x], .cons rx .nil, p =>
    have p2 : Post C E g H (match lenV M x with
      | some n => Res.ok (Val.d (.int (n : Int))) M
      | none => .stuck) (fun z g' _ H' => ∀ u, Rep C g' u z → Q u H') := p
    clear p
    cases e : lenV M x with
    | none => rw [e] at p2; exact p2.elim
    | some n =>
      rw [e] at p2
      have q : Q (.int (n : Int)) H := p2.here o _ (.int _)
      clear p2
      cases x with
      | scr ns =>
        obtain ⟨a, rfl, ha⟩ := rx
        have e : some ns.length = some n := e
        cases e
        exact .inl ⟨a, _, rfl, .inl (sqlMono o.ex ha), by rw [List.length_map]; exact q⟩
      | ref k =>
        obtain ⟨a, h1, rfl⟩ := rx
        have e : (match M[k]? with
          | some (.lst xs) => some xs.length
          | some (.tup xs) => some xs.length
          | some (.dic xs) => some xs.length
          | _ => none) = some n := e
        cases hm : M[k]? with
        | none => rw [hm] at e; cases e
        | some nd =>
          rw [hm] at e
          have hn := o.node k a nd h1 hm
          cases nd with
          | lst xs =>
            obtain ⟨vs, k1, k2⟩ := hn
            cases e
            exact .inl ⟨a, vs, rfl, .inl (SqL.of k1), by rw [Paired.length k2]; exact q⟩
          | tup xs =>
            obtain ⟨vs, k1, k2⟩ := hn
            cases e
            exact .inl ⟨a, vs, rfl, .inr (.inl k1), by rw [Paired.length k2]; exact q⟩
          | dic xs =>
            obtain ⟨vs, k1, k2⟩ := hn
            cases e
            exact .inr (.inr ⟨a, vs, rfl, k1, by rw [Paired.length k2]; exact q⟩)
          | obj _ _ => cases e
          | dead => cases e
      | d x =>
        cases x with
        | list ds =>
          obtain ⟨a, vs, rfl, ha, h1⟩ := RpC.list o.ex rx
          cases e
          exact .inl ⟨a, vs, rfl, .inl (SqL.of ha), by rw [h1.length]; exact q⟩
        | tuple ds =>
          obtain ⟨a, vs, rfl, ha, h1⟩ := RpC.tuple o.ex rx
          cases e
          exact .inl ⟨a, vs, rfl, .inr ha, by rw [h1.length]; exact q⟩
        | dict ds =>
          obtain ⟨a, vs, rfl, ha, h1⟩ := RpC.dict o.ex rx
          cases e
          exact .inr (.inr ⟨a, vs, rfl, ha, by rw [h1.length]; exact q⟩)
        | str z =>
          have e : (if z.length ≤ sizeLine then some z.length else none) = some n := e
          split at e
          · rename_i hz
            cases e
            cases RpC.str rx
            exact .inr (.inl ⟨z, rfl, hz, q⟩)
          · cases e
        | none => cases e
        | bool _ => cases e
        | int _ => cases e

/-! isinstance -/
def rIsaZ (K : PySem.W.Frag) (T : String) (p : PyData → Bool) : List V → Hp → VK → Prop := fun xs H Q => ∃ v d, xs = [v, .ty T] ∧ Rp K H v d ∧ Q (.bl (p d)) H
theorem cb_isa {T : String} {p : PyData → Bool} (h : ∀ (s : Shared) (v : Value) (d : PyData) (as : List Addr) (Q E : Value → Shared → Prop), Reads s.heap v d as → (∀ tk, s.toks ≤ tk → Q (.bool (p d)) { s with toks := tk }) → wpAny (model X.prog X.w) X.A (call (.builtin "isinstance") [v, .type T]) Q E s) :
    CallR X (.builtin "isinstance") (rIsaZ X.K T p) := by
  intro pins s σ H vs us Q I r hq
  obtain ⟨v, d, rfl, rd, q⟩ := hq
  cases r with
  | cons r1 r2 =>
    cases r2 with
    | cons r2 r3 =>
      cases r3
      cases r2
      obtain ⟨as, rs⟩ := Rp.reads I (Same.refl H) d _ _ rd r1
      exact h s _ d as _ _ rs fun tk _ => ⟨.bl _, H, I.tok tk, rfl, q⟩
theorem cb_isT : CallR X (.builtin "isinstance") (rIsaZ X.K "tuple" PyData.isTuple) := cb_isa fun s v d as Q E r h => PySem.W.isinstance_tuple_data r h
theorem cb_isI : CallR X (.builtin "isinstance") (rIsaZ X.K "int" PyData.isInt) := cb_isa fun s v d as Q E r h => PySem.W.isinstance_int_data r h
theorem cb_isB : CallR X (.builtin "isinstance") (rIsaZ X.K "bool" PyData.isBool) := cb_isa fun s v d as Q E r h => PySem.W.isinstance_bool_data r h
def eIsa (p : PyData → Bool) (ma : Sm Val) : Sm Val := e1 (fun d => some (.bool (p d))) ma
theorem ev_isa {T : String} {p : PyData → Bool} (ha : EvW C E ta ma) : EvE C E (tCB (rIsaZ C.K T p) (tCons ta (tCons (tC (.ty T)) tNil))) (eIsa p ma) := fun H0 g M H σ ρ Q o r pp =>
  ha H0 g M H σ ρ _ o r (pp.bind.imp fun x g' M' H' o' st k v rv => by
    unfold lift1 at k
    cases e : load M' x with
    | none => rw [e] at k; exact k.elim
    | some a =>
      rw [e] at k
      exact ⟨v, a, rfl, ((rv.here o').load o' e).rp o'.ex, k.here o' _ (.bl _)⟩)

/-! divmod, tuple(..), list(..) -/
def fDivmod (xs : List Val) (M : Store) : Res Val := match xs with
  | [.d (.int i), .d (.int j)] => if 0 < j ∧ Builtin.divisionGoesByPylong i j = false then .ok (.d (.tuple [.int (i / j), .int (i % j)])) M else .stuck
  | _ => .stuck
theorem fDivmod_at : CbG C E (fun xs H Q => ∃ i j, xs = [.int i, .int j] ∧ CDivP i j ∧ ∀ p, H p = none → Q (.ref p) (upd H p (.tup [.int (i / j), .int (i % j)]))) fDivmod := fun g M H vs xs Q o rx p => by
  unfold fDivmod at p
  split at p
  · split at p
    · rename_i i j hc
      cases rx with
      | cons r1 r2 =>
        cases r2 with
        | cons r2 r3 =>
          cases r3
          cases RpC.int r1
          cases RpC.int r2
          exact ⟨i, j, rfl, hc, fun q hq => p.at (o.newS (o := .tup [.int (i / j), .int (i % j)]) hq) _ (.tup (.weak rfl) (.cons (.int _) (.cons (.int _) .nil)))⟩
    · exact p.elim
  · exact p.elim
def eTupOf (m : Sm Val) : Sm Val := fun ρ M => (m ρ M).bind fun x M1 => match itemsK M1 true x with
  | some xs => mkTup xs M1
  | none => match itemsK M1 false x with
    | some _ => .ok x M1
    | none => .stuck
theorem itemsK_repx {k : Bool} {v : V} {x : Val} {xs : List Val} (o : Ok C g M H) (r : RepX C g H v x) (e : itemsK M k x = some xs) : ∃ a vs, v = .ref a ∧ sqK k C.K H a vs ∧ Reps C g vs xs := by
  cases x with
  | scr ns => cases k <;> cases e
  | d x =>
    cases x with
    | list ds =>
      obtain ⟨a, vs, rfl, ha, h1⟩ := RpC.list o.ex r
      cases k with
      | true => cases e; exact ⟨a, vs, rfl, SqL.of ha, reps_of h1⟩
      | false => cases e
    | tuple ds =>
      obtain ⟨a, vs, rfl, ha, h1⟩ := RpC.tuple o.ex r
      cases k with
      | true => cases e
      | false => cases e; exact ⟨a, vs, rfl, ha, reps_of h1⟩
    | _ => cases k <;> cases e
  | ref n =>
    obtain ⟨a, h1, rfl⟩ := r
    obtain ⟨vs, q1, q2⟩ := itemsK_rep (x := .ref n) o ⟨a, h1, rfl⟩ e
    exact ⟨a, vs, rfl, q1, q2⟩
/-- tuple(x): a new tuple, its object known; of a tuple: itself -/
def kTupS (K : PySem.W.Frag) (x : V) (H : Hp) (Q : VK) : Prop := (∃ a xs, x = .ref a ∧ SqL K H a xs ∧ NewT H xs Q) ∨ ∃ a xs, x = .ref a ∧ SqT K H a xs ∧ Q (.ref a) H
theorem pe_tupleOfS {X : Cx} {e : Expr} {te : TE} {p1 p2 : Pos} (hg : Gl X "tuple") (hm : X.mg "tuple" = none) (he : PE X e te) (na : starEach [e] X.env = (false, eval e X.env) :: starEach [] X.env := by rfl) :
    PE X (.Call (.Name "tuple" p1) [e] [] p2) (tThen te (kTupS X.K)) := by
  constructor
  intro pins s σ H Q I h
  refine Call_ (ld_blt I hg hm boot_tuple (PyProof.Rows.callWith_type1 (one_arg he I h ?_ na) na))
  rintro v s2 x H2 I2 r (⟨a, xs, rfl, hl, q⟩ | ⟨a, xs, rfl, ht, q⟩)
  · obtain rfl : v = .ref a := r
    obtain ⟨is, rv, pl, hz⟩ := I2.list hl
    refine call_tuple_list pl.isList (fun h' hk => newT_go (s := { s2 with heap := h' }) (I2.kept (t' := s2.toks) hk) rv hz q) ?_
    rw [List.size_toArray, ← rv.length]; exact hz
  · obtain rfl : v = .ref a := r
    obtain ⟨is, -, pl, -⟩ := I2.tuple ht
    exact call_tuple_tup pl ⟨.ref a, H2, I2, rfl, q⟩
theorem ev_tupOf (h : EvW C E te m) : EvE C E (tThen te (kTupS C.K)) (eTupOf m) := fun H0 g M H σ ρ Q o r p =>
  h H0 g M H σ ρ _ o r (p.bind.imp fun x g' M' H' o' st k v rv => by
    cases e : itemsK M' true x with
    | some xs =>
      simp only [e] at k
      obtain ⟨a, vs, rfl, h1, h2⟩ := itemsK_repx o' (rv.here o') e
      refine .inl ⟨a, vs, rfl, h1, fun q ob hq hd => ?_⟩
      unfold mkTup at k
      cases e : pures xs with
      | some ds =>
        rw [e] at k
        refine k.at (o'.newS (o := .frz ob (.tup vs)) hq) _ (.tup (.new hd) (RpAll.mono (same_new (o'.free hq).1) _ _ (repAll_of h2 e)))
      | none =>
        rw [e] at k
        exact k.at (o'.newM (o := .frz ob (.tup vs)) (nd := .tup xs) hq fun g2 up _ => ⟨vs, .inr ⟨ob, upd_same⟩, Paired.mapP h2 up⟩) _ (rep_new o')
    | none =>
      simp only [e] at k
      cases e2 : itemsK M' false x with
      | none => rw [e2] at k; exact k.elim
      | some xs =>
        rw [e2] at k
        obtain ⟨a, vs, rfl, h1, h2⟩ := itemsK_repx o' (rv.here o') e2
        refine .inr ⟨a, vs, rfl, h1, k.here o' _ ?_⟩
        have rr := rv.here o'
        cases x with
        | scr ns => exact rr
        | ref n => exact rr
        | d x =>
          cases x with
          | tuple ds => exact RpC.tupS rr
          | _ => cases e2)
/-- list(xs): new, nothing else holds it -/
def lListOf (m : Sm Val) : Sm (List Val) := fun ρ M => (m ρ M).bind fun x M1 => match itemsK M1 true x with
  | some xs => .ok xs M1
  | none => match itemsK M1 false x with
    | some xs => .ok xs M1
    | none => .stuck
/-- list(range(n)) -/
def rgD (n : Int) : List Val := (List.range n.toNat).map fun i : Nat => Val.d (.int (i : Int))
def lRange (m : Sm Val) : Sm (List Val) := fun ρ M => (m ρ M).bind fun x M1 => match x with
  | .d (.int n) => if 0 ≤ n ∧ n ≤ 100000 then .ok (rgD n) M1 else .stuck
  | _ => .stuck
end
end Z

/-! Z, part 11: sorted, min, max; writes to lists by reference; methods. -/
namespace Z
open PySem PySem.Spec PyProof.Rows L2

section
variable {X : Cx} {C : Ctx} {E : XK} {g g' : G} {H H' H0 : Hp} {M M' : Store}
variable {ta tb tc te : TE} {ma mb mc m : Sm Val} {tA : TA} {mA : Sm (List Val)}
def tupNe : PyData → Bool
  | .tuple (_ :: _) => true
  | _ => false
def okSort (ds : List PyData) : Bool := (ds.all fun d => ds.all fun e => PySem.W.alike d e) && (ds.all tupNe || ds.all fun d => !isNone d && !d.isTuple) && decide (PyData.depthAll ds ≤ 90) && decide (ds.length ≤ 100000)
def leD (a b : PyData) : Bool := !PySem.W.dataLt b a
def sortD (ds : List PyData) : List PyData := ds.mergeSort leD
def lSort (m : Sm Val) : Sm (List Val) := fun ρ M => (m ρ M).bind fun x M1 => match load M1 x with
  | some (.list ds) => if okSort ds = true then .ok ((sortD ds).map Val.d) M1 else .stuck
  | _ => .stuck
/-! o[i] = v by reference -/
def gSubM (mo mi : Sm Val) : Tg := fun x ρ M => (mo ρ M).bind fun y M1 => (mi ρ M1).bind fun j M2 => match y, j with
  | .ref n, .d (.int i) => match M2[n]? with
    | some (.lst xs) => match ixN xs.length i with
      | some k => .ok ρ (M2.set n (.lst (xs.set k x)))
      | none => .stuck
    | _ => .stuck
  | _, _ => .stuck
theorem reps_set {vs : List V} {xs : List Val} {v : V} {x : Val} (k : Nat) (h : Reps C g vs xs) (r : Rep C g v x) : Reps C g (vs.set k v) (xs.set k x) := by
  induction h generalizing k with
  | nil => exact .nil
  | cons h1 h2 ih =>
    cases k with
    | zero => exact .cons r h2
    | succ k => exact .cons h1 (ih k)
theorem PostG.bind {α : Type} {g0 : G} {r : Res α} {f : α → Store → Res Rho} {Q : L2.St → Hp → Prop} (s : Step g0 H0 g H) (h : PostG C E H0 g0 g (r.bind f) Q) : Post C E g H r fun x g' M' H' => PostG C E H0 g0 g' (f x M') Q := by
  cases r with
  | ok x M => exact fun g' H' o st => h.le st.le
  | exn c M => exact fun g' H' A o st e => h g' H' A o (s.trans st) e
  | stuck => exact h
theorem eg_sub (ho : EvE C E ta ma) (hi : EvE C E tb mb) : EvG C E (gSub ta tb rSetL) (gSubM ma mb) := fun H0 g0 g M H σ ρ v x Q o s r rv p =>
  ho H0 g M H σ ρ _ o r ((PostG.bind s p).imp fun y g1 M1 H1 o1 s1 k1 w rw => hi H0 g1 M1 H1 σ ρ _ o1 (r.step s1) ((PostG.bind (s.trans s1) k1).imp fun j g2 M2 H2 o2 s2 k2 z rz => by
    cases y with
    | d y => exact k2.elim
    | scr y => exact k2.elim
    | ref n =>
      cases j with
      | ref _ => exact k2.elim
      | scr _ => exact k2.elim
      | d j =>
        cases j with
        | int i =>
          have k2 : PostG C E H0 g0 g2 (match M2[n]? with
            | some (.lst xs) => match ixN xs.length i with
              | some k => Res.ok ρ (M2.set n (.lst (xs.set k x)))
              | none => .stuck
            | _ => .stuck) Q := k2
          cases hm : M2[n]? with
          | none => rw [hm] at k2; exact k2.elim
          | some nd =>
            rw [hm] at k2
            cases nd with
            | lst xs =>
              simp only at k2
              cases hk : ixN xs.length i with
              | none => rw [hk] at k2; exact k2.elim
              | some k =>
                rw [hk] at k2
                obtain ⟨a, ha, rfl⟩ := rw.step s2
                obtain ⟨vs, e1, e2⟩ := o2.node n a _ ha hm
                have w := o2.setM (o := .lst (vs.set k v)) (nd := .lst (xs.set k x)) ha (.inl ⟨vs, e1⟩) ⟨vs.set k v, upd_same, reps_set k e2 (((rv.step s1).step s2))⟩
                refine ⟨a, vs, i, k, rfl, rint rz, e1, by rw [Paired.length e2]; exact hk, ?_⟩
                exact k2 g2 _ σ w.1 ((s.trans s1).trans s2 |>.trans w.2) (Gle.refl _) (((r.step s1).step s2).step w.2)
            | _ => exact k2.elim
        | _ => exact k2.elim))
end
end Z

/-! Z, part 12: defs, calls of them, raise. -/
namespace Z
open PySem PySem.Spec PyProof.Rows L2

def spZ (C : Ctx) (n : Nat) (mf : List Val → Store → Res Val) : Sp := fun vs H Q E => vs.length = n ∧ ∃ (g : G) (M : Store) (xs : List Val), Ok C g M H ∧ Reps C g vs xs ∧ Post C E g H (mf xs M) (fun y g' _ H' => ∀ v, Rep C g' v y → Q v H')
def startR (N : Nat) (xs : List Val) : Rho := xs.map (fun x => some (Slot.sh x)) ++ List.replicate (N - xs.length) none
def outM (f : Fl) (M : Store) : Res Val := match f with
  | .rt x => .ok x M
  | .nx _ => .ok (.d .none) M
  | _ => .stuck
def fnM (n N : Nat) (b : Sm Fl) : List Val → Store → Res Val := fun xs M => if xs.length = n then (b (startR N xs) M).bind outM else .stuck
section
variable {C : Ctx} {E : XK} {g g' : G} {H H' H0 : Hp} {M M' : Store}
theorem start_ok {N : List Str} {vs : List V} {xs : List Val} (h : Reps C g vs xs) : RSt C H0 g H (L2.start N vs) (startR N.length xs) := by
  have hl := Paired.length h
  have key : ∀ (i : Nat) (sl : Slot), (startR N.length xs)[i]? = some (some sl) → ∃ x, xs[i]? = some x ∧ sl = .sh x := fun i sl e => by
    unfold startR at e
    by_cases hi : i < xs.length
    · rw [List.getElem?_append_left (by simpa using hi), List.getElem?_map, List.getElem?_eq_getElem hi] at e
      simp only [Option.map_some] at e
      exact ⟨_, List.getElem?_eq_getElem hi, (Option.some.inj (Option.some.inj e)).symm⟩
    · rw [List.getElem?_append_right (by simpa using hi), List.getElem?_replicate] at e
      split at e <;> cases e
  refine ⟨by simp [L2.start, startR, hl], fun i x e => ?_, fun i x e => ?_, fun i x e => ?_, fun i j a hij o1 o2 => ?_⟩
  · obtain ⟨y, hy, z⟩ := key i _ e
    cases z
    obtain ⟨v, hv, r⟩ := reps_getX h hy
    refine ⟨v, ?_, r⟩
    have := (List.getElem?_eq_some_iff.mp hv).1
    unfold L2.start
    rw [List.getElem?_append_left (by simpa using this), List.getElem?_map, hv]; rfl
  · obtain ⟨y, hy, z⟩ := key i _ e; cases z
  · obtain ⟨y, hy, z⟩ := key i _ e; cases z
  · exfalso
    cases e : (startR N.length xs)[i]? with
    | none => rw [e] at o1; exact o1
    | some s =>
      cases s with
      | none => rw [e] at o1; exact o1
      | some s =>
        obtain ⟨y, hy, rfl⟩ := key i _ e
        rw [e] at o1; exact o1
end
section
variable {P : Program} {w : World} {K : PySem.W.Frag} {mg : Str → Option Value} {base : Heap} {T : List (Addr × Str)}
theorem fnZC {x qual : Str} {st : Stmt} {f : Addr} {fd : FuncData} {N ps : List Str} {k : Nat} {b : Sm Fl} (F : Fun K x qual st f fd) (S : FnScope N ps (defScope st))
    (body : ∀ (cd : Value) (A : Around) (out : List Env) (s : Shared) (H : Hp) (E : XK), fd.code = cd → A.guards = some [] → Room k (A.deeper (envOfC qual (defScope st) s.heap.objs.size f cd)) →
      ∃ t, PSs (cxOf (L2N.CX P w) P w K mg base N qual (defScope st) f cd A out s H E) (defBody st) t ∧ EvS ⟨K, mg, T⟩ E t b) :
    FnG P w K mg base (k + 1) f fd ps (spZ ⟨K, mg, T⟩ ps.length (fnM ps.length N.length b)) := by
  refine fnG_ofC F S (fun vs H Q E h => h.1) fun cd A out s H vs Q E hcd hg hr hp => ?_
  obtain ⟨t, h1, h2⟩ := body cd A out s H E hcd hg hr
  obtain ⟨hl, g, M, xs, o, r, p⟩ := hp
  refine ⟨t, h1, h2 H g g M H _ _ _ o (Step.refl _ _) (start_ok r) ?_⟩
  have hx : xs.length = ps.length := by rw [← Paired.length r]; exact hl
  unfold fnM at p
  rw [if_pos hx] at p
  cases e : b (startR N.length xs) M with
  | stuck => rw [e] at p; exact p.elim
  | exn c M1 => rw [e] at p; exact fun g' H' A o' s' he => p g' H' A o' s' he
  | ok fl M1 =>
    rw [e] at p
    cases fl with
    | nx ρ1 => exact fun g' H' σ' o' s' l r' => p g' H' o' s' .non .non
    | rt y => exact fun g' H' v o' s' l r' => p g' H' o' s' v r'
    | bk ρ1 => exact p.elim
    | ct ρ1 => exact p.elim
theorem fnZ {x qual : Str} {st : Stmt} {f : Addr} {fd : FuncData} {N ps : List Str} {k : Nat} {b : Sm Fl} (F : Fun K x qual st f fd) (S : FnScope N ps (defScope st))
    (body : ∀ (cd : Value) (A : Around) (out : List Env) (s : Shared) (H : Hp) (E : XK), A.guards = some [] → Room k (A.deeper (envOfC qual (defScope st) s.heap.objs.size f cd)) →
      ∃ t, PSs (cxOf (L2N.CX P w) P w K mg base N qual (defScope st) f cd A out s H E) (defBody st) t ∧ EvS ⟨K, mg, T⟩ E t b) :
    FnG P w K mg base (k + 1) f fd ps (spZ ⟨K, mg, T⟩ ps.length (fnM ps.length N.length b)) :=
  fnZC F S fun cd A out s H E _ hg hr => body cd A out s H E hg hr
/-- a def that may be called by its name -/
structure FZ (P : Program) (w : World) (K : PySem.W.Frag) (mg : Str → Option Value) (base : Heap) (T : List (Addr × Str)) (k : Nat) (x : Str) (n : Nat) (mf : List Val → Store → Res Val) : Prop where
  ex : ∃ (f : Addr) (fd : FuncData) (ps : List Str), mg x = some (.ref f) ∧ PySem.W.keepIn K (.ref f) = true ∧ Binds K fd ps [] ∧ FnG P w K mg base k f fd ps (spZ ⟨K, mg, T⟩ n mf)
end
section
variable {X : Cx} {T : List (Addr × Str)} {k n : Nat} {mf : List Val → Store → Res Val} {E : XK} {x : Str} {p pos : Pos} {e : Expr} {es : List Expr} {t : TA}
theorem zp_call {j : Nat} (F : FZ X.prog X.w X.K X.mg X.base T k x n mf) (hgd : X.A.guards = some []) (hr : Room j X.A) (hj : k ≤ j) (hg : Gl X x) (hx : Ps X E) (ha : PA X (e :: es) t) (hdb : (x == ("__debug__" : Str)) = false := by decide)
    (he : starEach (e :: es) X.env = (false, eval e X.env) :: starEach es X.env := by rfl) (hpl : (backTo pos (starEach es X.env)).any (·.1) = false := by rfl) : PE X (.Call (.Name x p) (e :: es) [] pos) (tCall (spZ ⟨X.K, X.mg, T⟩ n mf) [] E t) := by
  obtain ⟨f, fd, ps, h1, h2, h3, h4⟩ := F.ex
  exact pe_callG h4 hgd (hr.mono hj) hg h1 h2 h3 hx ha hdb he hpl
theorem ps_no : Ps X (fun _ _ _ => False) := fun pins σ H s ex s' I ⟨_, _, _, _, _, _, _, _, _, _, _, _, h⟩ => h.elim
end
section
variable {C : Ctx} {E : XK} {tA : TA} {mA : Sm (List Val)} {n : Nat} {mf : List Val → Store → Res Val}
def eCall (n : Nat) (mf : List Val → Store → Res Val) (mA : Sm (List Val)) : Sm Val := fun ρ M => (mA ρ M).bind fun xs M1 => if xs.length = n then mf xs M1 else .stuck
theorem ev_call (ha : EvA C E tA mA) : EvE C E (tCall (spZ C n mf) [] E tA) (eCall n mf mA) := fun H0 g M H σ ρ Q o r p =>
  ha H0 g M H σ ρ _ o r (p.bind.imp fun xs g' M' H' o' st k vs rs => by
    by_cases hl : xs.length = n
    · simp only [if_pos hl] at k
      refine ⟨?_, g', M', xs, o', by simpa using rs, ?_⟩
      · rw [List.append_nil, Paired.length rs]; exact hl
      · cases e : mf xs M' with
        | stuck => rw [e] at k; exact k.elim
        | exn c M1 => rw [e] at k; exact k
        | ok y M1 => rw [e] at k; exact k
    · simp only [if_neg hl] at k; exact k.elim)
/-! raise -/
def tRz (mg : Str → Option Value) (c : Str) (E : XK) : TS := fun D σ H => ∃ A, mg c = some (.ref A) ∧ E (.ref A) none H
def sRaise (c : Str) : Sm Fl := fun ρ M => .exn c M
theorem es_raise {c : Str} {A : Addr} (h : C.mg c = some (.ref A)) : EvS C E (tRz C.mg c E) (sRaise c) := fun H0 g0 g M H σ ρ D o s r p => ⟨A, h, p g H A o s h⟩
end
/-- an exception's class of one's own -/
structure XZ (K : PySem.W.Frag) (mg : Str → Option Value) (c : Str) : Prop where
  ex : ∃ A, mg c = some (.ref A) ∧ PySem.W.excIn K A [.type "ValueError", .type "Exception", .type "BaseException", .type "object"] "ValueError.__new__" = true ∧ PySem.W.keepIn K (.ref A) = true ∧ PySem.W.subIn K (.ref A) (.type "BaseException") = some true ∧ PySem.W.typeIn K (.ref A) = some (.type "type")
theorem zs_raise {X : Cx} {E : XK} {c m : Str} {j : Nat} {p p2 pos pos2 : Pos} (h : XZ X.K X.mg c) (hc : X.calm = true) (tk : L2N.Takes X (fun cls d _ H => E cls d H)) (hg : Gl X c) (hdb : (c == ("__debug__" : Str)) = false := by decide) :
    PS X (.Raise (some (.Call (.Name c p) [.Constant (.str m) j p2] [] pos)) none pos2) (tRz X.mg c E) := by
  obtain ⟨A, h1, h2, h3, h4, h5⟩ := h.ex
  have base := L2N.ps_raise (X := X) (W := fun cls d _ H => E cls d H) (pos := pos2) hc tk (L2N.pmk_own (m := m) (j := j) (p := p) (p2 := p2) (pos := pos) PySem.F.excBase_ValueError h2 h1 h3 (raises_own h4 h5) hg hdb)
  refine ⟨fun pins s σ H D I hw => base.run pins s σ H D I ?_⟩
  obtain ⟨B, h6, h7⟩ := hw
  rw [h1] at h6
  cases h6
  exact h7
end Z

/-! Z, part 13: the law's own call, guards known; the end of a law. -/
namespace Z
open PySem PySem.Spec PyProof.Rows L2

/-- what is tracked at the law's call: the tables, and the script where it is not written -/
def topH (tb : List Addr) (a : Addr) (free : Bool) (oa : Obj) (xs : List V) : Hp := fun b => if b ∈ tb then some (.tbl #[]) else if b = a ∧ free = true then some (.frz oa (.lst xs)) else none
theorem topH_some {tb : List Addr} {a : Addr} {free : Bool} {oa : Obj} {xs : List V} {b : Addr} {u : HO} (h : topH tb a free oa xs b = some u) : (b ∈ tb ∧ u = .tbl #[]) ∨ (b ∉ tb ∧ b = a ∧ free = true ∧ u = .frz oa (.lst xs)) := by
  unfold topH at h
  by_cases h1 : b ∈ tb
  · rw [if_pos h1] at h; cases h; exact .inl ⟨h1, rfl⟩
  · rw [if_neg h1] at h
    by_cases h2 : b = a ∧ free = true
    · rw [if_pos h2] at h; cases h; exact .inr ⟨h1, h2.1, h2.2, rfl⟩
    · rw [if_neg h2] at h; cases h
structure Top (P : Program) (w : World) (K : PySem.W.Frag) (mg : Str → Option Value) (base : Heap) (cs : List (Addr × Addr)) (t : Shared) (a : Addr) (ns : List Int) (H : Hp) : Prop where
  env : Env0 P w K mg base callerA [] t H
  kin : K.In base
  glo : base.Ns mainGlobals mg
  tab : ∀ p ∈ cs, LamX.TabB base mg p.1 p.2
  tb : ∀ p ∈ cs, H p.2 = some (.tbl #[])
  scr : SqL K H a (ns.map V.int)
  sm : ∃ o, base.get? sysModules = some o
  na : ∀ ps, H a ≠ some (.tbl ps)
theorem law_callG {P : Program} {w : World} {K : PySem.W.Frag} {mg mb : Str → Option Value} {fa a : Addr} {cs : List (Addr × Addr)} {k : Nat} {sp : Sp} {t : Shared} {its : List Value} {ns : List Int}
    (kx : K.In t.heap) (g1 : t.heap.Ns mainGlobals mg) (g2 : t.heap.Ns builtinsNs mb) (g3 : ∀ y : Str, y ≠ "__name__" → mb y = bootBuiltins y) (g4 : t.heap.NoLimit) (g5 : t.gens = #[])
    (c1 : ∀ p ∈ cs, t.heap.get? p.2 = some { cls := .none, data := .fields #[] }) (c2 : ∀ p ∈ cs, K.lookup p.2 = none) (c3 : ∀ p ∈ cs, PySem.W.CodeHd t.heap p.1 p.2)
    (bmod : ∃ (m : Addr) (o : Obj), mg "__builtins__" = some (.ref m) ∧ m ≠ builtinsNs ∧ t.heap.get? m = some o ∧ o.cls = .type "module" ∧ o.dict = some builtinsNs ∧ o.data = .plain)
    (hsm : ∃ mm, t.heap.Ns sysModules mm) (oa : t.heap.get? a = some { cls := .type "list", data := .seq its.toArray }) (ri : IntsAre its ns) (rl : ns.length ≤ sizeLine) (room : Room k callerA)
    (F : ∀ (base : Heap) (H : Hp), Top P w K mg base cs t a ns H → (∃ (fd : FuncData) (ps : List Str), Binds K fd ps [] ∧ FnG P w K mg base k fa fd ps sp) ∧ sp [.ref a] H (fun v _ => v = .bl true) fun _ _ _ => False) :
    codeAny (model P w) callerA (.call (.ref fa) ⟨[.ref a], []⟩) (fun r u => r = .ok (.ret (.bool true)) ∧ OldK t.heap u.heap ∧ u.os = t.os ∧ AllBare u.gens) t := by
  have vals := vals_ints ri
  let tb := cs.map (·.2)
  have onTab : ∀ {b : Addr}, b ∈ tb → t.heap.get? b = some { cls := .none, data := .fields #[] } ∧ K.lookup b = none := fun {b} hb => by
    obtain ⟨p, hp, rfl⟩ := List.mem_map.mp hb
    exact ⟨c1 p hp, c2 p hp⟩
  have aOff : a ∉ tb := fun z => by
    have := (onTab z).1
    rw [oa] at this
    simp at this
  obtain ⟨fr, hfr⟩ : ∃ fr : Bool, fr = (K.lookup a).isNone := ⟨_, rfl⟩
  let H : Hp := topH tb a fr { cls := .type "list", data := .seq its.toArray } (ns.map V.int)
  -- a tracked place holds a table or the script
  have what : ∀ {b : Addr} {u : HO}, H b = some u → (t.heap.get? b = some { cls := .none, data := .fields #[] } ∧ K.lookup b = none) ∨ (t.heap.get? b = some { cls := .type "list", data := .seq its.toArray } ∧ K.lookup b = none) := fun {b u} e => by
    rcases topH_some e with ⟨h, _⟩ | ⟨_, rfl, h, _⟩
    · exact .inl (onTab h)
    · refine .inr ⟨oa, ?_⟩
      cases q : K.lookup b with
      | none => rfl
      | some o => rw [hfr, q] at h; cases h
  have free : ∀ {b : Addr} {o : Obj}, t.heap.get? b = some o → o.data ≠ .fields #[] → o.data ≠ .seq its.toArray → H b = none := fun {b o} e n1 n2 => by
    cases q : H b with
    | none => rfl
    | some u =>
      rcases what q with ⟨e', _⟩ | ⟨e', _⟩
      · rw [e] at e'; cases e'; exact (n1 rfl).elim
      · rw [e] at e'; cases e'; exact (n2 rfl).elim
  let base := hidT t.heap H
  have low : ∀ {b : Addr} {o : Obj}, t.heap.get? b = some o → H b = none → base.get? b = some o := fun e n => hidT_get e n
  have nsLow : ∀ {b : Addr} {m : Str → Option Value}, t.heap.Ns b m → base.Ns b m := fun {b m} ⟨o, es, ep, e, d, r⟩ =>
    ⟨o, es, ep, low e (free e (fun z => by rw [d] at z; cases z) fun z => by rw [d] at z; cases z), d, r⟩
  have kBase : K.In base := fun b o e => low (kx b o e) (by
    cases q : H b with
    | none => rfl
    | some u =>
      rcases what q with ⟨_, z⟩ | ⟨_, z⟩ <;> rw [z] at e <;> cases e)
  have md : L2.Mod K mg base := by
    obtain ⟨mc, q1, q2⟩ := g4
    exact ⟨kBase, nsLow g1, ⟨mb, nsLow g2, g3⟩, ⟨mc, nsLow q1, q2⟩⟩
  have tabs : ∀ p ∈ cs, LamX.TabB base mg p.1 p.2 := fun p hp => by
    constructor
    · obtain ⟨o, us, file, tf, flags, tg, inF, text, tt, e1, r1, r2, r⟩ := c3 p hp
      refine ⟨o, us, file, tf, flags, tg, inF, text, tt, low e1 (free e1 (fun z => ?_) fun z => ?_), r1, r2, r⟩
      · rw [r2] at z; cases z; have r3 := r.1; simp at r3
      · rw [r2] at z; cases z
    · obtain ⟨m, o, q1, q2, q3, q4, q5, q6⟩ := bmod
      refine ⟨m, o, q1, q2, fun z => ?_, fun z => ?_, low q3 (free q3 (fun z => by rw [q6] at z; cases z) fun z => by rw [q6] at z; cases z), q4, q5, q6⟩
      · obtain ⟨o', es, ep, e', d', _⟩ := g1
        rw [z, e'] at q3; cases q3; rw [d'] at q6; cases q6
      · rw [z, c1 p hp] at q3; cases q3; cases q6
    · intro z
      obtain ⟨o', es, ep, e', d', _⟩ := g1
      rw [z, c1 p hp] at e'; cases e'; cases d'
  have ok : HOk P w H t.heap := fun b u e => by
    rcases topH_some e with ⟨h, rfl⟩ | ⟨_, rfl, _, rfl⟩
    · exact (onTab h).1
    · exact ⟨oa, by rw [List.length_map]; exact rl, its, _, vals, oa⟩
  have isTop : Top P w K mg base cs t a ns H := by
    refine ⟨⟨rfl, md, fun b o e => of_hidT e, Nat.le_of_eq (hidT_size _ _), trivial, fun b hb => (nomatch hb), ok, .of_eq g5⟩, kBase, nsLow g1, tabs, fun p hp => if_pos (List.mem_map.mpr ⟨p, hp, rfl⟩), ?_, ?_, fun ps z => ?_⟩
    rotate_left
    · obtain ⟨mm, hm⟩ := hsm
      obtain ⟨o, es, ep, e, _⟩ := nsLow hm
      exact ⟨o, e⟩
    · rcases topH_some z with ⟨h, _⟩ | ⟨_, _, _, h⟩
      · exact aOff h
      · cases h
    cases q : K.lookup a with
    | none =>
      have : fr = true := by rw [hfr, q]; rfl
      exact .inl (.inr ⟨_, (if_neg aOff).trans (if_pos ⟨rfl, this⟩)⟩)
    | some o =>
      have e := kx a o q
      rw [oa] at e
      cases e
      refine .inr ⟨_, its.toArray, _, q, rfl, rfl, rfl, by rw [List.size_toArray, ri.length]; exact rl, by simpa using vals⟩
  obtain ⟨⟨fd, ps, hb, FG⟩, hs⟩ := F base H isTop
  have bd := hb t [.ref a] kx (by simpa using FG.len _ _ _ _ hs)
  rw [List.append_nil] at bd
  refine codeAny_mono (FG.go callerA [] t H ⟨[.ref a], []⟩ [.ref a] [.ref a] _ _ rfl room isTop.env bd (.cons rfl .nil) hs) fun r u h => ?_
  match r, h with
  | .error e, h =>
    obtain ⟨_, _, _, _, _, _, _, _, _, _, _, _, z⟩ := (h : L2N.CX P w [] H t (fun _ _ _ => False) e u)
    exact z.elim
  | .ok .next, h => exact False.elim h
  | .ok .brk, h => exact False.elim h
  | .ok .cont, h => exact False.elim h
  | .ok (.ret v), h =>
    obtain ⟨y, H', h1, h2, un, ok', rel, ey⟩ := (h : L2.CE [] P w H t _ v u)
    have ey : y = .bl true := ey
    subst ey
    obtain rfl : v = Value.bool true := rel
    -- every place but a table's is as it was; a table has grown
    have same : ∀ b o, b ∉ tb → t.heap.get? b = some o → u.heap.get? b = some o := fun b o nb e => by
      cases q : H b with
      | none => exact un.keep b o e q (fun z => nomatch z) (fun z => nomatch z)
      | some z =>
        rcases topH_some q with ⟨h, _⟩ | ⟨_, rfl, _, rfl⟩
        · exact absurd h nb
        · have e2 := (ok' b _ (un.frzs b _ _ q)).1
          have e1 := (ok b _ q).1
          rw [e] at e1; cases e1; exact e2
    have more : ∀ b, b ∈ tb → ∃ z : Array Value, u.heap.get? b = some { cls := .none, data := .fields z } := fun b hb => by
      obtain ⟨p, hp, rfl⟩ := List.mem_map.mp hb
      obtain ⟨z, hz⟩ := un.tbls p.2 #[] (isTop.tb p hp)
      exact ⟨_, ok' p.2 _ hz⟩
    refine ⟨rfl, ⟨fun b o e => ?_, fun b o e => ?_⟩, h1, h2⟩
    · by_cases hb : b ∈ tb
      · obtain ⟨z, hz⟩ := more b hb
        rw [(onTab hb).1] at e
        cases e
        obtain ⟨p, hp, rfl⟩ := List.mem_map.mp hb
        exact .inr (.inl ⟨((c3 p hp).tab (c1 p hp)).isCodeTable, rfl, #[], z, rfl, by rw [Array.empty_append]; exact hz⟩)
      · exact .inl (same b o hb e)
    · by_cases hb : b ∈ tb
      · obtain ⟨z, hz⟩ := more b hb
        exact ⟨_, hz⟩
      · exact ⟨o, same b o hb e⟩
end Z

/-! Z, part 14: short names for what the printer prints. -/
namespace Z
open PySem PySem.Spec PyProof.Rows L2

section
variable {C : Ctx} {E : XK} {te : TE} {tA : TA} {mA : Sm (List Val)} {m : Sm Val}
def eTup (mA : Sm (List Val)) : Sm Val := fun ρ M => ((mA ρ M).bind sz).bind mkTup
def lLst (mA : Sm (List Val)) : Sm (List Val) := fun ρ M => (mA ρ M).bind sz
theorem el_lstE (h : EvA C E tA mA) : EvL C E (tLst tA) (lLst mA) := el_lst h
def eFrz (m : Sm (List Val)) : Sm Val := fun ρ M => (m ρ M).bind frz
theorem ev_frzE {m : Sm (List Val)} (h : EvL C E te m) : EvE C E te (eFrz m) := h.frz
def eLay (m : Sm (List Val)) : Sm Val := fun ρ M => (m ρ M).bind lay
theorem ev_layE {m : Sm (List Val)} (h : EvL C E te m) : EvE C E te (eLay m) := h.lay
def eCG (f : List Val → Store → Res Val) (mA : Sm (List Val)) : Sm Val := fun ρ M => (mA ρ M).bind f
theorem ev_CG {r : List V → Hp → VK → Prop} {f : List Val → Store → Res Val} (op : CbG C E r f) (ha : EvAW C E tA mA) : EvE C E (tCB r tA) (eCG f mA) := ev_cbG op ha
def okOnly {α : Type} (r : Res α) : Res α := match r with
  | .ok a M => .ok a M
  | _ => .stuck
def eLc (mi : Sm Src) (tg : Tg) (tt : Sm Bool) (me : Sm Val) (vs : List Nat) : Sm (List Val) := fun ρ M => (mi ρ M).bind fun src M1 => okOnly (lcM src tg tt me (wipeR ρ vs) (src.len M1) 0 [] M1)
abbrev E0 : XK := fun _ _ _ => False
abbrev StoreK (mg : Tg) : Prop := ∀ x ρ M ρ' M', mg x ρ M = .ok ρ' M' → M' = M
theorem el_lcE {wi : TI} {tg : TG} {tt : TT} {vs ts : List Nat} {mi : Sm Src} {mg : Tg} {mt : Sm Bool} {me : Sm Val} (hi : EvI C E wi mi) (hg : EvG0 C tg ts mg) (hts : ∀ i ∈ ts, i ∈ vs) (store : StoreK mg)
    (ht : EvT C E0 tt mt) (he : EvE C E0 te me) : EvL C E (tLc wi tg tt te vs) (eLc mi mg mt me vs) := by
  have h := el_lc (E := E) hi hg hts store ht he
  refine Eq.mp (congrArg (EvL C E (tLc wi tg tt te vs)) ?_) h
  funext ρ M
  unfold eLc
  congr 1
  funext src M1
  cases lcM src mg mt me (wipeR ρ vs) (src.len M1) 0 [] M1 <;> rfl
def tYesM : Sm Bool := fun _ M => .ok true M
theorem et_yes : EvT C E tYes tYesM := fun H0 g M H σ ρ Q o r p => p.here o
theorem sk_name {i : Nat} : StoreK (gN i) := fun x ρ M ρ' M' e => by cases e; rfl
abbrev StoreKs (ms : List Val → Rho → Store → Res Rho) : Prop := ∀ x ρ M ρ' M', ms x ρ M = .ok ρ' M' → M' = M
theorem sk_nil : StoreKs gNilM := fun x ρ M ρ' M' e => by
  unfold gNilM at e
  split at e <;> cases e; rfl
theorem sk_cons {m : Tg} {ms : List Val → Rho → Store → Res Rho} (h : StoreK m) (hs : StoreKs ms) : StoreKs (gConsM m ms) := fun x ρ M ρ' M' e => by
  cases x with
  | nil => cases e
  | cons x r =>
    have e : ((m x ρ M).bind fun ρ1 M1 => ms r ρ1 M1) = .ok ρ' M' := e
    cases q : m x ρ M with
    | stuck => rw [q] at e; cases e
    | exn c M1 => rw [q] at e; cases e
    | ok ρ1 M1 =>
      rw [q] at e
      rw [hs _ _ _ _ _ e, h _ _ _ _ _ q]
theorem sk_tup {n : Nat} {ms : List Val → Rho → Store → Res Rho} (hs : StoreKs ms) : StoreK (gTupM n ms) := fun x ρ M ρ' M' e => by
  unfold gTupM at e
  split at e
  · split at e
    · exact hs _ _ _ _ _ e
    · cases e
  · cases e
end
section
variable {P : Program} {w : World} {K : PySem.W.Frag} {mg : Str → Option Value} {base : Heap} {N : List Str} {qual : Str} {sc : Scope} {f : Addr} {cd : Value} {A : Around} {out : List Env} {s : Shared} {H : Hp} {E : XK}
theorem tk_cx : L2N.Takes (cxOf (L2N.CX P w) P w K mg base N qual sc f cd A out s H E) (fun c d _ H => E c d H) := L2N.takes_of rfl rfl rfl rfl
theorem ps_cx : Ps (cxOf (L2N.CX P w) P w K mg base N qual sc f cd A out s H E) E := L2N.passes_call tk_cx fun _ _ _ _ h => h
theorem po_cx : PassesOwn (model P w) (cxOf (L2N.CX P w) P w K mg base N qual sc f cd A out s H E).A (cxOf (L2N.CX P w) P w K mg base N qual sc f cd A out s H E).env (cxOf (L2N.CX P w) P w K mg base N qual sc f cd A out s H E).xe := passes_of rfl
end
/-- what is known of a def that stands at the top -/
structure DefK (K : PySem.W.Frag) (mg : Str → Option Value) (x : Str) (st : Stmt) (ps : List Str) : Prop where
  ex : ∃ (f : Addr) (fd : FuncData), mg x = some (.ref f) ∧ Fun K x x st f fd ∧ Binds K fd ps []
section
variable {P : Program} {w : World} {K : PySem.W.Frag} {mg : Str → Option Value} {base : Heap} {T : List (Addr × Str)} {x : Str} {st : Stmt} {ps : List Str} {n k : Nat} {mf : List Val → Store → Res Val}
theorem FZ.mk' (d : DefK K mg x st ps) (h : ∀ (f : Addr) (fd : FuncData), Fun K x x st f fd → FnG P w K mg base k f fd ps (spZ ⟨K, mg, T⟩ n mf)) : FZ P w K mg base T k x n mf := by
  obtain ⟨f, fd, h1, h2, h3⟩ := d.ex
  exact ⟨f, fd, ps, h1, h2.kp, h3, h f fd h2⟩
theorem fnZ' {qual : Str} {f : Addr} {fd : FuncData} {N : List Str} {b : Sm Fl} (F : Fun K x qual st f fd) (S : FnScope N ps (defScope st)) (hn : ps.length = n) (hm : fnM n N.length b = mf)
    (body : ∀ (cd : Value) (A : Around) (out : List Env) (s : Shared) (H : Hp) (E : XK), A.guards = some [] → Room k (A.deeper (envOfC qual (defScope st) s.heap.objs.size f cd)) →
      ∃ t, PSs (cxOf (L2N.CX P w) P w K mg base N qual (defScope st) f cd A out s H E) (defBody st) t ∧ EvS ⟨K, mg, T⟩ E t b) : FnG P w K mg base (k + 1) f fd ps (spZ ⟨K, mg, T⟩ n mf) := by
  subst hn hm
  exact fnZ F S body
theorem zp_const {X : Cx} {x : Str} {v : V} {pos : Pos} (hg : Gl X x) (h : ∃ u, X.mg x = some u ∧ RelV v u) (hd : (x == ("__debug__" : Str)) = false := by decide) : PE X (.Name x pos) (tC v) := by
  obtain ⟨u, h1, h2⟩ := h
  exact pe_glob hg h1 h2 hd
end
theorem bb_sum : bootBuiltins "sum" = some (.builtin "sum") := by decide +kernel
theorem bb_all : bootBuiltins "all" = some (.builtin "all") := by decide +kernel
theorem bb_abs : bootBuiltins "abs" = some (.builtin "abs") := by decide +kernel
theorem bb_max : bootBuiltins "max" = some (.builtin "max") := by decide +kernel
theorem bb_min : bootBuiltins "min" = some (.builtin "min") := by decide +kernel
theorem bb_divmod : bootBuiltins "divmod" = some (.builtin "divmod") := by decide +kernel
theorem bb_isinstance : bootBuiltins "isinstance" = some (.builtin "isinstance") := by decide +kernel
theorem bb_repr : bootBuiltins "repr" = some (.builtin "repr") := by decide +kernel
end Z
namespace Z
open PySem PySem.Spec PyProof.Rows L2
section
variable {K : PySem.W.Frag} {mg : Str → Option Value} {h : Heap}
theorem defK {x : Str} {st : Stmt} {ps : List Str} {f : Addr} {oc : Value} {od an : Option Addr} {osl : Array (Option Value)} {kV doc pm cdv ct : Value} (kx : K.In h) (g : h.Ns mainGlobals mg) (a : PySem.W.nsIn K mainGlobals x = some (some (.ref f)))
    (l : K.lookup f = some ⟨oc, od, .func (PySem.W.fnOf x x (defArgs st) (defBody st) (defScope st) .none kV doc pm an cdv ct), osl⟩) (c : PySem.W.codeIn K cdv x = true) (k : PySem.W.keepIn K (.ref f) = true)
    (b : ∀ (kV doc pm : Value) (an : Option Addr) (cdv ct : Value) (us : List Value), us.length = ps.length → bindArgs (PySem.W.fnOf x x (defArgs st) (defBody st) (defScope st) .none kV doc pm an cdv ct) ⟨us, []⟩ = pure (ps.zip us)) : DefK K mg x st ps :=
  ⟨f, _, PySem.W.mg_of kx g a, fun_mk l c k, (fun_mk l c k).binds b⟩
theorem excK {c : Str} {A : Addr} (kx : K.In h) (g : h.Ns mainGlobals mg) (a : PySem.W.nsIn K mainGlobals c = some (some (.ref A)))
    (e : PySem.W.excIn K A [.type "ValueError", .type "Exception", .type "BaseException", .type "object"] "ValueError.__new__" = true) (k : PySem.W.keepIn K (.ref A) = true) (b : PySem.W.subIn K (.ref A) (.type "BaseException") = some true) (t : PySem.W.typeIn K (.ref A) = some (.type "type")) : XZ K mg c :=
  ⟨A, PySem.W.mg_of kx g a, e, k, b, t⟩
end
theorem es_raiseX {C : Ctx} {E : XK} {c : Str} (h : XZ C.K C.mg c) : EvS C E (tRz C.mg c E) (sRaise c) := by
  obtain ⟨A, h1, _⟩ := h.ex
  exact es_raise h1
end Z

/-! Z, part 15: plain laws of the mirrors' words. -/
namespace Z
open PySem PySem.Spec PyProof.Rows L2

section
variable {α β : Type} {M : Store} {ρ : Rho}
@[simp] theorem bind_ite (c : Prop) [Decidable c] (a b : Res α) (f : α → Store → Res β) : (if c then a else b).bind f = if c then a.bind f else b.bind f := by split <;> rfl
@[simp] theorem fnM_eq (n N : Nat) (b : Sm Fl) (xs : List Val) : fnM n N b xs M = if xs.length = n then (b (startR N xs) M).bind outM else .stuck := rfl
@[simp] theorem startR_eq (N : Nat) (xs : List Val) : startR N xs = xs.map (fun x => some (Slot.sh x)) ++ List.replicate (N - xs.length) none := rfl
@[simp] theorem outM_rt (x : Val) : outM (.rt x) M = .ok x M := rfl
@[simp] theorem outM_nx (ρ : Rho) : outM (.nx ρ) M = .ok (.d .none) M := rfl
@[simp] theorem eVar_eq (i : Nat) : eVar i ρ M = match ρ[i]? with
  | some (some (.sh v)) => .ok v M
  | _ => .stuck := rfl
@[simp] theorem wVar_eq (i : Nat) : wVar i ρ M = match ρ[i]? with
  | some (some (.sh v)) => .ok v M
  | some (some (.ol xs)) => .ok (.d (.list xs)) M
  | some (some (.od xs)) => .ok (.d (.dict (kvD xs))) M
  | _ => .stuck := rfl
@[simp] theorem eC_eq (x : PyData) : eC x ρ M = .ok (.d x) M := rfl
@[simp] theorem e1_eq (f : PyData → Option PyData) (a : Sm Val) : e1 f a ρ M = (a ρ M).bind (lift1 f) := rfl
@[simp] theorem e2_eq (f : PyData → PyData → Option PyData) (a b : Sm Val) : e2 f a b ρ M = (a ρ M).bind fun x M1 => (b ρ M1).bind fun y M2 => lift2 f x y M2 := rfl
@[simp] theorem lift1_eq (f : PyData → Option PyData) (x : PyData) : lift1 f (.d x) M = match f x with
  | some b => .ok (.d b) M
  | none => .stuck := rfl
@[simp] theorem lift2_eq (f : PyData → PyData → Option PyData) (x y : PyData) : lift2 f (.d x) (.d y) M = match f x y with
  | some b => .ok (.d b) M
  | none => .stuck := rfl
@[simp] theorem eAnd_eq (a b : Sm Val) : eAnd a b ρ M = (a ρ M).bind fun x M1 => (asB x M1).bind fun c M2 => if c = true then b ρ M2 else .ok (.d (.bool false)) M2 := rfl
@[simp] theorem eOr_eq (a b : Sm Val) : eOr a b ρ M = (a ρ M).bind fun x M1 => (asB x M1).bind fun c M2 => if c = true then .ok (.d (.bool true)) M2 else b ρ M2 := rfl
@[simp] theorem eNot_eq (a : Sm Val) : eNot a ρ M = (a ρ M).bind fun x M1 => (asB x M1).bind fun c M2 => .ok (.d (.bool (!c))) M2 := rfl
@[simp] theorem eIsa_eq (p : PyData → Bool) (a : Sm Val) : eIsa p a ρ M = (a ρ M).bind (lift1 fun d => some (.bool (p d))) := rfl
@[simp] theorem tVal_eq (a : Sm Val) : tVal a ρ M = (a ρ M).bind asB := rfl
@[simp] theorem tNotM_eq (a : Sm Bool) : tNotM a ρ M = (a ρ M).bind fun b M1 => .ok (!b) M1 := rfl
@[simp] theorem tAndM_eq (a b : Sm Bool) : tAndM a b ρ M = (a ρ M).bind fun c M1 => if c = true then b ρ M1 else .ok false M1 := rfl
@[simp] theorem tOrM_eq (a b : Sm Bool) : tOrM a b ρ M = (a ρ M).bind fun c M1 => if c = true then .ok true M1 else b ρ M1 := rfl
@[simp] theorem tYesM_eq : tYesM ρ M = .ok true M := rfl
@[simp] theorem eIf_eq (t : Sm Bool) (a b : Sm Val) : eIf t a b ρ M = (t ρ M).bind fun c M1 => if c = true then a ρ M1 else b ρ M1 := rfl
@[simp] theorem eChain_eq (f f' : PyData → PyData → Option PyData) (a b c : Sm Val) : eChain f f' a b c ρ M = (a ρ M).bind fun x M1 => (b ρ M1).bind fun y M2 => (lift2 f x y M2).bind fun z M3 => (asB z M3).bind fun k M4 =>
  if k = true then (c ρ M4).bind fun w M5 => lift2 f' y w M5 else .ok (.d (.bool false)) M4 := rfl
@[simp] theorem aNil_eq : aNil ρ M = .ok [] M := rfl
@[simp] theorem aCons_eq (a : Sm Val) (b : Sm (List Val)) : aCons a b ρ M = (a ρ M).bind fun x M1 => (b ρ M1).bind fun xs M2 => .ok (x :: xs) M2 := rfl
@[simp] theorem eTup_eq (a : Sm (List Val)) : eTup a ρ M = ((a ρ M).bind sz).bind mkTup := rfl
@[simp] theorem lLst_eq (a : Sm (List Val)) : lLst a ρ M = (a ρ M).bind sz := rfl
@[simp] theorem sz_eq (xs : List Val) : sz xs M = if xs.length ≤ 100000 then .ok xs M else .stuck := rfl
@[simp] theorem eFrz_eq (a : Sm (List Val)) : eFrz a ρ M = (a ρ M).bind frz := rfl
@[simp] theorem eLay_eq (a : Sm (List Val)) : eLay a ρ M = (a ρ M).bind lay := rfl
@[simp] theorem lay_eq (xs : List Val) : lay xs M = .ok (.ref M.length) (M ++ [.lst xs]) := rfl
@[simp] theorem frz_eq (xs : List Val) : frz xs M = match pures xs with
  | some ds => .ok (.d (.list ds)) M
  | none => .stuck := rfl
@[simp] theorem mkTup_eq (xs : List Val) : mkTup xs M = match pures xs with
  | some ds => .ok (.d (.tuple ds)) M
  | none => .ok (.ref M.length) (M ++ [.tup xs]) := rfl
@[simp] theorem eCG_eq (f : List Val → Store → Res Val) (a : Sm (List Val)) : eCG f a ρ M = (a ρ M).bind f := rfl
@[simp] theorem eG_eq (f : Val → Val → Store → Res Val) (a b : Sm Val) : eG f a b ρ M = (a ρ M).bind fun x M1 => (b ρ M1).bind fun y M2 => f x y M2 := rfl
@[simp] theorem eCB_eq (f : List PyData → Option PyData) (a : Sm (List Val)) : eCB f a ρ M = (a ρ M).bind (liftn f) := rfl
@[simp] theorem liftn_eq (f : List PyData → Option PyData) (xs : List Val) : liftn f xs M = match loads M xs with
  | some as => match f as with
    | some b => .ok (.d b) M
    | none => .stuck
  | none => .stuck := rfl
@[simp] theorem loads_d (x : PyData) (xs : List Val) : loads M (.d x :: xs) = (loads M xs).map (x :: ·) := by
  rw [loads]; simp only [load_d]; cases loads M xs <;> rfl
@[simp] theorem eCall_eq (n : Nat) (f : List Val → Store → Res Val) (a : Sm (List Val)) : eCall n f a ρ M = (a ρ M).bind fun xs M1 => if xs.length = n then f xs M1 else .stuck := rfl
@[simp] theorem eTupOf_eq (a : Sm Val) : eTupOf a ρ M = (a ρ M).bind fun x M1 => match itemsK M1 true x with
  | some xs => mkTup xs M1
  | none => match itemsK M1 false x with
    | some _ => .ok x M1
    | none => .stuck := rfl
@[simp] theorem eSl_eq (a : Sm Val) (l h : Sm (Option Int)) : eSl a l h ρ M = (a ρ M).bind fun x M1 => (l ρ M1).bind fun lo M2 => (h ρ M2).bind fun hi M3 => lift1 (fSl lo hi) x M3 := rfl
@[simp] theorem oN_eq : oN ρ M = .ok none M := rfl
@[simp] theorem oS_eq (a : Sm Val) : oS a ρ M = (a ρ M).bind fun x M1 => match x with
  | .d (.int i) => .ok (some i) M1
  | _ => .stuck := rfl
@[simp] theorem sNext_eq : sNext ρ M = .ok (.nx ρ) M := rfl
@[simp] theorem sSeq_eq (a b : Sm Fl) : sSeq a b ρ M = (a ρ M).bind fun f M1 => match f with
  | .nx ρ1 => b ρ1 M1
  | f => .ok f M1 := rfl
@[simp] theorem sRet_eq (a : Sm Val) : sRet a ρ M = (a ρ M).bind fun x M1 => .ok (.rt x) M1 := rfl
@[simp] theorem sRetN_eq : sRetN ρ M = .ok (.rt (.d .none)) M := rfl
@[simp] theorem sDrop_eq (a : Sm Val) : sDrop a ρ M = (a ρ M).bind fun _ M1 => .ok (.nx ρ) M1 := rfl
@[simp] theorem sIf_eq (t : Sm Bool) (a b : Sm Fl) : sIf t a b ρ M = (t ρ M).bind fun c M1 => if c = true then a ρ M1 else b ρ M1 := rfl
@[simp] theorem sRaise_eq (c : Str) : sRaise c ρ M = .exn c M := rfl
@[simp] theorem sAsg_eq (a : Sm Val) (t : Tg) : sAsg a t ρ M = (a ρ M).bind fun x M1 => (t x ρ M1).bind fun ρ' M2 => .ok (.nx ρ') M2 := rfl
@[simp] theorem gN_eq (i : Nat) (x : Val) : gN i x ρ M = .ok (ρ.set i (some (.sh x))) M := rfl
@[simp] theorem gTupM_eq (n : Nat) (t : List Val → Rho → Store → Res Rho) (x : Val) : gTupM n t x ρ M = match itemsK M false x with
  | some xs => if xs.length = n then t xs ρ M else .stuck
  | none => .stuck := rfl
@[simp] theorem gNilM_eq : gNilM [] ρ M = .ok ρ M := rfl
@[simp] theorem gConsM_eq (m : Tg) (ms : List Val → Rho → Store → Res Rho) (x : Val) (xs : List Val) : gConsM m ms (x :: xs) ρ M = (m x ρ M).bind fun ρ1 M1 => ms xs ρ1 M1 := rfl
@[simp] theorem sAsgL_eq (i : Nat) (m : Sm (List Val)) : sAsgL i m ρ M = (m ρ M).bind fun xs M1 => match pures xs with
  | some ds => .ok (.nx (ρ.set i (some (.ol ds)))) M1
  | none => .stuck := rfl
@[simp] theorem sFrz_eq (i : Nat) (m : Sm Fl) : sFrz i m ρ M = m (frzR ρ i) M := rfl
@[simp] theorem sPar_eq (i j : Nat) (m : Sm (List Val)) : sPar i j m ρ M = (m ρ M).bind fun xs M1 => match xs with
  | [x, y] => .ok (.nx ((ρ.set i (some (.sh x))).set j (some (.sh y)))) M1
  | _ => .stuck := rfl
@[simp] theorem sFor_eq (ks : List Nat) (a : Sm Src) (t : Tg) (b : Sm Fl) : sFor ks a t b ρ M = (a ρ M).bind fun src M1 => forM src t (sKill ks b) (src.len M1) 0 (wipeR ρ ks) M1 := rfl
@[simp] theorem sWhile_eq (ks : List Nat) (n : Nat) (c : Sm Bool) (b : Sm Fl) : sWhile ks n c b ρ M = whileM c (sKill ks b) n (wipeR ρ ks) M := rfl
@[simp] theorem sKill_eq (ks : List Nat) (m : Sm Fl) : sKill ks m ρ M = (m ρ M).bind fun f M1 => .ok (killF ks f) M1 := rfl
@[simp] theorem sPre_eq (ks : List Nat) (m : Sm Fl) : sPre ks m ρ M = m (wipeR ρ ks) M := rfl
@[simp] theorem killF_nx (ks : List Nat) : killF ks (.nx ρ) = .nx (wipeR ρ ks) := rfl
@[simp] theorem killF_rt (ks : List Nat) (x : Val) : killF ks (.rt x) = .rt x := rfl
@[simp] theorem killF_bk (ks : List Nat) : killF ks (.bk ρ) = .bk (wipeR ρ ks) := rfl
@[simp] theorem killF_ct (ks : List Nat) : killF ks (.ct ρ) = .ct (wipeR ρ ks) := rfl

@[simp] theorem eLc_eq (a : Sm Src) (t : Tg) (c : Sm Bool) (e : Sm Val) (vs : List Nat) : eLc a t c e vs ρ M = (a ρ M).bind fun src M1 => okOnly (lcM src t c e (wipeR ρ vs) (src.len M1) 0 [] M1) := rfl
@[simp] theorem okOnly_ok (x : α) : okOnly (Res.ok x M) = .ok x M := rfl
@[simp] theorem sOne_eq (a : Sm Val) : sOne a ρ M = (a ρ M).bind fun x M1 => match kindV M1 x with
  | some k => .ok (.one k x) M1
  | none => .stuck := rfl
@[simp] theorem sRng1_eq (a : Sm (List Val)) : sRng1 a ρ M = (a ρ M).bind fun xs M1 => match xs with
  | [.d (.int j)] => if inR j = true then .ok (.rng 0 1 j.toNat) M1 else .stuck
  | _ => .stuck := rfl
@[simp] theorem lSort_eq (a : Sm Val) : lSort a ρ M = (a ρ M).bind fun x M1 => match load M1 x with
  | some (.list ds) => if okSort ds = true then .ok ((sortD ds).map Val.d) M1 else .stuck
  | _ => .stuck := rfl
@[simp] theorem lRange_eq (a : Sm Val) : lRange a ρ M = (a ρ M).bind fun x M1 => match x with
  | .d (.int n) => if 0 ≤ n ∧ n ≤ 100000 then .ok (rgD n) M1 else .stuck
  | _ => .stuck := rfl
@[simp] theorem wipeR_nil : wipeR ρ [] = ρ := rfl
@[simp] theorem wipeR_cons (i : Nat) (r : List Nat) : wipeR ρ (i :: r) = (wipeR ρ r).set i none := rfl
end
/-! numbers -/
theorem int_beq (i j : Int) : (i == j) = decide (i = j) := by
  by_cases h : i = j
  · subst h; simp
  · simp [h]
@[simp] theorem fSub_int (i j : Int) : fSub (.int i) (.int j) = some (.int (i - j)) := rfl
@[simp] theorem fAdd_int (i j : Int) : fAdd (.int i) (.int j) = some (.int (i + j)) := rfl
@[simp] theorem okLt_int (i j : Int) : okLt (.int i) (.int j) = true := by simp [okLt, PySem.W.alike, isNone, PyData.depth]
@[simp] theorem fLt_int (i j : Int) : fLt (.int i) (.int j) = some (.bool (decide (i < j))) := by simp [fLt, PySem.W.dataLt_int]
@[simp] theorem fGt_int (i j : Int) : fGt (.int i) (.int j) = some (.bool (decide (j < i))) := by simp [fGt, PySem.W.dataLt_int]
@[simp] theorem fLe_int (i j : Int) : fLe (.int i) (.int j) = some (.bool (decide (i ≤ j))) := by simp [fLe, PySem.W.dataLt_int, ← Int.not_lt]
@[simp] theorem fGe_int (i j : Int) : fGe (.int i) (.int j) = some (.bool (decide (j ≤ i))) := by simp [fGe, PySem.W.dataLt_int, ← Int.not_lt]
@[simp] theorem okEq_int (i j : Int) : okEq (.int i) (.int j) = true := by simp [okEq, PyData.plain, PyData.depth]
@[simp] theorem fEq_int (i j : Int) : fEq (.int i) (.int j) = some (.bool (decide (i = j))) := by simp only [fEq, okEq_int, if_true, PyData.eqv]; rw [int_beq]
@[simp] theorem fNe_int (i j : Int) : fNe (.int i) (.int j) = some (.bool (!decide (i = j))) := by simp only [fNe, okEq_int, if_true, PyData.eqv]; rw [int_beq]

/-! sources of data -/
def Src.items : Src → Option (List Val)
  | .one k x => itemsK [] k x
  | .rng lo c n => some ((List.range n).map fun i : Nat => .d (.int (lo + (i : Int) * c)))
  | .enum k x => match itemsK [] k x with
    | some xs => (pures xs).map fun ds => ds.zipIdx.map fun p => .d (.tuple [.int (p.2 : Int), p.1])
    | none => none
  | .zip k1 k2 x y => match itemsK [] k1 x, itemsK [] k2 y with
    | some xs, some ys => match pures xs, pures ys with
      | some as, some bs => some ((as.zip bs).map fun p => .d (.tuple [p.1, p.2]))
      | _, _ => none
    | _, _ => none
  | .str a => some ((charsS a).map fun s => .d (.str s))
theorem itemsK_up {k : Bool} {x : Val} {xs : List Val} (M : Store) (h : itemsK [] k x = some xs) : itemsK M k x = some xs := by
  cases x with
  | scr _ => cases k <;> cases h
  | ref n => cases k <;> simp [itemsK] at h
  | d x => cases k <;> cases x <;> simp [itemsK] at h ⊢ <;> exact h
theorem at_items {src : Src} {xs : List Val} (h : src.items = some xs) (M : Store) : src.len M = xs.length ∧ ∀ i, i ≤ xs.length → src.at M i = some xs[i]? := by
  cases src with
  | one k x =>
    have h := itemsK_up M h
    exact ⟨by simp [Src.len, h], fun i hi => by simp [Src.at, h]⟩
  | rng lo c n =>
    cases h
    refine ⟨by simp [Src.len], fun i hi => ?_⟩
    simp only [Src.at, List.getElem?_map]
    by_cases hlt : i < n
    · rw [if_pos hlt, List.getElem?_range hlt]; rfl
    · rw [if_neg hlt, List.getElem?_eq_none (by simpa using hlt)]; rfl
  | enum k x =>
    simp only [Src.items] at h
    cases e : itemsK [] k x with
    | none => rw [e] at h; cases h
    | some ys =>
      rw [e] at h
      simp only at h
      have e' := itemsK_up M e
      cases e2 : pures ys with
      | none => rw [e2] at h; cases h
      | some ds =>
        rw [e2] at h
        cases h
        have e3 := pures_eq e2
        subst e3
        refine ⟨by simp [Src.len, e'], fun i hi => ?_⟩
        simp only [Src.at, e', List.length_map]
        simp at hi
        by_cases hl : i = ds.length
        · rw [if_pos hl, List.getElem?_eq_none (by simp; omega)]
        · have hlt : i < ds.length := by omega
          rw [if_neg hl]
          simp [hlt]
  | zip k1 k2 x y =>
    simp only [Src.items] at h
    cases e : itemsK [] k1 x with
    | none => rw [e] at h; cases h
    | some ys =>
      cases f : itemsK [] k2 y with
      | none => rw [e, f] at h; cases h
      | some zs =>
        rw [e, f] at h
        simp only at h
        have e' := itemsK_up M e
        have f' := itemsK_up M f
        cases e2 : pures ys with
        | none => rw [e2] at h; cases h
        | some as =>
          cases f2 : pures zs with
          | none => rw [e2, f2] at h; cases h
          | some bs =>
            rw [e2, f2] at h
            cases h
            have e3 := pures_eq e2
            have f3 := pures_eq f2
            subst e3 f3
            refine ⟨by simp [Src.len, e', f'], fun i hi => ?_⟩
            simp at hi
            simp only [Src.at, e', f', List.length_map]
            by_cases hl : i = min as.length bs.length
            · rw [if_pos hl, List.getElem?_eq_none (by simp; omega)]
            · have h1 : i < as.length := by omega
              have h2 : i < bs.length := by omega
              rw [if_neg hl]
              have hz : (as.zip bs)[i]? = some (as[i], bs[i]) := List.getElem?_zip_eq_some.mpr ⟨List.getElem?_eq_getElem h1, List.getElem?_eq_getElem h2⟩
              simp [h1, h2, hz]
  | str a =>
    cases h
    exact ⟨by simp [Src.len], fun i hi => by simp only [Src.at, List.getElem?_map]⟩
/-- a loop, by an invariant -/
theorem forM_run {src : Src} {xs : List Val} (hs : src.items = some xs) {tg : Tg} {b : Sm Fl} (P : Nat → Rho → Store → Prop)
    (step : ∀ i x ρ M, xs[i]? = some x → P i ρ M → ∃ ρ1 M1 ρ2 M2, tg x ρ M = .ok ρ1 M1 ∧ b ρ1 M1 = .ok (.nx ρ2) M2 ∧ P (i + 1) ρ2 M2) :
    ∀ (k i : Nat) (ρ : Rho) (M : Store), i + k = xs.length → P i ρ M → ∃ ρ' M', forM src tg b k i ρ M = .ok (.nx ρ') M' ∧ P xs.length ρ' M'
  | 0, i, ρ, M, h, p => by
    have e : i = xs.length := by omega
    subst e
    refine ⟨ρ, M, ?_, p⟩
    simp [forM, (at_items hs M).2 _ (Nat.le_refl _)]
  | k + 1, i, ρ, M, h, p => by
    have hi : i < xs.length := by omega
    obtain ⟨ρ1, M1, ρ2, M2, e1, e2, p2⟩ := step i xs[i] ρ M (List.getElem?_eq_getElem hi) p
    obtain ⟨ρ', M', e3, p3⟩ := forM_run hs P step k (i + 1) ρ2 M2 (by omega) p2
    refine ⟨ρ', M', ?_, p3⟩
    simp [forM, (at_items hs M).2 i (by omega), hi, e1, e2, e3]
theorem forM_all {src : Src} {xs : List Val} (hs : src.items = some xs) {tg : Tg} {b : Sm Fl} {ρ : Rho} {M : Store} (P : Nat → Rho → Store → Prop)
    (p0 : P 0 ρ M) (step : ∀ i x ρ M, xs[i]? = some x → P i ρ M → ∃ ρ1 M1 ρ2 M2, tg x ρ M = .ok ρ1 M1 ∧ b ρ1 M1 = .ok (.nx ρ2) M2 ∧ P (i + 1) ρ2 M2) :
    ∃ ρ' M', forM src tg b (src.len M) 0 ρ M = .ok (.nx ρ') M' ∧ P xs.length ρ' M' := by
  rw [(at_items hs M).1]
  exact forM_run hs P step _ 0 ρ M (by omega) p0
/-- a comprehension, by an invariant -/
theorem lcM_run {src : Src} {xs : List Val} (hs : src.items = some xs) {tg : Tg} {tt : Sm Bool} {te : Sm Val} {ρ : Rho} (P : Nat → List Val → Store → Prop)
    (step : ∀ i x acc M, xs[i]? = some x → P i acc M → ∃ ρ1 M1 c M2, tg x ρ M = .ok ρ1 M1 ∧ tt ρ1 M1 = .ok c M2 ∧ (c = true → ∃ y M3, te ρ1 M2 = .ok y M3 ∧ acc.length < 16000000 ∧ P (i + 1) (acc ++ [y]) M3) ∧ (c = false → P (i + 1) acc M2)) :
    ∀ (k i : Nat) (acc : List Val) (M : Store), i + k = xs.length → P i acc M → ∃ acc' M', lcM src tg tt te ρ k i acc M = .ok acc' M' ∧ P xs.length acc' M'
  | 0, i, acc, M, h, p => by
    have e : i = xs.length := by omega
    subst e
    refine ⟨acc, M, ?_, p⟩
    simp [lcM, (at_items hs M).2 _ (Nat.le_refl _)]
  | k + 1, i, acc, M, h, p => by
    have hi : i < xs.length := by omega
    obtain ⟨ρ1, M1, c, M2, e1, e2, p2, p3⟩ := step i xs[i] acc M (List.getElem?_eq_getElem hi) p
    cases c with
    | true =>
      obtain ⟨y, M3, e4, hl, p4⟩ := p2 rfl
      obtain ⟨acc', M', e5, p5⟩ := lcM_run hs P step k (i + 1) (acc ++ [y]) M3 (by omega) p4
      refine ⟨acc', M', ?_, p5⟩
      simp [lcM, (at_items hs M).2 i (by omega), hi, e1, e2, e4, hl, e5]
    | false =>
      obtain ⟨acc', M', e5, p5⟩ := lcM_run hs P step k (i + 1) acc M2 (by omega) (p3 rfl)
      refine ⟨acc', M', ?_, p5⟩
      simp [lcM, (at_items hs M).2 i (by omega), hi, e1, e2, e5]
theorem lcM_all {src : Src} {xs : List Val} (hs : src.items = some xs) {tg : Tg} {tt : Sm Bool} {te : Sm Val} {ρ : Rho} {M : Store} (P : Nat → List Val → Store → Prop) (p0 : P 0 [] M)
    (step : ∀ i x acc M, xs[i]? = some x → P i acc M → ∃ ρ1 M1 c M2, tg x ρ M = .ok ρ1 M1 ∧ tt ρ1 M1 = .ok c M2 ∧ (c = true → ∃ y M3, te ρ1 M2 = .ok y M3 ∧ acc.length < 16000000 ∧ P (i + 1) (acc ++ [y]) M3) ∧ (c = false → P (i + 1) acc M2)) :
    ∃ acc' M', lcM src tg tt te ρ (src.len M) 0 [] M = .ok acc' M' ∧ P xs.length acc' M' := by
  rw [(at_items hs M).1]
  exact lcM_run hs P step _ 0 [] M (by omega) p0
/-- a comprehension that changes nothing -/
theorem lcM_pure {src : Src} {xs : List Val} (hs : src.items = some xs) {tg : Tg} {tt : Sm Bool} {te : Sm Val} {ρ : Rho} {M : Store} (p : Val → Bool) (f : Val → Val) (hl : xs.length < 16000000)
    (h : ∀ x ∈ xs, ∃ ρ1, tg x ρ M = .ok ρ1 M ∧ tt ρ1 M = .ok (p x) M ∧ (p x = true → te ρ1 M = .ok (f x) M)) : lcM src tg tt te ρ (src.len M) 0 [] M = .ok ((xs.filter p).map f) M := by
  obtain ⟨acc, M', e, h1, h2⟩ := lcM_all (ρ := ρ) (tg := tg) (tt := tt) (te := te) (M := M) hs (fun i acc M' => M' = M ∧ acc = ((xs.take i).filter p).map f) ⟨rfl, by simp⟩ (by
    rintro i x acc M' hx ⟨rfl, rfl⟩
    obtain ⟨ρ1, e1, e2, e3⟩ := h x (List.mem_of_getElem? hx)
    have hi := (List.getElem?_eq_some_iff.mp hx).1
    have ht : xs.take (i + 1) = xs.take i ++ [x] := by rw [List.take_succ, hx]; rfl
    refine ⟨ρ1, M', p x, M', e1, e2, fun hp => ⟨f x, M', e3 hp, ?_, rfl, ?_⟩, fun hp => ⟨rfl, ?_⟩⟩
    · have : (((xs.take i).filter p).map f).length ≤ (xs.take i).length := by rw [List.length_map]; exact List.length_filter_le _ _
      rw [List.length_take] at this; omega
    · rw [ht, List.filter_append, List.map_append]; simp [hp]
    · rw [ht, List.filter_append, List.map_append]; simp [hp])
  rw [e, h1, h2, List.take_length]
/-- .. of data, no test -/
theorem lcM_map {src : Src} {ds : List PyData} (hs : src.items = some (ds.map Val.d)) {tg : Tg} {te : Sm Val} {ρ : Rho} {M : Store} (f : PyData → PyData) (hl : ds.length < 16000000)
    (h : ∀ x ∈ ds, ∃ ρ1, tg (.d x) ρ M = .ok ρ1 M ∧ te ρ1 M = .ok (.d (f x)) M) : lcM src tg tYesM te ρ (src.len M) 0 [] M = .ok ((ds.map f).map Val.d) M := by
  have := lcM_pure (tg := tg) (tt := tYesM) (te := te) (ρ := ρ) (M := M) hs (fun _ => true) (fun v => match v with
    | .d x => .d (f x)
    | v => v) (by simpa using hl) (fun x hx => by
      obtain ⟨d, hd, rfl⟩ := List.mem_map.mp hx
      obtain ⟨ρ1, e1, e2⟩ := h d hd
      exact ⟨ρ1, e1, rfl, fun _ => e2⟩)
  rw [this, List.filter_eq_self.mpr (fun _ _ => rfl)]
  simp [List.map_map, Function.comp_def]
@[simp] theorem items_l (ds : List PyData) : (Src.one true (.d (.list ds))).items = some (ds.map Val.d) := rfl
@[simp] theorem items_t (ds : List PyData) : (Src.one false (.d (.tuple ds))).items = some (ds.map Val.d) := rfl
@[simp] theorem items_r (n : Nat) : (Src.rng 0 1 n).items = some (((List.range n).map fun i : Nat => PyData.int i).map Val.d) := by
  simp [Src.items, List.map_map, Function.comp_def]
@[simp] theorem pures_comp {α : Type} (f : α → PyData) (xs : List α) : pures (xs.map (Val.d ∘ f)) = some (xs.map f) := by
  rw [← List.map_map]; exact pures_map _
@[simp] theorem pures_fun {α : Type} (f : α → PyData) (xs : List α) : pures (xs.map fun x => Val.d (f x)) = some (xs.map f) := pures_comp f xs
@[simp] theorem bools_fun {α : Type} (p : α → Bool) (ds : List α) : boolsD (ds.map fun d => .bool (p d)) = some (ds.map p) := by
  induction ds with
  | nil => rfl
  | cons x r ih => simp [boolsD, ih]
@[simp] theorem ints_fun {α : Type} (p : α → Int) (ds : List α) : intsD (ds.map fun d => .int (p d)) = some (ds.map p) := by
  induction ds with
  | nil => rfl
  | cons x r ih => simp [intsD, ih]
section
variable {M : Store} {ρ : Rho}
@[simp] theorem wOl_eq (i : Nat) (f : List PyData → Res Fl) : wOl ρ i f = match ρ[i]? with
  | some (some (.ol xs)) => f xs
  | _ => .stuck := rfl
@[simp] theorem sApp_eq (i : Nat) (m : Sm Val) : sApp i m ρ M = wOl ρ i fun xs => (m ρ M).bind fun y M1 => match y with
  | .d y => if xs.length < 100000 then .ok (.nx (ρ.set i (some (.ol (xs ++ [y]))))) M1 else .stuck
  | _ => .stuck := rfl
@[simp] theorem sExt_eq (i : Nat) (m : Sm (List Val)) : sExt i m ρ M = wOl ρ i fun xs => (m ρ M).bind fun ys M1 => match pures ys with
  | some ds => if xs.length + ds.length < 100000 then .ok (.nx (ρ.set i (some (.ol (xs ++ ds))))) M1 else .stuck
  | none => .stuck := rfl
@[simp] theorem sSet_eq (i : Nat) (m mj : Sm Val) : sSet i m mj ρ M = wOl ρ i fun xs => (m ρ M).bind fun y M1 => (mj ρ M1).bind fun j M2 => match y, j with
  | .d y, .d (.int j) => match ixN xs.length j with
    | some n => .ok (.nx (ρ.set i (some (.ol (xs.set n y))))) M2
    | none => .stuck
  | _, _ => .stuck := rfl
@[simp] theorem frzR_eq (i : Nat) : frzR ρ i = match ρ[i]? with
  | some (some (.ol xs)) => ρ.set i (some (.sh (.d (.list xs))))
  | some (some (.od xs)) => ρ.set i (some (.sh (.d (.dict (kvD xs)))))
  | _ => ρ := rfl
@[simp] theorem sEnum_eq (a : Sm (List Val)) : sEnum a ρ M = (a ρ M).bind fun xs M1 => match xs with
  | [x] => match kindV M1 x with
    | some k => .ok (.enum k x) M1
    | none => .stuck
  | _ => .stuck := rfl
@[simp] theorem sZip_eq (a : Sm (List Val)) : sZip a ρ M = (a ρ M).bind fun xs M1 => match xs with
  | [x, y] => match kindV M1 x, kindV M1 y with
    | some k1, some k2 => .ok (.zip k1 k2 x y) M1
    | _, _ => .stuck
  | _ => .stuck := rfl
@[simp] theorem fIx_int (x : Val) (i : Int) : fIx x (.d (.int i)) M = match ixV M x i with
  | some v => .ok v M
  | none => .stuck := rfl
@[simp] theorem gSubM_eq (a b : Sm Val) (x : Val) : gSubM a b x ρ M = (a ρ M).bind fun y M1 => (b ρ M1).bind fun j M2 => match y, j with
  | .ref n, .d (.int i) => match M2[n]? with
    | some (.lst xs) => match ixN xs.length i with
      | some k => .ok ρ (M2.set n (.lst (xs.set k x)))
      | none => .stuck
    | _ => .stuck
  | _, _ => .stuck := rfl
end
@[simp] theorem atI_nil {α : Type} (i : Int) : atI ([] : List α) i = none := by
  unfold atI; cases ixN ([] : List α).length i <;> simp
theorem ixN_nat {n : Nat} {i : Nat} (h : i < n) : ixN n (i : Int) = some i := by
  unfold ixN
  rw [if_pos (by omega), if_pos (by omega)]; simp
theorem atI_nat {α : Type} (xs : List α) (i : Nat) (h : i < xs.length) : atI xs (i : Int) = some xs[i] := by
  unfold atI; rw [ixN_nat h]; simp [h]
theorem ixN_int {n : Nat} {i : Int} (h0 : 0 ≤ i) (h : i < n) : ixN n i = some i.toNat := by
  unfold ixN; rw [if_pos h0, if_pos h]
theorem atI_int {α : Type} (xs : List α) (i : Int) (h0 : 0 ≤ i) (h : i < xs.length) : atI xs i = xs[i.toNat]? := by
  unfold atI; rw [ixN_int h0 h]; rfl
theorem cMul_r (i : Int) {j : Int} (h1 : -(2 ^ 64) < j) (h2 : j < 2 ^ 64) : cMul i j = true := by
  unfold cMul; simp only [Bool.or_eq_true, Bool.and_eq_true, decide_eq_true_eq]; exact .inr ⟨h1, h2⟩
theorem cMul_l {i : Int} (j : Int) (h1 : -(2 ^ 64) < i) (h2 : i < 2 ^ 64) : cMul i j = true := by
  unfold cMul; simp only [Bool.or_eq_true, Bool.and_eq_true, decide_eq_true_eq]; exact .inl ⟨h1, h2⟩
theorem fMul_r (i : Int) {j : Int} (h1 : -(2 ^ 64) < j) (h2 : j < 2 ^ 64) : fMulI (.int i) (.int j) = some (.int (i * j)) := by simp [fMulI, cMul_r i h1 h2]
theorem fMul_l {i : Int} (j : Int) (h1 : -(2 ^ 64) < i) (h2 : i < 2 ^ 64) : fMulI (.int i) (.int j) = some (.int (i * j)) := by simp [fMulI, cMul_l j h1 h2]
theorem fDiv_int (i : Int) {j : Int} (h1 : 0 < j) (h2 : j < 1073741824) : fDiv (.int i) (.int j) = some (.int (i / j)) := by simp [fDiv, h1, h2]
theorem fMod_int (i : Int) {j : Int} (h1 : 0 < j) : fMod (.int i) (.int j) = some (.int (i % j)) := by simp [fMod, h1]
theorem noPylong (i : Int) {j : Int} (h1 : 0 < j) (h2 : j < 1073741824) : Builtin.divisionGoesByPylong i j = false := by
  have h : j.natAbs.log2 / 30 = 0 := by
    have : j.natAbs < 2 ^ 30 := by omega
    have := (Nat.log2_lt (by omega)).mpr this
    omega
  have hj : j ≠ 0 := by omega
  simp [Builtin.divisionGoesByPylong, h, hj]
theorem fDivmod_int (i : Int) {j : Int} (M : Store) (h1 : 0 < j) (h2 : j < 1073741824) : fDivmod [.d (.int i), .d (.int j)] M = .ok (.d (.tuple [.int (i / j), .int (i % j)])) M := by
  simp [fDivmod, h1, noPylong i h1 h2]
end Z

/-! Z, part 16: repr of data; count and index in lists of data. -/
namespace Z
open PySem PySem.Spec PyProof.Rows L2

/-- what repr may be asked of -/
def okR (d : PyData) : Bool := d.showable && decide (d.depth ≤ 90) && decide (d.shown.length ≤ sizeLine)
def Mods (base : Heap) : Prop := ∃ o, base.get? sysModules = some o
section
variable {X : Cx}
theorem noMods {pins : List (Addr × Obj)} {σ : L2.St} {H : Hp} {s : Shared} {as : List Addr} (I : Inv X pins σ H s) (m : Mods X.base) (t : Trk H as) : sysModules ∉ as := fun z => by
  obtain ⟨o, e⟩ := t _ z
  obtain ⟨u, hu⟩ := m
  have := (I.env0.bs _ _ hu).2
  rw [e] at this
  cases this
def rReprZ (K : PySem.W.Frag) : List V → Hp → VK → Prop := fun xs H Q => ∃ v d, xs = [v] ∧ Rp K H v d ∧ okR d = true ∧ Q (.str d.shown) H
theorem cb_repr (hg : X.A.guards = some []) (hu : Hu X) (m : Mods X.base) : CallR X (.builtin "repr") (rReprZ X.K) := by
  intro pins s σ H xs us Q I r h
  obtain ⟨v, d, rfl, rd, ok, q⟩ := h
  simp only [okR, Bool.and_eq_true, decide_eq_true_eq] at ok
  obtain ⟨⟨k1, k2⟩, k3⟩ := ok
  obtain ⟨u, rfl, ru⟩ := r.one
  obtain ⟨as, rr, tr⟩ := Rp.readsT I (Same.refl H) d v u rd ru
  have big : X.A.units + (d.depth + 1) < cLine := by unfold Hu at hu; omega
  have byRef : ∀ a, u = .ref a → wpAny (model X.prog X.w) X.A (call (.builtin "repr") [u]) (EP X pins σ Q) X.xe s := fun a e => by
    subst e
    exact repr_of_reads' rr k1 (fun _ => noMods I m tr) hg big (fun _ _ e => e) (fun h' u tk hk => ⟨.str _, H, I.kept hk, ⟨_, rfl⟩, q⟩) k3
  cases rr with
  | none => exact P.repr_of_none ⟨.str _, H, I.tok _, ⟨_, rfl⟩, by simpa [PyData.shown] using q⟩
  | bool b => exact P.repr_of_bool ⟨.str _, H, I.tok _, ⟨_, rfl⟩, by simpa [PyData.shown] using q⟩
  | int i t => exact P.repr_of_int (by simpa [PyData.showable] using k1) ⟨.str _, H, I.tok _, ⟨_, rfl⟩, by simpa [PyData.shown] using q⟩
  | str x t => exact P.repr_of_str ⟨.str _, H, I.tok _, ⟨_, rfl⟩, by simpa [PyData.shown] using q⟩ (by simpa [PyData.shown] using k3)
  | list _ _ _ _ => exact byRef _ rfl
  | tuple _ _ _ _ => exact byRef _ rfl
  | dict _ _ _ _ _ => exact byRef _ rfl
def fRepr : PyData → Option PyData := fun d => if okR d = true then some (.str d.shown) else none
end
section
variable {X : Cx} {C : Ctx} {E : XK} {te tb : TE} {m mb : Sm Val}
/-! xs.count(y), xs.index(y) -/
def rCntZ (K : PySem.W.Frag) : V → List V → Hp → VK → Prop := fun x xs H Q => ∃ y a ds d, xs = [y] ∧ x = .ref a ∧ Rp K H x (.list ds) ∧ Rp K H y d ∧ okIn d ds = true ∧ Q (.int ((ds.countP fun z => PyData.eqv z d : Nat) : Int)) H
def rIdxZ (K : PySem.W.Frag) : V → List V → Hp → VK → Prop := fun x xs H Q => ∃ y a ds d j, xs = [y] ∧ x = .ref a ∧ Rp K H x (.list ds) ∧ Rp K H y d ∧ okIn d ds = true ∧ ds.length ≤ 100000 ∧ ds.findIdx? (fun z => PyData.eqv z d) = some j ∧ Q (.int (j : Nat)) H
theorem Rp.isList {pins : List (Addr × Obj)} {σ : L2.St} {H : Hp} {s : Shared} {a : Addr} {ds : List PyData} (I : Inv X pins σ H s) (h : Rp X.K H (.ref a) (.list ds)) : ∃ (its : List Value) (as : List Addr), s.heap.IsList a its.toArray ∧ ReadsAll s.heap its ds as := by
  cases h with
  | lst hs ha =>
    obtain ⟨its, rv, hl, _⟩ := I.list (SqL.of hs)
    obtain ⟨as, hr⟩ := Rp.readsAll I (Same.refl H) ds _ its ha rv
    exact ⟨its, as, hl.isList, hr⟩
theorem mt_countZ (hu : Hu X) : MtR X "list.count" (rCntZ X.K) := by
  intro pins s σ H x xs v us Q I rx rxs h
  obtain ⟨y, a, ds, d, rfl, rfl, rl, rd, ok, q⟩ := h
  simp only [okIn, Bool.and_eq_true, decide_eq_true_eq] at ok
  obtain ⟨⟨k1, k2⟩, k3⟩ := ok
  cases rx
  obtain ⟨u, rfl, ru⟩ := rxs.one
  obtain ⟨its, as, hl, hr⟩ := Rp.isList I rl
  obtain ⟨bs, r2⟩ := Rp.reads I (Same.refl H) d y u rd ru
  exact PySem.SeqAt.count_list_data hl hr r2 k1 k2 (by unfold Hu at hu; omega) ⟨.int _, H, I.tok _, ⟨_, rfl⟩, q⟩
theorem mt_indexZ (hu : Hu X) : MtR X "list.index" (rIdxZ X.K) := by
  intro pins s σ H x xs v us Q I rx rxs h
  obtain ⟨y, a, ds, d, j, rfl, rfl, rl, rd, ok, hz, hj, q⟩ := h
  simp only [okIn, Bool.and_eq_true, decide_eq_true_eq] at ok
  obtain ⟨⟨k1, k2⟩, k3⟩ := ok
  cases rx
  obtain ⟨u, rfl, ru⟩ := rxs.one
  obtain ⟨its, as, hl, hr⟩ := Rp.isList I rl
  obtain ⟨bs, r2⟩ := Rp.reads I (Same.refl H) d y u rd ru
  obtain ⟨⟨cls, dd, data, sl⟩, ho, hc, n, hd'⟩ := id hl
  simp only at hc hd'
  subst hc hd'
  obtain ⟨hj1, hit, hno⟩ := PySem.SeqAt.hit_at hr k1 hj
  have hlen := PySem.SeqAt.len_at hr
  have big : X.A.units + 1 + min (PyData.depthAll ds) d.depth < cLine := by unfold Hu at hu; omega
  refine call_meets PySem.F.slot_list_index ⟨_, ho, rfl⟩ PySem.F.entry_list_index (PySem.F.args_list_index_2 _ _) (PySem.SeqAt.list_indexAt a its.toArray n dd sl u _ j hj1 (by rw [hlen] at hj1; omega) hit hno) ⟨ho, PySem.SeqAt.items_plain hr r2 k1 k2 big, ⟨.int _, H, I.tok _, ⟨_, rfl⟩, q⟩⟩
end
end Z

/-! Z, part 17: a lambda handed to a def that calls it. -/
namespace Z
open PySem PySem.Spec PyProof.Rows L2 LamX

/-- how the heap stands behind the making of a lambda -/
def TabStep (T : List (Addr × Str)) (q : Str) (c' : Addr) (H H1 : Hp) : Prop :=
  Tabs T H1 ∧ H1 c' = some (CodeO c' q) ∧ (H1 = H ∨ ∃ (P : Addr) (ps ps' : Array Value), H P = some (.tbl ps) ∧ H c' = none ∧ H1 = upd (upd H P (.tbl ps')) c' (CodeO c' q))
section
variable {X : Cx} {pins : List (Addr × Obj)} {σ : L2.St} {H : Hp} {s : Shared}
theorem make_lam {T : List (Addr × Str)} {c P : Addr} {pr : Arguments} {body : Expr} {sc : Scope} {pos : Pos} {E Q : Value → Shared → Prop} (I : Inv X pins σ H s) (TB : TabB X.base X.mg c P) (hc0 : X.env.code = .ref c)
    (hm : (P, X.env.qual ++ "<lambda>") ∈ T) (huq : ∀ p ∈ T, p.1 = P → p.2 = X.env.qual ++ "<lambda>") (hT : Tabs T H) (hd0 : defaultsOf pr X.env = ([], [])) (hfr : ∀ y ∈ sc.names, y.2 = .free → ∃ c, X.env.cells.lookup y.1 = some c)
    (fin : ∀ (f c' : Addr) (pm ctv : Value) (H1 : Hp) (s' : Shared), Inv X pins σ H1 s' → TabStep T (X.env.qual ++ "<lambda>") c' H H1 →
      s'.heap.get? f = some (PySem.W.kla_obj "<lambda>" (X.env.qual ++ "<lambda>") pr body sc (cloFrom X.env.cells sc.names []) pm c' ctv) → H1 f = none → f ∉ frs X.stack → Q (.ref f) s') :
    wpAny (model X.prog X.w) X.A (eval (.Lambda pr body sc pos) X.env) Q E s := by
  obtain ⟨ps, eP, ok3, among⟩ := hT _ hm
  have gP : s.heap.get? P = some { cls := .none, data := .fields ps } := I.hok P _ eP
  have off : ∀ f, s.heap.objs.size ≤ f → f ∉ frs X.stack := fun f hf z => by
    rcases List.mem_cons.mp (I.stkSub _ z) with e | e
    · have q := I.lt
      rw [← e] at q
      exact absurd (Nat.lt_of_lt_of_le q hf) (Nat.lt_irrefl _)
    · exact I.nofs hf e
  refine PySem.W.kla_eval hd0 ?_
  cases ec : codeAmong pos ps.toList with
  | some cv =>
    obtain ⟨c', rfl, hco⟩ := among pos cv ec
    refine PySem.W.kla_makeFunctionHit (mg := X.mg) (c := c) (P := P) (ps := ps) (closure_ok hfr) I.ok.glob (I.mod.glob.keeps I.bk) hc0 (TB.code.keeps I.bk) gP ok3 ec (TB.bm.keeps I.bk) fun ctv h' tk hx hsz => ?_
    exact fin h'.objs.size c' ((X.mg "__name__").getD .none) ctv H _ (I.kept fun b o e => Heap.get?_push_of_some _ (hx b o e)) ⟨hT, hco, .inl rfl⟩ (Heap.get?_push_size _ rfl) (I.hok.fresh hsz) (off _ hsz)
  | none =>
    refine PySem.W.kla_makeFunction (mg := X.mg) (c := c) (P := P) (ps := ps) (closure_ok hfr) I.ok.glob (I.mod.glob.keeps I.bk) hc0 (TB.code.keeps I.bk) gP ok3 ec TB.gP (TB.bm.keeps I.bk) fun c' ctv h' tk hx hge hlt hrec htb => ?_
    obtain ⟨c2, oc, vs, t, e2, hoc, hd, hv⟩ := hrec
    cases e2
    have nC : H c' = none := I.hok.fresh hge
    have nPc : P ≠ c' := ne_of_none eP nC
    have J := inv_table (t' := tk) (more := #[rawInt pos.line, rawInt pos.col, .ref c']) (h' := h'.push (PySem.W.kla_obj "<lambda>" (X.env.qual ++ "<lambda>") pr body sc (cloFrom X.env.cells sc.names []) ((X.mg "__name__").getD .none) c' ctv)) I eP
      (fun b o hb e => Heap.get?_push_of_some _ (hx b o hb e)) (Heap.get?_push_of_some _ htb) hge ⟨oc, vs, t, Heap.get?_push_of_some _ hoc, hd, hv⟩
    have up : ∀ b o, H b = some o → (∀ qs, o ≠ .tbl qs) → upd (upd H P (.tbl (ps ++ #[rawInt pos.line, rawInt pos.col, .ref c']))) c' (CodeO c' (X.env.qual ++ "<lambda>")) b = some o := fun b o e n => by
      have b1 : b ≠ c' := ne_of_none e nC
      have b2 : b ≠ P := fun z => by rw [z, eP] at e; exact n ps (Option.some.inj e).symm
      rw [upd_ne b1, upd_ne b2]; exact e
    have lst : (ps ++ #[rawInt pos.line, rawInt pos.col, .ref c']).toList = ps.toList ++ [rawInt pos.line, rawInt pos.col, .ref c'] := by simp
    have sz : s.heap.objs.size ≤ h'.objs.size := by omega
    have T1 : Tabs T (upd (upd H P (.tbl (ps ++ #[rawInt pos.line, rawInt pos.col, .ref c']))) c' (CodeO c' (X.env.qual ++ "<lambda>"))) := fun p hp => by
      by_cases hb : p.1 = P
      · rw [huq p hp hb, hb]
        refine ⟨_, (upd_ne nPc).trans upd_same, by rw [lst]; exact PySem.TriplesOk_snoc _ _ _ _ ok3, fun p' cv hcv => ?_⟩
        rw [lst] at hcv
        rcases among_app _ ok3 hcv with z | z
        · obtain ⟨c0, q1, q2⟩ := among p' cv z
          exact ⟨c0, q1, up _ _ q2 codeO_ne⟩
        · exact ⟨c', z, upd_same⟩
      · obtain ⟨qs, a1, a2, a3⟩ := hT p hp
        refine ⟨qs, by rw [upd_ne (ne_of_none a1 nC), upd_ne hb]; exact a1, a2, fun p' cv hcv => ?_⟩
        obtain ⟨c0, q1, q2⟩ := a3 p' cv hcv
        exact ⟨c0, q1, up _ _ q2 codeO_ne⟩
    refine fin h'.objs.size c' ((X.mg "__name__").getD .none) ctv _ _ J ⟨T1, upd_same, .inr ⟨P, ps, _, eP, nC, rfl⟩⟩ (Heap.get?_push_size _ rfl) ?_ (off _ sz)
    rw [upd_ne (Nat.ne_of_gt hlt), upd_ne (Nat.ne_of_gt (Nat.lt_of_lt_of_le (Heap.lt_size gP) sz))]
    exact I.hok.fresh sz

/-! ### the body of the lambda -/
abbrev lamN (X : Cx) (A : Around) (out : List Env) (s : Shared) (H : Hp) (E : XK) (sc : Scope) (f c : Addr) : Cx :=
  (lamCx X A out s H E sc f c).tr [] fun e s' => wpAny (model X.prog X.w) (A.deeper (lamEnv X sc s.heap.objs.size f c)) (leaving (lamEnv X sc s.heap.objs.size f c) e) (fun _ z => L2N.CX X.prog X.w out H s E e z) (fun e' z => L2N.CX X.prog X.w out H s E e' z) s'
theorem tk_lam {A : Around} {out : List Env} {E : XK} {sc : Scope} {f c : Addr} : L2N.Takes (lamN X A out s H E sc f c) (fun c d _ H => E c d H) := L2N.takes_of rfl rfl rfl rfl
theorem ps_lam {A : Around} {out : List Env} {E : XK} {sc : Scope} {f c : Addr} : Ps (lamN X A out s H E sc f c) E := L2N.passes_call tk_lam fun _ _ _ _ h => h
/-- x(), x the lambda: Z is the context in which it is called -/
theorem pe_actN {CXg : CXT} {Eg : XK} {Ng : List Str} {qg : Str} {sg : Scope} {g f c' : Addr} {cdg pm ctv : Value} {pr : Arguments} {body : Expr} {sc : Scope} {k i : Nat} {a : Str} {pn : List (Addr × Obj)} {xe : Value → Shared → Prop} {W : WX} {E : XK} {tb : TE} {p1 p2 : Pos}
    (I : Inv X pins σ H s) (L : LamS X.env.scope sc) (hg0 : X.A.guards = some []) (hf : s.heap.get? f = some (PySem.W.kla_obj "<lambda>" (X.env.qual ++ "<lambda>") pr body sc (cloFrom X.env.cells sc.names []) pm c' ctv)) (nf : H f = none) (nfr : f ∉ frs X.stack)
    (hb : bindArgs (PySem.W.kla_fn "<lambda>" (X.env.qual ++ "<lambda>") pr body sc (cloFrom X.env.cells sc.names []) pm (.ref c') ctv) ⟨[], []⟩ = pure [])
    (tk : L2N.Takes ((cxOf CXg X.prog X.w X.K X.mg X.base Ng qg sg g cdg X.A X.stack s H Eg).nox.tr pn xe) W) (hW : ∀ cls d σ' H', E cls d H' → W cls d σ' H') (hr : Room (k + 1) (X.A.deeper (envOfC qg sg s.heap.objs.size g cdg)))
    (hbody : ∀ (A : Around) (out : List Env) (s : Shared) (H : Hp), A.guards = some [] → Room k (A.deeper (lamEnv X sc s.heap.objs.size f c')) → PE (lamN X A out s H E sc f c') body tb)
    (hN : Ng[i]? = some a) (hv : Vis sg a) (hd : (a == ("__debug__" : Str)) = false := by decide) (hcd : (a == ("__classdict__" : Str)) = false := by decide) :
    PE ((cxOf CXg X.prog X.w X.K X.mg X.base Ng qg sg g cdg X.A X.stack s H Eg).nox.tr pn xe) (.Call (.Name a p1) [] [] p2)
      (fun σZ HZ Q => σZ[i]? = some (some (.ref f)) ∧ HZ c' = some (CodeO c' (X.env.qual ++ "<lambda>")) ∧ tb σ HZ Q) := by
  constructor
  rintro pinsZ sZ σZ HZ Q IZ ⟨hs, hc, ht⟩
  refine wpAny_Call_Name_kw (thn ((pe_var (pos := p1) (i := i) hN hv hd hcd).run pinsZ sZ σZ HZ (fun v H1 => v = .ref f ∧ H1 = HZ) IZ ⟨.ref f, hs, rfl, rfl⟩) ?_)
  rintro u s1 ⟨v, H1, I1, r1, rfl, rfl⟩
  obtain rfl : u = Value.ref f := r1
  have at1 := I1.base.keep f _ hf nf nfr (fun z => nomatch (show f ∈ ([] : List Addr) from z))
  refine PySem.W.callWith_F0 ⟨_, _, _, _, at1⟩ ?_
  obtain ⟨⟨oc, vs, t, hoc, hdc, hvc⟩, _, _⟩ := I1.hok c' _ hc
  have hx : Passes (L2N.CX X.prog X.w) ((cxOf CXg X.prog X.w X.K X.mg X.base Ng qg sg g cdg X.A X.stack s H Eg).nox.tr pn xe) E := L2N.passes_call tk hW
  have run : codeAny (model X.prog X.w) (X.A.deeper (envOfC qg sg s.heap.objs.size g cdg)) (.call (.ref f) ⟨[], []⟩) (CR (L2N.CX X.prog X.w) (envOfC qg sg s.heap.objs.size g cdg :: X.stack) X.prog X.w H1 s1 Q E) s1 := by
    refine PySem.W.kla_callFunE hr.depth at1 rfl L.co L.gen rfl ⟨c', oc, vs, t, rfl, hoc, hdc, hvc⟩ ?_
    rw [hb]
    refine wpAny_pure (wpAny_newFunctionEnv (fun y hy => (L.own y hy).2) (fun y hy => absurd hy (by simp)) (fun h₁ hns hsb => ⟨I1.nolimit.fresh _ hsb, ?_⟩) L.kind)
    have kp : ∀ b o, s1.heap.get? b = some o → h₁.get? b = some o := fun b o e => hsb.extBut b o (Nat.ne_of_lt (Heap.lt_size e)) (Heap.get?_push_of_some _ e)
    have J := (lam_start2 (A := X.A.deeper (envOfC qg sg s.heap.objs.size g cdg)) (outer := envOfC qg sg s.heap.objs.size g cdg :: X.stack) (E := E) (f := f) (c' := c') (tk := s1.toks + ([] : List (Str × Value)).length) I L I1.env0 hr.hd I1.base hns kp).toTry fun e s' => wpAny (model X.prog X.w) ((X.A.deeper (envOfC qg sg s.heap.objs.size g cdg)).deeper (lamEnv X sc s1.heap.objs.size f c')) (leaving (lamEnv X sc s1.heap.objs.size f c') e) (fun _ z => L2N.CX X.prog X.w (envOfC qg sg s.heap.objs.size g cdg :: X.stack) H1 s1 E e z) (fun e' z => L2N.CX X.prog X.w (envOfC qg sg s.heap.objs.size g cdg :: X.stack) H1 s1 E e' z) s'
    refine PySem.W.kla_codeExpr (wpAny_mono ((hbody (X.A.deeper (envOfC qg sg s.heap.objs.size g cdg)) _ s1 H1 hg0 (hr.deeper _)).run [] _ _ H1 Q J ht) ?_ (fun e s' hq => hq))
    rintro v s' ⟨w', H', J', rv, q⟩
    exact ⟨w', H', J'.os, J'.bare, J'.base, J'.hok, rv, q⟩
  refine wpAny_call (codeAny_mono run fun r s' hq => ?_)
  match r, hq with
  | .error e, hq => exact hx pinsZ σZ H1 s1 e s' I1 hq
  | .ok (.ret u), hq => exact I1.after hq
  | .ok .next, hq => exact False.elim hq
  | .ok .brk, hq => exact False.elim hq
  | .ok .cont, hq => exact False.elim hq
end
end Z

/-! Z, part 18: the word of a refusal, told within an except suite. -/
namespace Z
open PySem PySem.Spec PyProof.Rows L2 LamX

/-- the refusals, in the order in which their words stand -/
def refs : List Str := ["NoRule", "NoSack", "NoRights", "NoSpeeds", "NoWater", "NoMoment", "NoBook", "NoNumber", "NoWeights", "NoHouses", "NoDeed", "NoText", "NoWord", "TooMuch", "TooMany"]
def refW : List Str := ["rule", "sack", "rights", "speeds", "water", "moment", "book", "number", "weights", "houses", "deed", "text", "word", "much", "many"]
def bang : Str := "! "
def wordOf (c : Str) : Option Str := match refs.findIdx? (fun x => x == c) with
  | some i => (refW[i]?).map fun w => bang ++ w
  | none => none
def Ext (H H' : Hp) : Prop := ∀ b o, H b = some o → H' b = some o
theorem Ext.refl (H : Hp) : Ext H H := fun _ _ h => h
theorem Ext.trans {H H1 H2 : Hp} (a : Ext H H1) (b : Ext H1 H2) : Ext H H2 := fun c o h => b c o (a c o h)
theorem Ext.new {H : Hp} {p : Addr} {o : HO} (h : H p = none) : Ext H (upd H p o) := fun b u e => by rw [upd_ne (ne_of_none e h)]; exact e
theorem Ok.ext {C : Ctx} {g : G} {M : Store} {H H' : Hp} (k : Ok C g M H) (e : Ext H H') : Ok C g M H' ∧ Step g H g H' := by
  refine ⟨⟨fun b u hb => e _ _ (k.ex _ _ hb), k.len, k.nd, k.sep, fun n a nd h1 h2 => ?_, k.tabs.ext e, k.nt⟩, ⟨⟨[], by simp⟩, Same.refl _, fun b o _ _ h => e _ _ h, fun b h => ?_, fun b h => .inl h, fun b o h => .inl h⟩⟩
  · have := k.node n a nd h1 h2
    cases nd with
    | lst xs => obtain ⟨vs, h1, h2⟩ := this; exact ⟨vs, e _ _ h1, h2⟩
    | tup xs => obtain ⟨vs, h1, h2⟩ := this; exact ⟨vs, rdMono e h1, h2⟩
    | dic xs => obtain ⟨vs, h1, h2⟩ := this; exact ⟨vs, e _ _ h1, h2⟩
    | obj c xs => obtain ⟨A, dx, vf, h1, h2, h3⟩ := this; exact ⟨A, dx, vf, e _ _ h1, h2, h3⟩
    | dead => exact this
  · cases q : H b with
    | none => rfl
    | some o => rw [e _ _ q] at h; cases h

/-! ### a def that is called with the exception in hand -/
structure WZ (P : Program) (w : World) (K : PySem.W.Frag) (mg : Str → Option Value) (base : Heap) (k : Nat) (f : Addr) (fd : FuncData) : Prop where
  go : ∀ (A : Around) (out : List Env) (s : Shared) (H : Hp) (p : Addr × Obj) (D : Addr) (c wd : Str) (Q : VK), L2H.RoomH k A → L2H.Hot1 A p → L2H.PinOk out H s p → Env0 P w K mg base A out s H → L2N.Zn (.ref D) none p.2 → mg c = some (.ref D) → wordOf c = some wd →
    (∀ H', Ext H H' → Q (.str wd) H') → BindsTo s fd ⟨[.ref p.1], []⟩ [("_law_e", .ref p.1)] → codeAny (model P w) A (.call (.ref f) ⟨[.ref p.1], []⟩) (CR C8.CX0 out P w H s Q C8.E0) s
section
variable {P : Program} {w : World} {K : PySem.W.Frag} {mg : Str → Option Value} {base : Heap}
theorem wz_of {x qual : Str} {st : Stmt} {f : Addr} {fd : FuncData} {N : List Str} {k : Nat} (F : Fun K x qual st f fd) (S : FnScope N ["_law_e"] (defScope st))
    (body : ∀ (cd : Value) (A : Around) (out : List Env) (s : Shared) (H : Hp) (p : Addr × Obj) (D : Addr) (c wd : Str) (Q : VK), L2H.Hot1 A p → L2H.RoomH k (A.deeper (envOfC qual (defScope st) s.heap.objs.size f cd)) → L2N.Zn (.ref D) none p.2 → mg c = some (.ref D) → wordOf c = some wd →
      (∀ H', Ext H H' → Q (.str wd) H') → ∃ t, PSs (L2H.cxH C8.CX0 P w K mg base N qual (defScope st) f cd A out s H C8.E0 p) (defBody st) t ∧ t { nx := fun _ H' => Q .non H', rt := Q } (L2.start N [.ref p.1]) H) : WZ P w K mg base (k + 1) f fd := by
  obtain ⟨oc, od, kV, doc, pm, an, cd, ct, osl, e, look, code⟩ := F.ex
  subst e
  constructor
  intro A out s H p D c wd Q room hot pin en z hm hw hQ bd
  have old : ∀ b o, base.get? b = some o → s.heap.get? b = some o := fun b o q => (en.bs b o q).1
  have kx := en.mod.kin.keeps old
  have kinds : ∀ y ∈ (["_law_e"] : List Str).zip [Value.ref p.1], (defScope st).names.lookup y.1 = some .local ∨ ((defScope st).names.lookup y.1 = some .cell ∧ ((cellsFrom (s.heap.objs.size + 1) (defScope st).names []).lookup y.1).isSome = true) := by
    rintro ⟨n, v⟩ hy
    rcases S.par n (List.of_mem_zip hy).1 with q | q
    · left; exact q
    · right; exact ⟨q, PySem.W.cellsFrom_some _ _ _ (.inl q)⟩
  refine codeAny_call_function room.depth (kx _ _ look) rfl S.co S.gen rfl (PySem.W.codeRec_of kx code) (bd _ _ _ _ ?_)
  refine wpAny_newFunctionEnv_cells (binds := (["_law_e"] : List Str).zip [Value.ref p.1]) S.kind kinds fun env ee s1 xx => ?_
  subst ee
  refine ⟨(en.mod.nolimit.keeps old).keeps xx.toInCall.keep, codeAny_func ?_⟩
  obtain ⟨t, ht, hq⟩ := body cd A out s H p D c wd Q hot (room.deeper _) z hm hw hQ
  have J0 := L2H.inv_startH (CX := C8.CX0) (E := C8.E0) (vs := [.ref p.1]) (us := [.ref p.1]) S pin en rfl (.cons rfl .nil) xx
  refine wpAny_mono (ht.run [] s1 _ H _ J0 hq) ?_ (fun _ _ z => z)
  intro fl s' z
  cases fl with
  | ret u => obtain ⟨v, _, H', J, r, q⟩ := z; exact ⟨v, H', J.os, J.bare, J.base, J.hok, r, q⟩
  | next => obtain ⟨_, H', J, q⟩ := z; exact ⟨.non, H', J.os, J.bare, J.base, J.hok, rfl, q⟩
  | brk => obtain ⟨_, _, _, q⟩ := z; exact q.elim
  | cont => obtain ⟨_, _, _, q⟩ := z; exact q.elim
end

/-! ### what is known of the classes -/
structure ErrK (K : PySem.W.Frag) (mg : Str → Option Value) : Prop where
  at_ : ∀ (i : Nat) (c : Str), refs[i]? = some c → ∃ A, mg c = some (.ref A) ∧ ExcC K A ∧ PySem.W.kitOne K (.ref A) (.type "ValueError") = some true ∧
    (∀ (j : Nat) (c' : Str), refs[j]? = some c' → ∃ A', mg c' = some (.ref A') ∧ PySem.W.keepIn K (.ref A') = true ∧ PySem.W.kitOne K (.ref A) (.ref A') = some (decide (j = i)))
  mill : ∃ B, mg "MillError" = some (.ref B) ∧ ∀ (i : Nat) (c : Str), refs[i]? = some c → ∃ A, mg c = some (.ref A) ∧ PySem.W.exmOne K (.ref A) (.ref B) = some true
theorem word_at {c wd : Str} (h : wordOf c = some wd) : ∃ (i : Nat) (w : Str), refs[i]? = some c ∧ refW[i]? = some w ∧ wd = bang ++ w := by
  unfold wordOf at h
  cases e : refs.findIdx? (fun x => x == c) with
  | none => rw [e] at h; cases h
  | some i =>
    rw [e] at h
    simp only [Option.map_eq_some_iff] at h
    obtain ⟨w, h1, h2⟩ := h
    obtain ⟨hlt, h3, _⟩ := List.findIdx?_eq_some_iff_getElem.mp e
    exact ⟨i, w, by rw [List.getElem?_eq_getElem hlt, eq_of_beq h3], h1, h2.symm⟩

/-! ### isinstance of the exception in hand -/
section
variable {X : Cx}
theorem call_isP {a D : Addr} {oe : Obj} (C : ExcC X.K D) (hz : L2N.Zn (.ref D) none oe) (hf : ∃ vs, oe.data = .fields vs) (hp : (a, oe) ∈ X.pn) : CallR X (.builtin "isinstance") (rIsE X.K D a) := by
  rintro pins s σ H xs us Q I r ⟨c, cv, b, rfl, hcv, e, q⟩
  cases r with
  | cons rx rr =>
    cases rr with
    | cons rt rn =>
    cases rn
    cases rx
    cases hcv _ rt
    have got := (I.pin (a, oe) (List.mem_append_left _ hp)).1
    obtain ⟨vs, hv⟩ := hf
    obtain ⟨oc, od, oda, osl⟩ := oe
    obtain ⟨h1, h2, _⟩ := hz
    dsimp only at h1 h2 hv
    subst h1 h2 hv
    exact PySem.W.kia_one (PySem.W.handS_kitx_exc C.hg C.hk C.hs C.hd C.ha C.hn C.ht C.hm) I.kIn ⟨got, rfl, rfl, trivial⟩ e (fun z => nomatch z) fun tk => ⟨.bl b, H, I.kept (t' := tk) fun _ _ z => z, rfl, q⟩
/-- the reading of isinstance(e, C) -/
def tIsP (a : Addr) (b : Bool) : TE := fun σ H Q => σ[0]? = some (some (.ref a)) ∧ Q (.bl b) H
theorem PE.of {e : Expr} {t t' : TE} (h : PE X e t) (i : ∀ σ H Q, t' σ H Q → t σ H Q) : PE X e t' := ⟨fun pins s σ H Q I q => h.run pins s σ H Q I (i _ _ _ q)⟩
theorem pe_isP {a D A : Addr} {oe : Obj} {n x : Str} {b : Bool} {p p2 p3 pos : Pos} (C : ExcC X.K D) (hz : L2N.Zn (.ref D) none oe) (hf : ∃ vs, oe.data = .fields vs) (hp : (a, oe) ∈ X.pn) (hg : Gl X "isinstance") (hm : X.mg "isinstance" = none) (he : PE X (.Name n p2) (tVar 0)) (hgx : Gl X x)
    (hx : X.mg x = some (.ref A)) (hk : PySem.W.kitOne X.K (.ref D) (.ref A) = some b) (hd : (x == ("__debug__" : Str)) = false := by decide) (hs : starEach [.Name n p2, .Name x p3] X.env = (false, eval (.Name n p2) X.env) :: starEach [.Name x p3] X.env := by rfl)
    (hs2 : starEach [.Name x p3] X.env = (false, eval (.Name x p3) X.env) :: starEach [] X.env := by rfl) (hpl : (backTo pos (starEach [.Name x p3] X.env)).any (·.1) = false := by rfl) :
    PE X (.Call (.Name "isinstance" p) [.Name n p2, .Name x p3] [] pos) (tIsP a b) :=
  PE.of (pe_callB (call_isP C hz hf hp) hg hm bb_isinstance (pa_cons he (pa_cons (pe_glob (v := .ref A) hgx hx rfl hd) pa_nil hs2) hs) (hpl := hpl)) fun σ H Q ⟨h1, h2⟩ => ⟨_, h1, _, .ref A, b, rfl, fun u r => r, hk, h2⟩
theorem pe_isV {a D : Addr} {oe : Obj} {n : Str} {p p2 p3 pos : Pos} (C : ExcC X.K D) (hz : L2N.Zn (.ref D) none oe) (hf : ∃ vs, oe.data = .fields vs) (hp : (a, oe) ∈ X.pn) (hg : Gl X "isinstance") (hm : X.mg "isinstance" = none) (he : PE X (.Name n p2) (tVar 0)) (hgx : Gl X "ValueError")
    (hx : X.mg "ValueError" = none) (hk : PySem.W.kitOne X.K (.ref D) (.type "ValueError") = some true) (hs : starEach [.Name n p2, .Name "ValueError" p3] X.env = (false, eval (.Name n p2) X.env) :: starEach [.Name "ValueError" p3] X.env := by rfl)
    (hs2 : starEach [.Name "ValueError" p3] X.env = (false, eval (.Name "ValueError" p3) X.env) :: starEach [] X.env := by rfl) (hpl : (backTo pos (starEach [.Name "ValueError" p3] X.env)).any (·.1) = false := by rfl) :
    PE X (.Call (.Name "isinstance" p) [.Name n p2, .Name "ValueError" p3] [] pos) (tIsP a true) :=
  PE.of (pe_callB (call_isP C hz hf hp) hg hm bb_isinstance (pa_cons he (pa_cons (pe_bltn (v := .ty "ValueError") hgx hx (by decide +kernel) rfl) pa_nil hs2) hs) (hpl := hpl)) fun σ H Q ⟨h1, h2⟩ => ⟨_, h1, _, .type "ValueError", true, rfl, fun u r => r, hk, h2⟩
end
end Z

/-! Z, part 19: the reading of the refusal's word. -/
namespace Z
open PySem PySem.Spec PyProof.Rows L2 LamX

def tIsL (a : Addr) (i : Nat) : List Nat → TA
  | [] => tNil
  | j :: r => tCons (tIsP a (decide (j = i))) (tIsL a i r)
theorem isL_reads {a : Addr} {i : Nat} {σ : L2.St} {H : Hp} (h : σ[0]? = some (some (.ref a))) : ∀ (l : List Nat) (R : List V → Hp → Prop), R (l.map fun j => V.bl (decide (j = i))) H → tIsL a i l σ H R
  | [], R, q => q
  | j :: r, R, q => ⟨h, isL_reads h r _ q⟩
def tStrL : List Str → TA
  | [] => tNil
  | x :: r => tCons (tC (.str x)) (tStrL r)
theorem strL_reads {σ : L2.St} {H : Hp} : ∀ (l : List Str) (R : List V → Hp → Prop), R (l.map V.str) H → tStrL l σ H R
  | [], R, q => q
  | x :: r, R, q => strL_reads r (fun xs H2 => R (V.str x :: xs) H2) q
def tAsk (a : Addr) (i : Nat) (l : List Nat) : TS := tAsg (tOp rCat (tVar 1) (tLst (tIsL a i l))) (gName 1)
def wdA : List Str := ["rule", "sack", "rights", "speeds", "water", "moment", "book", "number", "weights", "houses", "deed"]
def wdB : List Str := ["text", "word", "much", "many"]
def tWordB (K : PySem.W.Frag) (a : Addr) (i : Nat) : TS :=
  tSeq (tAsg (tLst (tIsL a i [0, 1, 2, 3])) (gName 1))
  (tSeq (tAsk a i [4, 5, 6, 7]) (tSeq (tAsk a i [8, 9, 10, 11]) (tSeq (tAsk a i [12, 13, 14])
  (tSeq (tIfS (tOr (tNot (tB (tIsP a true))) (tTest (tOp (rF2 K fNe) (tBM K "list" (rCntZ K) (tVar 1) (tCons (tC (.bl true)) tNil)) (tC (.int 1))))) (tRet (tC (.str "! none of them"))) tNext)
  (tSeq (tAsg (tLst (tStrL wdA)) (gName 2))
  (tRet (tOp (rF2 K fAddF) (tC (.str bang)) (tOp (rIxL K) (tOp rCat (tVar 2) (tLst (tStrL wdB))) (tBM K "list" (rIdxZ K) (tVar 1) (tCons (tC (.bl true)) tNil))))))))))
theorem asked {a : Addr} {i : Nat} {l : List Nat} {σ : L2.St} {H : Hp} {D : Ends} {q : Addr} {bs : List V} (h0 : σ[0]? = some (some (.ref a))) (h1 : σ[1]? = some (some (.ref q))) (hq : H q = some (.lst bs)) (hb : bs.length ≤ 15) (hl : l.length ≤ 4)
    (k : ∀ q' H', Ext H H' → H' q' = some (.lst (bs ++ l.map fun j => V.bl (decide (j = i)))) → D.nx (σ.set 1 (some (.ref q'))) H') : tAsk a i l D σ H := by
  refine ⟨_, h1, isL_reads h0 l _ ⟨?_, fun p np => ?_⟩⟩
  · rw [List.length_map, sizeLine_eq]; omega
  · refine ⟨q, p, bs, _, rfl, rfl, ?_, upd_same, ?_, fun p2 np2 => ?_⟩
    · rw [upd_ne (ne_of_none hq np)]; exact hq
    · rw [List.length_map, sizeLine_eq]; omega
    · exact k p2 _ ((Ext.new np).trans (Ext.new np2)) upd_same
theorem bits_facts : ∀ i, i < 15 → (((List.range 15).map fun j => PyData.bool (decide (j = i))).countP fun z => PyData.eqv z (.bool true)) = 1 ∧ ((List.range 15).map fun j => PyData.bool (decide (j = i))).findIdx? (fun z => PyData.eqv z (.bool true)) = some i := by decide
theorem bits_ok : ∀ i, i < 15 → okIn (.bool true) ((List.range 15).map fun j => PyData.bool (decide (j = i))) = true := by decide
theorem word_reads {K : PySem.W.Frag} {a : Addr} {i : Nat} {c w : Str} {H : Hp} {D : Ends} (hc : refs[i]? = some c) (hw : refW[i]? = some w) (k : ∀ H', Ext H H' → D.rt (.str (bang ++ w)) H') : tWordB K a i D (L2.start ["_law_e", "_law_kinds", "_law_words"] [.ref a]) H := by
  have hi : i < 15 := (List.getElem?_eq_some_iff.mp hc).1
  have st0 : L2.start ["_law_e", "_law_kinds", "_law_words"] [.ref a] = [some (.ref a), none, none] := rfl
  rw [st0]
  refine isL_reads rfl _ _ ⟨by rw [sizeLine_eq]; simp, fun q1 n1 => ?_⟩
  refine asked (q := q1) rfl rfl upd_same (by simp) (by decide) fun q2 H2 e2 s2 => ?_
  refine asked (q := q2) rfl rfl s2 (by simp) (by decide) fun q3 H3 e3 s3 => ?_
  refine asked (q := q3) rfl rfl s3 (by simp) (by decide) fun q4 H4 e4 s4 => ?_
  have lst : ((([0, 1, 2, 3].map fun j => V.bl (decide (j = i))) ++ [4, 5, 6, 7].map fun j => V.bl (decide (j = i))) ++ [8, 9, 10, 11].map fun j => V.bl (decide (j = i))) ++ [12, 13, 14].map (fun j => V.bl (decide (j = i))) = (List.range 15).map fun j => V.bl (decide (j = i)) := by rfl
  rw [lst] at s4
  have rp : ∀ {H' : Hp}, Ext H4 H' → Rp K H' (.ref q4) (.list ((List.range 15).map fun j => PyData.bool (decide (j = i)))) := fun {H'} e => by
    refine .lst (e _ _ s4) ?_
    generalize List.range 15 = l
    induction l with
    | nil => exact .nil
    | cons x r ih => exact .cons (.bl _) ih
  obtain ⟨f1, f2⟩ := bits_facts i hi
  refine ⟨rfl, true, rfl, ?_⟩
  refine ⟨_, rfl, .inl ⟨rfl, _, SqL.of s4⟩, ⟨_, q4, _, .bool true, rfl, rfl, rp (Ext.refl _), .bl true, bits_ok i hi, ?_⟩⟩
  rw [f1]
  refine ⟨.int 1, .int 1, .bool false, .bl false, .int _, .int _, by simp, rfl, false, rfl, ?_⟩
  refine strL_reads _ _ ⟨by rw [sizeLine_eq]; decide, fun q5 n5 => ?_⟩
  refine ⟨_, rfl, strL_reads _ _ ⟨by rw [sizeLine_eq]; decide, fun q6 n6 => ?_⟩⟩
  have n56 : q5 ≠ q6 := ne_of_none upd_same n6
  refine ⟨q5, q6, _, _, rfl, rfl, (upd_ne n56).trans upd_same, upd_same, by rw [sizeLine_eq]; decide, fun q7 n7 => ?_⟩
  have e7 : Ext H4 (upd (upd (upd H4 q5 (.lst (wdA.map V.str))) q6 (.lst (wdB.map V.str))) q7 (.lst (wdA.map V.str ++ wdB.map V.str))) :=
    ((Ext.new n5).trans (Ext.new n6)).trans (Ext.new n7)
  refine ⟨_, rfl, .inl ⟨rfl, _, SqL.of (e7 _ _ s4)⟩, ⟨_, q4, _, .bool true, i, rfl, rfl, rp e7, .bl true, bits_ok i hi, by simp, f2, ?_⟩⟩
  refine ⟨q7, _, (i : Int), .str w, rfl, rfl, SqL.of upd_same, ?_, ?_⟩
  · have : wdA.map V.str ++ wdB.map V.str = refW.map V.str := rfl
    rw [this, atI_nat _ i (by rw [List.length_map]; exact hi)]
    simp only [List.getElem_map]
    rw [(List.getElem?_eq_some_iff.mp hw).2]
  · have wl : w.length ≤ 10 := by
      have : ∀ i, i < 15 → ∀ w, refW[i]? = some w → w.length ≤ 10 := by decide
      exact this i hi w hw
    refine ⟨.str bang, .str w, .str (bang ++ w), .str (bang ++ w), .str _, .str _, ?_, rfl, ?_⟩
    · have b2 : bang.length = 2 := rfl
      simp only [fAddF]
      rw [if_pos (by rw [sizeLine_eq]; omega)]
    · exact k _ ((((((Ext.new n1).trans e2).trans e3).trans e4).trans e7))
end Z

/-! Z, part 20: what a call tells, or the word of its refusal. -/
namespace Z
open PySem PySem.Spec PyProof.Rows L2 LamX

/-- what is known of the def that tells it -/
structure SaidK (K : PySem.W.Frag) (mg : Str → Option Value) : Prop where
  ex : ∃ (g : Addr) (fd : FuncData) (st : Stmt), mg "_law_said" = some (.ref g) ∧ Fun K "_law_said" "_law_said" st g fd ∧ Binds K fd ["_law_call"] [] ∧ FnScope ["_law_call", "_law_e"] ["_law_call"] (defScope st) ∧ Vis (defScope st) "_law_call" ∧ Vis (defScope st) "_law_e" ∧
    (defScope st).names.lookup ("_law_e" : Str) = some .local ∧ (defScope st).names.lookup ("repr" : Str) = some .globalImplicit ∧ (defScope st).names.lookup ("MillError" : Str) = some .globalImplicit ∧ (defScope st).names.lookup ("_law_word" : Str) = some .globalImplicit ∧
    ∃ p1 p2 p3 p4 p5 p6 p7 p8 p9 p10 p11 p12 : Pos, defBody st = [.Try [.Return (some (.Call (.Name "repr" p1) [.Call (.Name "_law_call" p2) [] [] p3] [] p4)) p5]
      [.ExceptHandler (some (.Name "MillError" p6)) (some "_law_e") [.Return (some (.Call (.Name "_law_word" p7) [.Name "_law_e" p8] [] p9)) p10] p11] [] [] p12]
/-- the def that is called there -/
structure WordZ (P : Program) (w : World) (K : PySem.W.Frag) (mg : Str → Option Value) (base : Heap) (k : Nat) : Prop where
  ex : ∃ (f : Addr) (fd : FuncData), mg "_law_word" = some (.ref f) ∧ PySem.W.keepIn K (.ref f) = true ∧ Binds K fd ["_law_e"] [] ∧ WZ P w K mg base k f fd
def ESaid (mg : Str → Option Value) (Q : VK) : XK := fun cls d H' => ∃ c A wd, cls = .ref A ∧ d = none ∧ mg c = some (.ref A) ∧ wordOf c = some wd ∧ ∀ H2, Ext H' H2 → Q (.str wd) H2
def tSaid (K : PySem.W.Frag) (mg : Str → Option Value) (T : List (Addr × Str)) (q : Str) (t : XK → TE) : TE := fun σ H Q => Tabs T H ∧ ∀ c' H1, TabStep T q c' H H1 → t (ESaid mg Q) σ H1 fun v H' => rReprZ K [v] H' Q
section
variable {X : Cx}
theorem pe_said {T : List (Addr × Str)} {c P0 : Addr} {k j : Nat} {t : XK → TE} {pr : Arguments} {body : Expr} {sc : Scope} {p lpos pos : Pos} (S : SaidK X.K X.mg) (W : WordZ X.prog X.w X.K X.mg X.base j) (EK : ErrK X.K X.mg) (hgl : Gl X "_law_said") (hm : X.mg "repr" = none) (hg : X.A.guards = some []) (hr : Room (k + 2) X.A) (hj : j ≤ k + 1)
    (m : Mods X.base) (TB : TabB X.base X.mg c P0) (hc0 : X.env.code = .ref c) (hmT : (P0, X.env.qual ++ "<lambda>") ∈ T) (huq : ∀ p ∈ T, p.1 = P0 → p.2 = X.env.qual ++ "<lambda>") (L : LamS X.env.scope sc) (hd0 : defaultsOf pr X.env = ([], []))
    (hb : ∀ (q : Str) (cl : List (Str × Addr)) (pm cv ctv : Value), bindArgs (PySem.W.kla_fn "<lambda>" q pr body sc cl pm cv ctv) ⟨[], []⟩ = pure [])
    (hbody : ∀ (A : Around) (out : List Env) (s : Shared) (H : Hp) (E : XK) (f c' : Addr), A.guards = some [] → Room k (A.deeper (lamEnv X sc s.heap.objs.size f c')) → PE (lamN X A out s H E sc f c') body (t E)) :
    PE X (.Call (.Name "_law_said" p) [.Lambda pr body sc lpos] [] pos) (tSaid X.K X.mg T (X.env.qual ++ "<lambda>") t) := by
  obtain ⟨g, fd, st, mgS, F, bS, scS, vc, ve, vl, gr, gm, gw, p1, p2, p3, p4, p5, p6, p7, p8, p9, p10, p11, p12, hst⟩ := S.ex
  obtain ⟨oc, od, kV, doc, pm0, an, cdv, ct, osl, efd, look, code⟩ := F.ex
  subst efd
  obtain ⟨B, mgB, subB⟩ := EK.mill
  constructor
  rintro pins s σ H Q I ⟨hT, h⟩
  refine wpAny_Call_Name_kw (ld_glob I hgl mgS ?_ (by decide))
  refine PySem.W.callWith_K (h₀ := X.base) I.ok.mod.kin F.kp ?_ (by rfl) (by rfl)
  show wpAny _ _ (spliced ((false, eval (.Lambda pr body sc lpos) X.env) :: backTo pos (starEach [] X.env))) _ _ s
  refine Calls.spliced_cons (make_lam I TB hc0 hmT huq hT hd0 (L.has I.ok) fun f c' pm' ctv H1 s' I1 ts hf nf nfr => ?_)
  refine Calls.spliced_nil ⟨I1.kIn, ?_⟩
  have hq0 := h c' H1 ts
  have run : codeAny (model X.prog X.w) X.A (.call (.ref g) ⟨[.ref f], []⟩) (CR C8.CX0 X.stack X.prog X.w H1 s' Q C8.E0) s' := by
    refine run_ofS (N := ["_law_call", "_law_e"]) (ps := ["_law_call"]) (us := [.ref f]) (vs := [.ref f]) look code scS hr I1.env0 (bS s' [.ref f] I1.kIn rfl) (.cons rfl .nil) rfl fun hr' => ?_
    have gm' : Gl (cxOf C8.CX0 X.prog X.w X.K X.mg X.base ["_law_call", "_law_e"] "_law_said" (defScope st) g cdv X.A X.stack s' H1 C8.E0).nox "MillError" := gm
    rw [hst]
    refine ⟨_, (pss_one (L2N.ps_try_as (X := (cxOf C8.CX0 X.prog X.w X.K X.mg X.base ["_law_call", "_law_e"] "_law_said" (defScope st) g cdv X.A X.stack s' H1 C8.E0).nox) (c := .ref B) (i := 1) (Wout := fun _ _ _ _ => False)
      (tb := fun W D σZ HZ => ∃ Ech : XK, (∀ cls d σ' H', Ech cls d H' → W cls d σ' H') ∧ σZ[0]? = some (some (.ref f)) ∧ HZ c' = some (CodeO c' (X.env.qual ++ "<lambda>")) ∧ t Ech σ HZ fun v H' => rReprZ X.K [v] H' D.rt)
      (ts := fun a cls d D σZ HZ => (∃ σ' : L2.St, σZ = σ'.set 1 (some (.ref a))) ∧ ESaid X.mg D.rt cls d HZ) rfl rfl scS.nd rfl vl ⟨gm', by decide, .inl mgB⟩ (fun _ _ x => ?_) (fun W0 pn xe tk _ => ?_) (fun a oe cls d pn hz hf' => ?_))).nox, ?_⟩
    · obtain ⟨_, _, _, _, _, _, _, _, _, _, _, _, _, _, _, _, z⟩ := x
      exact z.elim
    · constructor
      rintro pinsZ sZ σZ HZ D IZ ⟨Ech, hW, h1, h2, h3⟩
      have act := pe_actN (X := X) (CXg := C8.CX0) (Eg := C8.E0) (Ng := ["_law_call", "_law_e"]) (qg := "_law_said") (sg := defScope st) (g := g) (cdg := cdv) (i := 0) (p1 := p2) (p2 := p3) (a := "_law_call") (E := Ech) I1 L hg hf nf nfr (hb _ _ _ _ _) tk hW hr' (fun A out s H ga ro => hbody A out s H Ech f c' ga ro) rfl vc
      have hu : Hu ((cxOf C8.CX0 X.prog X.w X.K X.mg X.base ["_law_call", "_law_e"] "_law_said" (defScope st) g cdv X.A X.stack s' H1 C8.E0).nox.tr pn xe) := by have := hr'.un; unfold Hu; show (X.A.deeper _).units + 180 < cLine; omega
      have rp := pe_callB (X := (cxOf C8.CX0 X.prog X.w X.K X.mg X.base ["_law_call", "_law_e"] "_law_said" (defScope st) g cdv X.A X.stack s' H1 C8.E0).nox.tr pn xe) (p := p1) (pos := p4) (cb_repr hg hu m) gr hm bb_repr (pa_cons act pa_nil)
      exact (pss_one (ps_ret (pos := p5) rp)).run pinsZ sZ σZ HZ D IZ ⟨h1, h2, h3⟩
    · constructor
      rintro pinsZ sZ σZ HZ D IZ ⟨⟨σ0, h0⟩, c0, A0, wd, rfl, rfl, hmA, hwd, hq1⟩
      obtain ⟨fw, fdw, mgW, kpW, bW, WW⟩ := W.ex
      obtain ⟨vs, hvs⟩ := hf'
      have h1 : σZ[1]? = some (some (.ref a)) := by
        have hl : σZ.length = 2 := IZ.len
        rw [h0] at hl ⊢
        rw [List.length_set] at hl
        exact List.getElem?_set_self (by omega)
      have pe : PE ((cxOf C8.CX0 X.prog X.w X.K X.mg X.base ["_law_call", "_law_e"] "_law_said" (defScope st) g cdv X.A X.stack s' H1 C8.E0).nox.suite a ((a, oe) :: pn)) (.Call (.Name "_law_word" p7) [.Name "_law_e" p8] [] p9)
          (fun σ H Q => σ[1]? = some (some (.ref a)) ∧ ∀ H2, Ext H H2 → Q (.str wd) H2) := by
        constructor
        rintro pinsY sY σY HY QY IY ⟨e1, e2⟩
        refine wpAny_Call_Name_kw (ld_glob IY gw mgW ?_ (by decide))
        refine PySem.W.callWith_K (h₀ := X.base) IY.ok.mod.kin kpW (thn ((pa_cons (pe_var (i := 1) (X := (cxOf C8.CX0 X.prog X.w X.K X.mg X.base ["_law_call", "_law_e"] "_law_said" (defScope st) g cdv X.A X.stack s' H1 C8.E0).nox.suite a ((a, oe) :: pn)) rfl ve) pa_nil).run p9 pinsY sY σY HY (fun vs H2 => vs = [.ref a] ∧ H2 = HY) IY ⟨_, e1, rfl, rfl⟩) ?_) (by rfl) (by rfl)
        rintro us s3 ⟨vs3, H3, I3, r3, rfl, rfl⟩
        refine ⟨I3.kIn, ?_⟩
        obtain ⟨u, rfl, ru⟩ := r3.one
        cases ru
        have bd := bW s3 [.ref a] I3.kIn rfl
        rw [List.append_nil] at bd
        have P1 := I3.pin (a, oe) (List.mem_append_left _ List.mem_cons_self)
        refine wpAny_call (codeAny_mono (WW.go _ _ s3 H3 (a, oe) A0 c0 wd QY (L2H.RoomH.mono (k := k + 1) ⟨hr'.dp, hr'.un⟩ hj) ⟨rfl, vs, hvs, hz.2.2 vs hvs⟩
          ⟨P1.1, P1.2.1, fun hm => (List.mem_cons.mp (I3.stkSub a hm)).elim P1.2.2.1 P1.2.2.2.1, P1.2.2.2.2⟩ I3.env0 hz hmA hwd e2 bd) fun r s4 hq => ?_)
        match r, hq with
        | .error e, hq => exact (show False from hq).elim
        | .ok (.ret u), hq => exact I3.after hq
        | .ok .next, hq => exact False.elim hq
        | .ok .brk, hq => exact False.elim hq
        | .ok .cont, hq => exact False.elim hq
      exact (pss_one (ps_ret (pos := p10) pe)).run pinsZ sZ σZ HZ D IZ ⟨h1, hq1⟩
    · refine ⟨ESaid X.mg Q, fun cls d σ' H' he => ?_, rfl, ts.2.1, hq0⟩
      obtain ⟨c0, A0, wd, rfl, rfl, hmA, hwd, hq1⟩ := he
      obtain ⟨i, wi, hi, _, _⟩ := word_at hwd
      obtain ⟨A1, hA1, hx⟩ := subB i c0 hi
      rw [hmA] at hA1
      cases hA1
      refine ⟨true, hx, fun _ a ha => ⟨⟨σ', rfl⟩, c0, A0, wd, rfl, rfl, hmA, hwd, hq1⟩, fun z => nomatch z⟩
  refine wpAny_call (codeAny_mono run fun r s2 hq => ?_)
  match r, hq with
  | .error e, hq => exact (show False from hq).elim
  | .ok (.ret u), hq => exact I1.after hq
  | .ok .next, hq => exact False.elim hq
  | .ok .brk, hq => exact False.elim hq
  | .ok .cont, hq => exact False.elim hq
end
end Z

/-! Z, part 21: the mirror of a told call; defs that make lambdas; slots forgotten. -/
namespace Z
open PySem PySem.Spec PyProof.Rows L2 LamX

section
variable {C : Ctx} {E : XK} {g g' : G} {H H' H0 H1 : Hp} {M M' : Store} {σ : L2.St} {ρ : Rho}
theorem tab_ok {q : Str} {c' : Addr} (k : Ok C g M H) (ts : TabStep C.T q c' H H1) : Ok C g M H1 ∧ Step g H g H1 := by
  obtain ⟨t1, _, h | ⟨P, ps, ps', eP, nc, rfl⟩⟩ := ts
  · subst h; exact ⟨k, Step.refl _ _⟩
  have nPc : P ≠ c' := ne_of_none eP nc
  have up : ∀ b o, H b = some o → (∀ qs, o ≠ .tbl qs) → upd (upd H P (.tbl ps')) c' (CodeO c' q) b = some o := fun b o e n => by
    have b1 : b ≠ c' := ne_of_none e nc
    have b2 : b ≠ P := fun z => by rw [z, eP] at e; exact n ps (Option.some.inj e).symm
    rw [upd_ne b1, upd_ne b2]; exact e
  refine ⟨⟨fun b u hb => up _ _ (k.ex _ _ hb) fun qs z => k.nt b qs (by rw [hb, z]), k.len, k.nd, k.sep, fun n a nd h1 h2 => ?_, t1, k.nt⟩, ⟨⟨[], by simp⟩, Same.refl _, fun b o _ n h => up _ _ h n, fun b h => ?_, fun b h => .inl h, fun b o h => .inl h⟩⟩
  · have := k.node n a nd h1 h2
    cases nd with
    | lst xs => obtain ⟨vs, h1, h2⟩ := this; exact ⟨vs, up _ _ h1 (fun _ z => by cases z), h2⟩
    | tup xs => obtain ⟨vs, h1, h2⟩ := this; exact ⟨vs, h1.imp (fun z => up _ _ z (fun _ z => by cases z)) fun ⟨ob, z⟩ => ⟨ob, up _ _ z (fun _ z => by cases z)⟩, h2⟩
    | dic xs => obtain ⟨vs, h1, h2⟩ := this; exact ⟨vs, up _ _ h1 (fun _ z => by cases z), h2⟩
    | obj c xs => obtain ⟨A, dx, vf, h1, h2, h3⟩ := this; exact ⟨A, dx, vf, up _ _ h1 (fun _ z => by cases z), h2, h3⟩
    | dead => exact this
  · by_cases b1 : b = c'
    · subst b1; exact nc
    · rw [upd_ne b1] at h
      by_cases b2 : b = P
      · subst b2; rw [upd_same] at h; cases h
      · rw [upd_ne b2] at h; exact h
def saidR (r : Res Val) : Res Val := match r with
  | .ok v M' => lift1 fRepr v M'
  | .exn c M' => match wordOf c with
    | some w => .ok (.d (.str w)) M'
    | none => .stuck
  | .stuck => .stuck
def eSaid (m : Sm Val) : Sm Val := fun ρ M => saidR (m ρ M)
theorem ev_said {t : XK → TE} {m : Sm Val} {q : Str} (hb : ∀ E', EvE C E' (t E') m) : EvE C E (tSaid C.K C.mg C.T q t) (eSaid m) := fun H0 g M H σ ρ Q o r p => by
  refine ⟨o.tabs, fun c' H1 ts => ?_⟩
  obtain ⟨o1, s1⟩ := tab_ok o ts
  refine hb _ H0 g M H1 σ ρ _ o1 (r.step s1) ?_
  have p : Post C E g H (saidR (m ρ M)) (fun x g' _ H' => ∀ v, Rep C g' v x → Q v H') := p
  cases e : m ρ M with
  | stuck => rw [e] at p; exact p
  | exn c M' =>
    rw [e] at p
    simp only [saidR] at p
    cases ew : wordOf c with
    | none => rw [ew] at p; exact p.elim
    | some w =>
      rw [ew] at p
      intro g2 H2 A o2 s2 hA
      refine ⟨c, A, w, rfl, rfl, hA, ew, fun H3 e3 => ?_⟩
      obtain ⟨o3, s3⟩ := o2.ext e3
      exact p g2 H3 o3 ((s1.trans s2).trans s3) _ (.str w)
  | ok v M' =>
    rw [e] at p
    simp only [saidR, lift1] at p
    cases el : load M' v with
    | none => rw [el] at p; exact p.elim
    | some d =>
      rw [el] at p
      simp only [fRepr] at p
      by_cases hok : okR d = true
      · rw [if_pos hok] at p
        intro g2 H2 o2 s2 u ru
        exact ⟨u, d, rfl, (ru.x.load o2 el).rp o2.ex, hok, p g2 H2 o2 (s1.trans s2) _ (.str _)⟩
      · rw [if_neg hok] at p; exact p.elim

@[simp] theorem eSaid_eq (m : Sm Val) : eSaid m ρ M = saidR (m ρ M) := rfl
@[simp] theorem saidR_exn (c : Str) : saidR (.exn c M) = match wordOf c with
    | some w => .ok (.d (.str w)) M
    | none => .stuck := rfl
@[simp] theorem saidR_ok (v : Val) : saidR (.ok v M) = lift1 fRepr v M := rfl
end

/-! ### a def that makes lambdas -/
structure DefL (K : PySem.W.Frag) (mg : Str → Option Value) (x : Str) (st : Stmt) (ps : List Str) (c : Addr) : Prop where
  ex : ∃ (f : Addr) (fd : FuncData), mg x = some (.ref f) ∧ Fun K x x st f fd ∧ Binds K fd ps [] ∧ fd.code = .ref c
theorem DefL.k {K : PySem.W.Frag} {mg : Str → Option Value} {x : Str} {st : Stmt} {ps : List Str} {c : Addr} (d : DefL K mg x st ps c) : DefK K mg x st ps := let ⟨f, fd, a, b, e, _⟩ := d.ex; ⟨f, fd, a, b, e⟩
section
variable {P : Program} {w : World} {K : PySem.W.Frag} {mg : Str → Option Value} {base : Heap} {T : List (Addr × Str)} {x : Str} {st : Stmt} {ps N : List Str} {n k : Nat} {mf : List Val → Store → Res Val} {b : Sm Fl} {c : Addr}
theorem FZ.mkL (d : DefL K mg x st ps c) (S : FnScope N ps (defScope st)) (hn : ps.length = n) (hm : fnM n N.length b = mf)
    (body : ∀ (f : Addr) (A : Around) (out : List Env) (s : Shared) (H : Hp) (E : XK), A.guards = some [] → Room k (A.deeper (envOfC x (defScope st) s.heap.objs.size f (.ref c))) →
      ∃ t, PSs (cxOf (L2N.CX P w) P w K mg base N x (defScope st) f (.ref c) A out s H E) (defBody st) t ∧ EvS ⟨K, mg, T⟩ E t b) : FZ P w K mg base T (k + 1) x n mf := by
  obtain ⟨f, fd, h1, h2, h3, h4⟩ := d.ex
  subst hn hm
  refine ⟨f, fd, ps, h1, h2.kp, h3, fnZC h2 S fun cd A out s H E hcd hg hr => ?_⟩
  rw [h4] at hcd
  subst hcd
  exact body f A out s H E hg hr
end
end Z

/-! Z, part 22: unary minus, small displays of dicts; the law's tables. -/
namespace Z
open PySem PySem.Spec PyProof.Rows L2 LamX

section
variable {C : Ctx} {E : XK} {g g' : G} {H H' H0 H1 : Hp} {M M' : Store} {σ : L2.St} {ρ : Rho} {te tk tv : TE} {m mk mv : Sm Val}
def fNeg : PyData → Option PyData
  | .int i => some (.int (-i))
  | _ => none
@[simp] theorem fNeg_int (i : Int) : fNeg (.int i) = some (.int (-i)) := rfl
def keyOf : PyData → Option Key
  | .int i => some (.inl i)
  | .str x => some (.inr x)
  | _ => none
def dNil : Sm (List (Key × Val)) := fun _ M => .ok [] M
def dOne (mk mv : Sm Val) : Sm (List (Key × Val)) := fun ρ M => (mk ρ M).bind fun x M1 => (mv ρ M1).bind fun y M2 => match x with
  | .d d => match keyOf d with
    | some k => .ok [(k, y)] M2
    | none => .stuck
  | _ => .stuck
def eFrzD (m : Sm (List (Key × Val))) : Sm Val := fun ρ M => (m ρ M).bind frzD
@[simp] theorem eFrzD_eq (m : Sm (List (Key × Val))) : eFrzD m ρ M = (m ρ M).bind frzD := rfl
@[simp] theorem dNil_eq : dNil ρ M = .ok [] M := rfl
@[simp] theorem dOne_eq (a b : Sm Val) : dOne a b ρ M = (a ρ M).bind fun x M1 => (b ρ M1).bind fun y M2 => match x with
  | .d d => match keyOf d with
    | some k => .ok [(k, y)] M2
    | none => .stuck
  | _ => .stuck := rfl
@[simp] theorem frzD_eq (xs : List (Key × Val)) : frzD xs M = match pureKv xs with
  | some ds => .ok (.d (.dict ds)) M
  | none => .stuck := rfl
@[simp] theorem pureKv_nil : pureKv [] = some [] := rfl
@[simp] theorem pureKv_cons (k : Key) (x : PyData) (r : List (Key × Val)) : pureKv ((k, .d x) :: r) = (pureKv r).map ((keyD k, x) :: ·) := rfl
@[simp] theorem keyOf_int (i : Int) : keyOf (.int i) = some (.inl i) := rfl
@[simp] theorem keyOf_str (x : Str) : keyOf (.str x) = some (.inr x) := rfl
end
end Z
namespace Z
open PySem PySem.Spec PyProof.Rows L2 LamX
theorem ob_eq {b : Option Bool} {c : Bool} (h : (b == some c) = true) : b = some c := by
  cases b with
  | none => exact absurd h (by simp)
  | some d => simpa using h
def errB (K : PySem.W.Frag) (As : List Addr) (B : Addr) : Bool :=
  (As.zipIdx.all fun p => PySem.W.kitOne K (.ref p.1) (.type "ValueError") == some true && PySem.W.keepIn K (.ref p.1) && PySem.W.exmOne K (.ref p.1) (.ref B) == some true &&
    As.zipIdx.all fun q => PySem.W.kitOne K (.ref p.1) (.ref q.1) == some (decide (q.2 = p.2)))
theorem errK_of {K : PySem.W.Frag} {mg : Str → Option Value} {As : List Addr} {B : Addr} (hB : mg "MillError" = some (.ref B)) (hA : ∀ (i : Nat) (c : Str) , refs[i]? = some c → ∃ A, As[i]? = some A ∧ mg c = some (.ref A) ∧ ExcC K A) (h : errB K As B = true) : ErrK K mg := by
  simp only [errB, List.all_eq_true, Bool.and_eq_true] at h
  have mem : ∀ {i : Nat} {A : Addr}, As[i]? = some A → (A, i) ∈ As.zipIdx := fun {i A} e => by
    obtain ⟨hl, rfl⟩ := List.getElem?_eq_some_iff.mp e
    exact List.mem_zipIdx_iff_getElem?.mpr (by simpa using e)
  constructor
  · intro i c hc
    obtain ⟨A, e, m, x⟩ := hA i c hc
    obtain ⟨⟨⟨h1, h2⟩, h3⟩, h4⟩ := h _ (mem e)
    refine ⟨A, m, x, ob_eq h1, fun j c' hc' => ?_⟩
    obtain ⟨A', e', m', _⟩ := hA j c' hc'
    obtain ⟨⟨⟨_, k2⟩, _⟩, _⟩ := h _ (mem e')
    exact ⟨A', m', k2, ob_eq (h4 _ (mem e'))⟩
  · refine ⟨B, hB, fun i c hc => ?_⟩
    obtain ⟨A, e, m, _⟩ := hA i c hc
    obtain ⟨⟨⟨_, _⟩, h3⟩, _⟩ := h _ (mem e)
    exact ⟨A, m, ob_eq h3⟩
theorem excC_of {K : PySem.W.Frag} {D : Addr} (hg : PySem.W.findIn K (.ref D) "__getattribute__" = some (some (.builtin "BaseException.__getattribute__"))) (hk : PySem.W.findIn K (.ref D) "__getattr__" = some none) (hs : PySem.W.subIn K (.ref D) (.type "BaseException") = some true)
    (hd : PySem.W.hasDictIn K D = true) (ha : PySem.W.findIn K (.ref D) "__class__" = some (some (.builtin "object.__class__"))) (hn : PySem.W.specialIn K (.builtin "object.__class__") "__get__" = some (some (.builtin "getset_descriptor.__get__"))) (ht : PySem.W.takesIn K (.builtin "object.__class__") = some true)
    (hm : PySem.W.mroIn K D (.type "object") = some true) : ExcC K D := ⟨hg, hk, hs, hd, ha, hn, ht, hm⟩
theorem defL {K : PySem.W.Frag} {mg : Str → Option Value} {h : Heap} {x : Str} {st : Stmt} {ps : List Str} {f c : Addr} {oc : Value} {od an : Option Addr} {osl : Array (Option Value)} {kV doc pm ct : Value} (kx : K.In h) (g : h.Ns mainGlobals mg) (a : PySem.W.nsIn K mainGlobals x = some (some (.ref f)))
    (l : K.lookup f = some ⟨oc, od, .func (PySem.W.fnOf x x (defArgs st) (defBody st) (defScope st) .none kV doc pm an (.ref c) ct), osl⟩) (cc : PySem.W.codeIn K (.ref c) x = true) (k : PySem.W.keepIn K (.ref f) = true)
    (b : ∀ (kV doc pm : Value) (an : Option Addr) (cdv ct : Value) (us : List Value), us.length = ps.length → bindArgs (PySem.W.fnOf x x (defArgs st) (defBody st) (defScope st) .none kV doc pm an cdv ct) ⟨us, []⟩ = pure (ps.zip us)) : DefL K mg x st ps c :=
  ⟨f, _, PySem.W.mg_of kx g a, fun_mk l cc k, (fun_mk l cc k).binds b, rfl⟩
theorem saidK {K : PySem.W.Frag} {mg : Str → Option Value} {st : Stmt} (d : DefK K mg "_law_said" st ["_law_call"]) (sc : FnScope ["_law_call", "_law_e"] ["_law_call"] (defScope st)) (vc : (defScope st).names.lookup ("_law_call" : Str) = some .local) (ve : (defScope st).names.lookup ("_law_e" : Str) = some .local)
    (gr : (defScope st).names.lookup ("repr" : Str) = some .globalImplicit) (gm : (defScope st).names.lookup ("MillError" : Str) = some .globalImplicit) (gw : (defScope st).names.lookup ("_law_word" : Str) = some .globalImplicit)
    (hb : ∃ p1 p2 p3 p4 p5 p6 p7 p8 p9 p10 p11 p12 : Pos, defBody st = [.Try [.Return (some (.Call (.Name "repr" p1) [.Call (.Name "_law_call" p2) [] [] p3] [] p4)) p5]
      [.ExceptHandler (some (.Name "MillError" p6)) (some "_law_e") [.Return (some (.Call (.Name "_law_word" p7) [.Name "_law_e" p8] [] p9)) p10] p11] [] [] p12]) : SaidK K mg := by
  obtain ⟨f, fd, h1, h2, h3⟩ := d.ex
  exact ⟨f, fd, st, h1, h2, h3, sc, .inl vc, .inl ve, ve, gr, gm, gw, hb⟩
end Z

/-! Z, part 23: products with lists and tuples; t[::-1]. -/
namespace Z
open PySem PySem.Spec PyProof.Rows L2

section
variable {prog : Program} {w : World} {A : Around} {E : Value → Shared → Prop} {s : Shared}
end
section
variable {C : Ctx} {E : XK} {g g' : G} {H H' H0 H1 : Hp} {M M' : Store} {σ : L2.St} {ρ : Rho} {te ta tb : TE} {m ma mb : Sm Val} {X : Cx}
def fBack : PyData → Option PyData
  | .tuple ds => some (.tuple ds.reverse)
  | _ => none
def eBack (m : Sm Val) : Sm Val := fun ρ M => (m ρ M).bind (lift1 fBack)
@[simp] theorem eBack_eq (m : Sm Val) : eBack m ρ M = (m ρ M).bind (lift1 fBack) := rfl
@[simp] theorem fBack_t (ds : List PyData) : fBack (.tuple ds) = some (.tuple ds.reverse) := rfl
end
end Z

/-! Z, part 24: methods of lists by reference; sorted(set(..)); defs that call themselves. -/
namespace Z
open PySem PySem.Spec PyProof.Rows L2

section
variable {C : Ctx} {E : XK} {g g' : G} {H H' H0 H1 : Hp} {M M' : Store} {σ : L2.St} {ρ : Rho} {te ta tb : TE} {m ma mb : Sm Val} {tA : TA} {mA : Sm (List Val)} {X : Cx}
def lstAt (M : Store) (y : Val) : Option (Nat × List Val) := match y with
  | .ref n => match M[n]? with
    | some (.lst xs) => some (n, xs)
    | _ => none
  | _ => none
@[simp] theorem lstAt_ref (n : Nat) : lstAt M (.ref n) = match M[n]? with
    | some (.lst xs) => some (n, xs)
    | _ => none := rfl
abbrev LmF := List Val → List Val → Option (Val × List Val)
def eLm (mo : Sm Val) (mA : Sm (List Val)) (f : LmF) : Sm Val := fun ρ M => (mo ρ M).bind fun y M1 => match lstAt M1 y with
  | some _ => (mA ρ M1).bind fun as M2 => match lstAt M2 y with
    | some (n, xs) => match f xs as with
      | some (r, ys) => .ok r (M2.set n (.lst ys))
      | none => .stuck
    | none => .stuck
  | none => .stuck
@[simp] theorem eLm_eq (mo : Sm Val) (mA : Sm (List Val)) (f : LmF) : eLm mo mA f ρ M = (mo ρ M).bind fun y M1 => match lstAt M1 y with
  | some _ => (mA ρ M1).bind fun as M2 => match lstAt M2 y with
    | some (n, xs) => match f xs as with
      | some (r, ys) => .ok r (M2.set n (.lst ys))
      | none => .stuck
    | none => .stuck
  | none => .stuck := rfl
theorem Reps.take {vs : List V} {xs : List Val} (h : Reps C g vs xs) : ∀ k : Nat, Reps C g (vs.take k) (xs.take k) := by
  induction h with
  | nil => intro k; simp; exact .nil
  | cons h1 h2 ih =>
    intro k
    cases k with
    | zero => simp; exact .nil
    | succ k => exact .cons h1 (ih k)
theorem Reps.drop {vs : List V} {xs : List Val} (h : Reps C g vs xs) : ∀ k : Nat, Reps C g (vs.drop k) (xs.drop k) := by
  induction h with
  | nil => intro k; simp; exact .nil
  | cons h1 h2 ih =>
    intro k
    cases k with
    | zero => exact .cons h1 h2
    | succ k => exact ih k
theorem Reps.append {vs us : List V} {xs ys : List Val} (h : Reps C g vs xs) (k : Reps C g us ys) : Reps C g (vs ++ us) (xs ++ ys) := by
  induction h with
  | nil => exact k
  | cons h1 h2 ih => exact .cons h1 ih
/-! count, index of lists of data -/
def eLq (f : List PyData → PyData → Option PyData) (mo mv : Sm Val) : Sm Val := fun ρ M => (mo ρ M).bind fun y M1 => match load M1 y with
  | some (.list _) => (mv ρ M1).bind fun z M2 => match load M2 y, load M2 z with
    | some (.list ds), some d => match f ds d with
      | some r => .ok (.d r) M2
      | none => .stuck
    | _, _ => .stuck
  | _ => .stuck
@[simp] theorem eLq_eq (f : List PyData → PyData → Option PyData) (mo mv : Sm Val) : eLq f mo mv ρ M = (mo ρ M).bind fun y M1 => match load M1 y with
  | some (.list _) => (mv ρ M1).bind fun z M2 => match load M2 y, load M2 z with
    | some (.list ds), some d => match f ds d with
      | some r => .ok (.d r) M2
      | none => .stuck
    | _, _ => .stuck
  | _ => .stuck := rfl
/-! ### sorted(set(t)), t a tuple of whole numbers -/
def insS (x : Int) : List Int → List Int
  | [] => [x]
  | y :: r => if x < y then x :: y :: r else if x = y then y :: r else y :: insS x r
def sortS (ns : List Int) : List Int := ns.foldr insS []
def lSortSet (m : Sm Val) : Sm (List Val) := fun ρ M => (m ρ M).bind fun x M1 => match x with
  | .d (.tuple ds) => match intsD ds with
    | some ns => if ns.length < 60 then .ok ((sortS ns).map fun i => .d (.int i)) M1 else .stuck
    | none => .stuck
  | _ => .stuck
@[simp] theorem lSortSet_eq (m : Sm Val) : lSortSet m ρ M = (m ρ M).bind fun x M1 => match x with
  | .d (.tuple ds) => match intsD ds with
    | some ns => if ns.length < 60 then .ok ((sortS ns).map fun i => .d (.int i)) M1 else .stuck
    | none => .stuck
  | _ => .stuck := rfl
end
/-! ### a def that calls itself -/
section
variable {P : Program} {w : World} {K : PySem.W.Frag} {mg : Str → Option Value} {base : Heap} {T : List (Addr × Str)} {x : Str} {st : Stmt} {ps : List Str} {n k : Nat}
theorem FZ.zero (d : DefK K mg x st ps) (hn : ps.length = n) : FZ P w K mg base T k x n (fun _ _ => .stuck) := by
  subst hn
  refine FZ.mk' d fun f fd F => ⟨fun vs H Q E h => h.1, fun A out s H args us vs Q E hg hr e0 hb rv h => ?_⟩
  obtain ⟨_, g, M, xs, o, r, p⟩ := h
  exact p.elim
theorem FZ.up {mf : List Val → Store → Res Val} {j : Nat} (F : FZ P w K mg base T j x n mf) (h : j ≤ k) : FZ P w K mg base T k x n mf := by
  obtain ⟨f, fd, ps, h1, h2, h3, h4⟩ := F.ex
  exact ⟨f, fd, ps, h1, h2, h3, h4.up h⟩
end
end Z

/-! Z, part 25: a list read backwards; a tuple taken once. -/
namespace Z
open PySem PySem.Spec PyProof.Rows L2
section
variable {X : Cx}
end
section
variable {C : Ctx} {E : XK} {g g' : G} {H H' H0 H1 : Hp} {M M' : Store} {σ : L2.St} {ρ : Rho} {te ta tb : TE} {m ma mb : Sm Val} {X : Cx}
def fBackL : PyData → Option PyData
  | .list ds => some (.list ds.reverse)
  | _ => none
def eBackL (m : Sm Val) : Sm Val := fun ρ M => (m ρ M).bind (lift1 fBackL)
@[simp] theorem eBackL_eq (m : Sm Val) : eBackL m ρ M = (m ρ M).bind (lift1 fBackL) := rfl
@[simp] theorem fBackL_l (ds : List PyData) : fBackL (.list ds) = some (.list ds.reverse) := rfl
end
end Z

/-! Z, part 26: lists of unlike lengths. -/
namespace Z
open PySem PySem.Spec PyProof.Rows L2
section
variable {X : Cx}
end
section
variable {C : Ctx} {E : XK} {g g' : G} {H H' H0 H1 : Hp} {M M' : Store} {σ : L2.St} {ρ : Rho} {te ta tb : TE} {m ma mb : Sm Val} {X : Cx}
end
end Z

/-! Z, part 27: a dict beside a tuple. -/
namespace Z
open PySem PySem.Spec PyProof.Rows L2
section
variable {X : Cx}
end
section
variable {C : Ctx} {E : XK} {g g' : G} {H H' H0 H1 : Hp} {M M' : Store} {σ : L2.St} {ρ : Rho} {te ta tb : TE} {m ma mb : Sm Val} {X : Cx}
end
end Z

/-! Z, part 28: dicts of one's own: get, d[k], d[k] = v, sorted(d). -/
namespace Z
open PySem PySem.Spec PyProof.Rows L2
variable {C : Ctx} {E : XK} {H0 : Hp} {g0 g g' : G} {M M' : Store} {H H' : Hp} {σ : L2.St} {ρ : Rho} {i : Nat}
def valP (kvs : List (Key × PyData)) (k : Key) : Option PyData := (kvs.find? fun kv => decide (kv.1 = k)).map (·.2)
def putP (kvs : List (Key × PyData)) (k : Key) (d : PyData) : List (Key × PyData) :=
  if (kvs.any fun kv => decide (kv.1 = k)) = true then kvs.map (fun kv => if kv.1 = k then (kv.1, d) else kv) else kvs ++ [(k, d)]
theorem valP_pos {p : Key × PyData} {r : List (Key × PyData)} {k : Key} (e : p.1 = k) : valP (p :: r) k = some p.2 := by simp [valP, List.find?_cons, e]
theorem valP_neg {p : Key × PyData} {r : List (Key × PyData)} {k : Key} (e : ¬ p.1 = k) : valP (p :: r) k = valP r k := by simp [valP, List.find?_cons, e]
theorem KvD.val {S : Hp} (k : Key) : ∀ {vs : List (Key × V)} {xs : List (Key × PyData)}, KvD C S vs xs → (valV vs k = none ∧ valP xs k = none) ∨ ∃ v d, valV vs k = some v ∧ valP xs k = some d ∧ Rp C.K S v d
  | _, _, .nil => .inl ⟨rfl, rfl⟩
  | (k1, v) :: vs, (k2, x) :: xs, .cons ⟨h1, h2⟩ t => by
    simp only at h1
    subst h1
    by_cases e : k1 = k
    · exact .inr ⟨v, x, valV_pos e, valP_pos e, h2⟩
    · rw [valV_neg e, valP_neg e]; exact KvD.val k t
theorem KvD.any {S : Hp} (k : Key) : ∀ {vs : List (Key × V)} {xs : List (Key × PyData)}, KvD C S vs xs → (vs.any fun kv => decide (kv.1 = k)) = xs.any fun kv => decide (kv.1 = k)
  | _, _, .nil => rfl
  | (k1, v) :: vs, (k2, x) :: xs, .cons ⟨h1, h2⟩ t => by
    simp only at h1
    subst h1
    simp only [List.any_cons, KvD.any k t]
theorem KvD.len {S : Hp} {vs : List (Key × V)} {xs : List (Key × PyData)} (h : KvD C S vs xs) : vs.length = xs.length := Paired.length h
theorem KvD.keys {S : Hp} : ∀ {vs : List (Key × V)} {xs : List (Key × PyData)}, KvD C S vs xs → vs.map (·.1) = xs.map (·.1)
  | _, _, .nil => rfl
  | (k1, v) :: vs, (k2, x) :: xs, .cons ⟨h1, h2⟩ t => by
    simp only at h1
    subst h1
    simp only [List.map_cons, KvD.keys t]
theorem KvD.snoc {S : Hp} {k : Key} {v : V} {d : PyData} (rv : Rp C.K S v d) : ∀ {vs : List (Key × V)} {xs : List (Key × PyData)}, KvD C S vs xs → KvD C S (vs ++ [(k, v)]) (xs ++ [(k, d)])
  | _, _, .nil => .cons ⟨rfl, rv⟩ .nil
  | _ :: _, _ :: _, .cons h t => .cons h (KvD.snoc rv t)
theorem KvD.repl {S : Hp} {k : Key} {v : V} {d : PyData} (rv : Rp C.K S v d) : ∀ {vs : List (Key × V)} {xs : List (Key × PyData)}, KvD C S vs xs → KvD C S (vs.map fun kv => if kv.1 = k then (kv.1, v) else kv) (xs.map fun kv => if kv.1 = k then (kv.1, d) else kv)
  | _, _, .nil => .nil
  | (k1, w) :: vs, (k2, x) :: xs, .cons ⟨h1, h2⟩ t => by
    simp only at h1
    subst h1
    simp only [List.map_cons]
    by_cases e : k1 = k
    · simp only [if_pos e]; exact .cons ⟨rfl, rv⟩ (KvD.repl rv t)
    · simp only [if_neg e]; exact .cons ⟨rfl, h2⟩ (KvD.repl rv t)
theorem KvD.put {S : Hp} {vs : List (Key × V)} {xs : List (Key × PyData)} (h : KvD C S vs xs) (k : Key) {v : V} {d : PyData} (rv : Rp C.K S v d) : KvD C S (putK vs k v) (putP xs k d) := by
  unfold putK putP
  rw [h.any k]
  split
  · exact KvD.repl rv h
  · exact KvD.snoc rv h
def wOd {α : Type} (ρ : Rho) (i : Nat) (f : List (Key × PyData) → Res α) : Res α := match ρ[i]? with
  | some (some (.od xs)) => f xs
  | _ => .stuck
/-- d.get(k, x) of one's own dict -/
def dgetR (kvs : List (Key × PyData)) (k x : Val) (M : Store) : Res Val := match k, x with
  | .d k, .d x => match keyOf k with
    | some k => .ok (.d ((valP kvs k).getD x)) M
    | none => .stuck
  | _, _ => .stuck
def eDGet (i : Nat) (mk mx : Sm Val) : Sm Val := fun ρ M => wOd ρ i fun kvs => (mk ρ M).bind fun k M1 => (mx ρ M1).bind fun x M2 => dgetR kvs k x M2
/-- d[k] of one's own dict, there -/
def dixR (kvs : List (Key × PyData)) (k : Val) (M : Store) : Res Val := match k with
  | .d k => match keyOf k with
    | some k => match valP kvs k with
      | some x => .ok (.d x) M
      | none => .stuck
    | none => .stuck
  | _ => .stuck
def eDIx (i : Nat) (mk : Sm Val) : Sm Val := fun ρ M => wOd ρ i fun kvs => (mk ρ M).bind fun k M1 => dixR kvs k M1
/-- d[k] = v of one's own dict -/
def dsetR (ρ : Rho) (i : Nat) (kvs : List (Key × PyData)) (k x : Val) (M : Store) : Res Fl := match k, x with
  | .d k, .d x => match keyOf k with
    | some k => if kvs.length < 100000 then .ok (.nx (ρ.set i (some (.od (putP kvs k x))))) M else .stuck
    | none => .stuck
  | _, _ => .stuck
def sDSet (i : Nat) (m mk : Sm Val) : Sm Fl := fun ρ M => wOd ρ i fun kvs => (m ρ M).bind fun x M1 => (mk ρ M1).bind fun k M2 => dsetR ρ i kvs k x M2
/-! sorted(d), d's keys all ints -/
def intKeys : List (Key × PyData) → Option (List Int)
  | [] => some []
  | (.inl i, _) :: r => (intKeys r).map (i :: ·)
  | _ :: _ => none
def sortI (ks : List Int) : List Int := ks.mergeSort fun a b => decide (a ≤ b)
def sortDR (kvs : List (Key × PyData)) (M : Store) : Res (List Val) := match intKeys kvs with
  | some ks => if ks.length < 64 then .ok ((sortI ks).map fun i => .d (.int i)) M else .stuck
  | none => .stuck
def lSortD (i : Nat) : Sm (List Val) := fun ρ M => wOd ρ i fun kvs => sortDR kvs M
section
variable {X : Cx} {o e f i : Expr} {apos cpos pos : Pos} {td ty tx : TE}
end
end Z

/-! Z, part 29: words of texts: find, startswith, split, partition, join, upper. -/
namespace Z
open PySem PySem.Spec PyProof.Rows L2
section
variable {C : Ctx} {E : XK} {H0 : Hp} {g g' : G} {M M' : Store} {H H' : Hp} {σ : L2.St} {ρ : Rho} {i : Nat} {ta tb te : TE} {mo mb m : Sm Val}
def onStr {α : Type} (x : Val) (f : Str → Res α) : Res α := match x with
  | .d (.str a) => f a
  | _ => .stuck
@[simp] theorem onStr_str {α : Type} (a : Str) (f : Str → Res α) : onStr (.d (.str a)) f = f a := rfl
theorem onStr_inv {α : Type} {x : Val} {v : V} {f : Str → Res α} {k : α → G → Store → Hp → Prop} (rv : Rep C g v x) (p : Post C E g H (onStr x f) k) : ∃ a, x = .d (.str a) ∧ v = .str a ∧ Post C E g H (f a) k := by
  unfold onStr at p
  split at p
  · rename_i a
    have rv : Rp C.K g.S v (.str a) := rv
    cases rv
    exact ⟨a, rfl, rfl, p⟩
  · exact p.elim
/-- a method of a text with one text, a flat answer -/
def eT1 (f : Str → Str → Option PyData) (mo mb : Sm Val) : Sm Val := fun ρ M => (mo ρ M).bind fun x M1 => onStr x fun a => (mb ρ M1).bind fun y M2 => onStr y fun b => match f a b with
  | some z => .ok (.d z) M2
  | none => .stuck
def lSplit (mo mb : Sm Val) : Sm (List Val) := fun ρ M => (mo ρ M).bind fun x M1 => onStr x fun a => (mb ρ M1).bind fun y M2 => onStr y fun b =>
  if (b.length == 0) = false ∧ a.length + 2 ≤ sizeLine then .ok ((Txt.split a b).map fun s => .d (.str s)) M2 else .stuck
def partD (a b : Str) : PyData := .tuple [.str (Txt.partition a b).1, .str (Txt.partition a b).2.1, .str (Txt.partition a b).2.2]
def ePart (mo mb : Sm Val) : Sm Val := fun ρ M => (mo ρ M).bind fun x M1 => onStr x fun a => (mb ρ M1).bind fun y M2 => onStr y fun b =>
  if (b.length == 0) = false ∧ a.length ≤ sizeLine then .ok (.d (partD a b)) M2 else .stuck
/-- x.join(a list of texts) -/
def strsD : List PyData → Option (List Str)
  | [] => some []
  | .str a :: r => (strsD r).map (a :: ·)
  | _ :: _ => none
theorem strsD_eq : ∀ {ds : List PyData} {ys : List Str}, strsD ds = some ys → ds = ys.map PyData.str
  | [], ys, h => by simp [strsD] at h; subst h; rfl
  | .str a :: r, ys, h => by
    simp only [strsD, Option.map_eq_some_iff] at h
    obtain ⟨l, hl, rfl⟩ := h
    rw [strsD_eq hl]; rfl
  | .none :: r, ys, h => by simp [strsD] at h
  | .bool _ :: r, ys, h => by simp [strsD] at h
  | .int _ :: r, ys, h => by simp [strsD] at h
  | .list _ :: r, ys, h => by simp [strsD] at h
  | .tuple _ :: r, ys, h => by simp [strsD] at h
  | .dict _ :: r, ys, h => by simp [strsD] at h
@[simp] theorem strsD_map (ys : List Str) : strsD (ys.map PyData.str) = some ys := by
  induction ys with
  | nil => rfl
  | cons y r ih => simp [strsD, ih]
theorem rpAll_strs {K : PySem.W.Frag} {S : Hp} : ∀ {vs : List V} {ys : List Str}, RpAll K S vs (ys.map PyData.str) → vs = ys.map V.str
  | vs, [], h => by cases h; rfl
  | vs, y :: r, h => by
    cases h with
    | cons h1 h2 => cases h1; rw [rpAll_strs h2]; rfl
def rJoin (K : PySem.W.Frag) : V → List V → Hp → VK → Prop := fun x xs H Q => ∃ a p, ∃ ys : List Str, x = .str a ∧ xs = [.ref p] ∧ (SqL K H p (ys.map V.str) ∨ SqT K H p (ys.map V.str)) ∧
    (ys.map (·.length)).sum + ys.length * a.length ≤ 16777216 ∧ Q (.str (Txt.join a ys)) H
theorem mt_joinZ {X : Cx} : MtR X "str.join" (rJoin X.K) := mt_join
def joinR (a : Str) (z : Val) (M : Store) : Res Val := match load M z with
  | some (.list ds) => match strsD ds with
    | some ys => if (ys.map (·.length)).sum + ys.length * a.length ≤ 16777216 then .ok (.d (.str (Txt.join a ys))) M else .stuck
    | none => .stuck
  | _ => .stuck
def eJoin (mo ml : Sm Val) : Sm Val := fun ρ M => (mo ρ M).bind fun x M1 => onStr x fun a => (ml ρ M1).bind fun z M2 => joinR a z M2
theorem ev_join {tl : TE} {ml : Sm Val} (ho : EvE C E ta mo) (hl : EvW C E tl ml) : EvE C E (tBM C.K "str" (rJoin C.K) ta (tCons tl tNil)) (eJoin mo ml) := fun H0 g M H σ ρ Q o rs p =>
  ho H0 g M H σ ρ _ o rs (p.bind.imp fun x g1 M1 H1 o1 s1 k1 v rv => by
    obtain ⟨a, rfl, rfl, k1⟩ := onStr_inv rv k1
    refine ⟨rfl, hl H0 g1 M1 H1 σ ρ _ o1 (rs.step s1) (k1.bind.imp fun z g2 M2 H2 o2 s2 k2 u ru => ?_)⟩
    unfold joinR at k2
    split at k2
    · rename_i ds e1
      split at k2
      · rename_i ys e2
        split at k2
        · rename_i hz
          obtain ⟨q, vs, rfl, hq, h1⟩ := RpC.list o2.ex ((ru.here o2).load o2 e1)
          have e3 := strsD_eq e2
          subst e3
          have e4 := rpAll_strs h1
          subst e4
          exact ⟨a, q, ys, rfl, rfl, .inl (SqL.of hq), hz, k2.here o2 _ (.str _)⟩
        · exact k2.elim
      · exact k2.elim
    · exact k2.elim)
/-- a loop over a text's signs -/
def sStr (m : Sm Val) : Sm Src := fun ρ M => (m ρ M).bind fun x M1 => onStr x fun a => .ok (.str a) M1
end
end Z

/-! Z, part 30: instances: their attributes, their methods, how they are made. -/
namespace Z
open PySem PySem.Spec PyProof.Rows L2

/-- a method that may be called -/
structure MZ (P : Program) (w : World) (K : PySem.W.Frag) (mg : Str → Option Value) (base : Heap) (T : List (Addr × Str)) (k : Nat) (c m : Str) (n : Nat) (mf : List Val → Store → Res Val) : Prop where
  ex : ∃ (A f : Addr) (fd : FuncData) (ps : List Str), mg c = some (.ref A) ∧ Cls K A ∧ Meth K A m f ∧ Binds K fd ps [] ∧ FnG P w K mg base k f fd ps (spZ ⟨K, mg, T⟩ n mf)
/-- a class that may be called -/
structure KZ (P : Program) (w : World) (K : PySem.W.Frag) (mg : Str → Option Value) (base : Heap) (T : List (Addr × Str)) (k : Nat) (c : Str) (n : Nat) (mf : List Val → Store → Res Val) : Prop where
  ex : ∃ (A f : Addr) (fd : FuncData) (ps : List Str), mg c = some (.ref A) ∧ Mk K A f ∧ Binds K fd ps [] ∧ FnG P w K mg base k f fd ps (spZ ⟨K, mg, T⟩ n mf)
/-- what is known of a method that stands in a class -/
structure MetK (K : PySem.W.Frag) (mg : Str → Option Value) (c m qual : Str) (st : Stmt) (ps : List Str) : Prop where
  ex : ∃ (A f : Addr) (fd : FuncData), mg c = some (.ref A) ∧ Cls K A ∧ Meth K A m f ∧ Fun K m qual st f fd ∧ Binds K fd ps []
structure MakK (K : PySem.W.Frag) (mg : Str → Option Value) (c qual : Str) (st : Stmt) (ps : List Str) : Prop where
  ex : ∃ (A f : Addr) (fd : FuncData), mg c = some (.ref A) ∧ Mk K A f ∧ Fun K "__init__" qual st f fd ∧ Binds K fd ps []
section
variable {P : Program} {w : World} {K : PySem.W.Frag} {mg : Str → Option Value} {base : Heap} {T : List (Addr × Str)} {c m qual : Str} {st : Stmt} {ps : List Str} {n k : Nat} {mf : List Val → Store → Res Val}
theorem MZ.mk' (d : MetK K mg c m qual st ps) (h : ∀ (f : Addr) (fd : FuncData), Fun K m qual st f fd → FnG P w K mg base k f fd ps (spZ ⟨K, mg, T⟩ n mf)) : MZ P w K mg base T k c m n mf := by
  obtain ⟨A, f, fd, h1, h2, h3, h4, h5⟩ := d.ex
  exact ⟨A, f, fd, ps, h1, h2, h3, h5, h f fd h4⟩
theorem KZ.mk' (d : MakK K mg c qual st ps) (h : ∀ (f : Addr) (fd : FuncData), Fun K "__init__" qual st f fd → FnG P w K mg base k f fd ps (spZ ⟨K, mg, T⟩ n mf)) : KZ P w K mg base T k c n mf := by
  obtain ⟨A, f, fd, h1, h2, h4, h5⟩ := d.ex
  exact ⟨A, f, fd, ps, h1, h2, h5, h f fd h4⟩
end
section
variable {C : Ctx} {E : XK} {g g' g0 : G} {H H' H0 H1 : Hp} {M M' : Store} {σ : L2.St} {ρ : Rho} {te ta tb : TE} {mo m ma mb : Sm Val} {tA : TA} {mA : Sm (List Val)} {c f : Str}
def objAt (M : Store) (c : Str) (y : Val) : Option (Nat × List (Str × Val)) := match y with
  | .ref n => match M[n]? with
    | some (.obj c' fs) => if c' = c then some (n, fs) else none
    | _ => none
  | _ => none
@[simp] theorem objAt_ref (n : Nat) : objAt M c (.ref n) = match M[n]? with
    | some (.obj c' fs) => if c' = c then some (n, fs) else none
    | _ => none := rfl
theorem PReps.len {vf : List (Str × V)} {fs : List (Str × Val)} (h : PReps C g vf fs) : vf.length = fs.length := Paired.length h
/-! o.f -/
def eFld (c f : Str) (mo : Sm Val) : Sm Val := fun ρ M => (mo ρ M).bind fun y M1 => match objAt M1 c y with
  | some (_, fs) => match fs.lookup f with
    | some x => .ok x M1
    | none => .stuck
  | none => .stuck
@[simp] theorem eFld_eq (mo : Sm Val) : eFld c f mo ρ M = (mo ρ M).bind fun y M1 => match objAt M1 c y with
  | some (_, fs) => match fs.lookup f with
    | some x => .ok x M1
    | none => .stuck
  | none => .stuck := rfl
/-! o.f = e -/
def putZ (f : Str) (x : Val) : List (Str × Val) → List (Str × Val)
  | [] => [(f, x)]
  | (g, y) :: r => if g = f then (g, x) :: r else (g, y) :: putZ f x r
def sFldM (c f : Str) (mo m : Sm Val) : Sm Fl := fun ρ M => (m ρ M).bind fun x M1 => (mo ρ M1).bind fun y M2 => match objAt M2 c y with
  | some (n, fs) => if fs.length < 1000 then .ok (.nx ρ) (M2.set n (.obj c (putZ f x fs))) else .stuck
  | none => .stuck
@[simp] theorem sFldM_eq (mo m : Sm Val) : sFldM c f mo m ρ M = (m ρ M).bind fun x M1 => (mo ρ M1).bind fun y M2 => match objAt M2 c y with
  | some (n, fs) => if fs.length < 1000 then .ok (.nx ρ) (M2.set n (.obj c (putZ f x fs))) else .stuck
  | none => .stuck := rfl
end
section
variable {X : Cx} {T : List (Addr × Str)} {k n : Nat} {mf : List Val → Store → Res Val} {E : XK} {c m x : Str} {p pos apos : Pos} {e o : Expr} {es : List Expr} {t : TA} {ta : TE} {pl : Sem Bool}
end
end Z

/-! Z, part 31: products of lists laid in the store; dicts laid; what the top tells of methods and classes. -/
namespace Z
open PySem PySem.Spec PyProof.Rows L2
section
variable {C : Ctx} {E : XK} {g g' g0 : G} {H H' H0 H1 : Hp} {M M' : Store} {σ : L2.St} {ρ : Rho} {te ta tb : TE} {mo m ma mb : Sm Val} {tA : TA} {mA : Sm (List Val)} {c f : Str}
def eLayD (m : Sm (List (Key × Val))) : Sm Val := fun ρ M => (m ρ M).bind layD
@[simp] theorem eLayD_eq (m : Sm (List (Key × Val))) : eLayD m ρ M = (m ρ M).bind layD := rfl
@[simp] theorem layD_eq (xs : List (Key × Val)) : layD xs M = .ok (.ref M.length) (M ++ [.dic xs]) := rfl
end
section
variable {K : PySem.W.Frag} {mg : Str → Option Value} {h : Heap}
end
end Z

/-! Z, part 32: a, b, c = x, y, z; texts times a number; replace of written texts. -/
namespace Z
open PySem PySem.Spec PyProof.Rows L2
section
variable {C : Ctx} {E : XK} {g g' g0 : G} {H H' H0 H1 : Hp} {M M' : Store} {σ : L2.St} {ρ : Rho} {te ta tb : TE} {mo m ma mb : Sm Val} {tA : TA} {mA : Sm (List Val)} {X : Cx}
def sPar3 (i j l : Nat) (mA : Sm (List Val)) : Sm Fl := fun ρ M => (mA ρ M).bind fun xs M1 => match xs with
  | [x, y, z] => .ok (.nx (((ρ.set i (some (.sh x))).set j (some (.sh y))).set l (some (.sh z)))) M1
  | _ => .stuck
@[simp] theorem sPar3_eq (i j l : Nat) (m : Sm (List Val)) : sPar3 i j l m ρ M = (m ρ M).bind fun xs M1 => match xs with
  | [x, y, z] => .ok (.nx (((ρ.set i (some (.sh x))).set j (some (.sh y))).set l (some (.sh z)))) M1
  | _ => .stuck := rfl
end
end Z

/-! Z, part 33: reversed(range(n)). -/
namespace Z
open PySem PySem.Spec PyProof.Rows L2
section
variable {C : Ctx} {E : XK}
end
end Z

/-! Z, part 34: sorted by a lambda that tells the first of each. -/
namespace Z
open PySem PySem.Spec PyProof.Rows L2 LamX

def key1 : PyData → PyData
  | .tuple (k :: _) => k
  | d => d
def key1Ok : PyData → Bool
  | .tuple (.tuple [.int _, .int _] :: _) => true
  | _ => false
def leK (a b : PyData) : Bool := leD (key1 a) (key1 b)
def sortK (ds : List PyData) : List PyData := ds.mergeSort leK
def okSortK (ds : List PyData) : Bool := ds.all key1Ok && okSort (ds.map key1)
section
variable {X : Cx} {pins : List (Addr × Obj)} {σ : L2.St} {H : Hp} {s : Shared}
end
section
variable {C : Ctx} {E : XK} {te : TE} {m : Sm Val} {ρ : Rho} {M : Store}
def lSortK (m : Sm Val) : Sm (List Val) := fun ρ M => (m ρ M).bind fun x M1 => match load M1 x with
  | some (.list ds) => if okSortK ds = true then .ok ((sortK ds).map Val.d) M1 else .stuck
  | _ => .stuck
@[simp] theorem lSortK_eq (a : Sm Val) : lSortK a ρ M = (a ρ M).bind fun x M1 => match load M1 x with
  | some (.list ds) => if okSortK ds = true then .ok ((sortK ds).map Val.d) M1 else .stuck
  | _ => .stuck := rfl
end
end Z

/-! Z, part 35: dicts by reference: d[k], d.get(k, x), d[k] = v, displays; a list extended by a tuple. -/
namespace Z
open PySem PySem.Spec PyProof.Rows L2
section
variable {C : Ctx} {E : XK} {g g' : G} {H H' H0 : Hp} {M M' : Store} {σ : L2.St} {ρ : Rho} {to tk tx tv : TE} {mo mk mx mv : Sm Val} {te : TE}
end
end Z

/-! Z, part 36: displays of dicts laid in the store; a list extended by a tuple. -/
namespace Z
open PySem PySem.Spec PyProof.Rows L2
section
variable {C : Ctx} {E : XK} {g g' : G} {H H' H0 : Hp} {M M' : Store} {σ : L2.St} {ρ : Rho} {tk tv : TE} {mk mv : Sm Val} {trs : List (TE × TE)}
end
section
variable {X : Cx} {C : Ctx} {E : XK}
end
end Z

/-! Z, part 37: dict(pairs), of a list or a tuple; sorted(d.items()) of one's own dict. -/
namespace Z
open PySem PySem.Spec PyProof.Rows L2
section
variable {X : Cx} {C : Ctx} {E : XK} {g g' : G} {H H' H0 : Hp} {M M' : Store} {σ : L2.St} {ρ : Rho} {te : TE} {m : Sm Val}
/-! dict(x) -/
abbrev PrV (K : PySem.W.Frag) (H : Hp) : List V → List (Key × V) → Prop := Paired fun v kv => ∃ p, v = .ref p ∧ SqT K H p [kV kv.1, kv.2]
/-- pairs, their keys told -/
def pairsK : List PyData → Option (List (Key × PyData))
  | [] => some []
  | .tuple [k, v] :: r => match keyOf k, pairsK r with
    | some k, some ps => some ((k, v) :: ps)
    | _, _ => none
  | _ :: _ => none
def mergeP (acc more : List (Key × PyData)) : List (Key × PyData) := more.foldl (fun a kv => putP a kv.1 kv.2) acc
theorem PrV.mono {K : PySem.W.Frag} {S S' : Hp} (s : Same S S') {vs : List V} {kvs : List (Key × V)} (h : PrV K S vs kvs) : PrV K S' vs kvs := Paired.mapP h fun _ _ ⟨p, e, r⟩ => ⟨p, e, sqtMono s r⟩
/-- dict(x): a new dict -/
def dOf (m : Sm Val) : Sm (List (Key × Val)) := fun ρ M => (m ρ M).bind fun x M1 => match x with
  | .d (.tuple ds) => match pairsK ds with
    | some ps => if ds ≠ [] then .ok ((mergeP [] ps).map fun p => (p.1, .d p.2)) M1 else .stuck
    | none => .stuck
  | .d (.list ds) => match pairsK ds with
    | some ps => .ok ((mergeP [] ps).map fun p => (p.1, .d p.2)) M1
    | none => .stuck
  | _ => .stuck
@[simp] theorem dOf_eq (m : Sm Val) : dOf m ρ M = (m ρ M).bind fun x M1 => match x with
  | .d (.tuple ds) => match pairsK ds with
    | some ps => if ds ≠ [] then .ok ((mergeP [] ps).map fun p => (p.1, .d p.2)) M1 else .stuck
    | none => .stuck
  | .d (.list ds) => match pairsK ds with
    | some ps => .ok ((mergeP [] ps).map fun p => (p.1, .d p.2)) M1
    | none => .stuck
  | _ => .stuck := rfl
end
end Z

/-! Z, part 38: sorted(d.items()) of one's own dict. -/
namespace Z
open PySem PySem.Spec PyProof.Rows L2
section
variable {X : Cx} {C : Ctx} {E : XK} {g g' : G} {H H' H0 : Hp} {M M' : Store} {σ : L2.St} {ρ : Rho} {i : Nat}
def pairKD (p : Key × PyData) : PyData := .tuple [keyD p.1, p.2]
theorem Ok.put (k : Ok C g M H) : ∀ (as : List Addr) (kvs : List (Key × V)), (∀ a ∈ as, H a = none) → as.Nodup → as.length = kvs.length →
    Ok C ⟨g.phi, LiI.putT g.S as kvs⟩ M (LiI.putT H as kvs) ∧ Step g H ⟨g.phi, LiI.putT g.S as kvs⟩ (LiI.putT H as kvs) := by
  intro as
  induction as generalizing g H with
  | nil => intro kvs _ _ _; exact ⟨k, Step.refl _ _⟩
  | cons a as ih =>
    intro kvs nw nd l
    cases kvs with
    | nil => cases l
    | cons p kvs =>
      have n2 := List.nodup_cons.mp nd
      have s1 := k.newS (o := .tup [kV p.1, p.2]) (nw a List.mem_cons_self)
      have s2 := ih s1.1 kvs (fun b hb => by rw [upd_ne fun z => n2.1 (by rw [← z]; exact hb)]; exact nw b (List.mem_cons_of_mem _ hb)) n2.2 (Nat.succ.inj l)
      exact ⟨s2.1, s1.2.trans s2.2⟩
/-- sorted(d.items()): a new list of the pairs -/
def lSortItems (i : Nat) : Sm (List Val) := fun ρ M => wOd ρ i fun kvs => if okSort (kvs.map pairKD) = true then .ok ((sortD (kvs.map pairKD)).map Val.d) M else .stuck
@[simp] theorem lSortItems_eq : lSortItems i ρ M = wOd ρ i fun kvs => if okSort (kvs.map pairKD) = true then .ok ((sortD (kvs.map pairKD)).map Val.d) M else .stuck := rfl
end
end Z

/-! Z, part 39: the head by one kernel run: what the top tells, by facts and defs looked up by names. -/
namespace Z
open PySem PySem.Spec PyProof.Rows L2
/-- the end of a law over a heap of which only some part is known -/
theorem walkZE {l : PySem.W.OpenLaw} {n k : Nat} {q : Program} {loose : List Str} {XP : (Str → Option Value) → Heap → Prop} {YP : World → Heap → Prop} {d : DefRec} {x : Str} {ml : List Val → Store → Res Val}
    (himp : importsNone q = true) (hn : l.most = some n) (hn2 : n ≤ sizeLine) (hdf : d.params.defaults = []) (hr : Room k callerA) (hx : d.name = x)
    (F : ∀ (w : World) (mg : Str → Option Value) (h : Heap), YP w h → h.Ns mainGlobals mg → ∃ K : PySem.W.Frag, K.In h ∧
      ∃ (cs : List (Addr × Addr)) (T : List (Addr × Str)), (∀ p ∈ cs, h.get? p.2 = some { cls := .none, data := .fields #[] }) ∧ (∀ p ∈ cs, K.lookup p.2 = none) ∧ (∀ p ∈ cs, PySem.W.CodeHd h p.1 p.2) ∧
        (∀ p ∈ T, p.1 ∈ cs.map (·.2)) ∧ ∀ base : Heap, K.In base → base.Ns mainGlobals mg → (∀ p ∈ cs, LamX.TabB base mg p.1 p.2) → (∃ o, base.get? sysModules = some o) → FZ l.prog w K mg base T k x 1 ml)
    (law : ∀ ns : List Int, ns.length ≤ n → (∀ z ∈ ns, Builtin.Int.intBits z ≤ 1048576) → ∃ M, ml [.scr ns] [] = .ok (.d (.bool true)) M) :
    PySem.W.WalkO q loose XP YP l.row.toRowW d [] (fun f vs => PySem.call f vs) := by
  subst hx
  refine Att.attach_callB hn hdf fun w s₀ t mg mb fa o pm cd doc a vs ns G Y ho hd hcd hmg hobj hints hlen hbits hg => ?_
  obtain ⟨K, KX, cs, T, h1, h2, h3, h4, h6⟩ := F w mg _ Y G.T.g
  refine law_callG KX G.T.g G.T.b G.T.builtins G.T.nolimit hg h1 h2 h3 G.T.bmain (let ⟨mm, hm, _⟩ := (G.T.seer himp).mods; ⟨mm, hm⟩) hobj hints (Nat.le_trans hlen hn2) hr (sp := spZ ⟨K, mg, T⟩ 1 ml) fun base H top => ⟨?_, ?_⟩
  · obtain ⟨f, fd, ps, e1, _, e3, e4⟩ := (h6 base top.kin top.glo top.tab top.sm).ex
    rw [hmg] at e1
    cases e1
    exact ⟨fd, ps, e3, e4⟩
  obtain ⟨M, hM⟩ := law ns hlen hbits
  have tabs : LamX.Tabs T H := fun p hp => by
    obtain ⟨c, hc, e⟩ := List.mem_map.mp (h4 p hp)
    have := top.tb c hc
    rw [e] at this
    exact ⟨#[], this, by simp [TriplesOk], fun pos cv hc => nomatch (show none = some cv from hc)⟩
  let g : Z.G := ⟨[], fun b => if b = a then H a else none⟩
  have ga : g.S a = H a := if_pos rfl
  refine ⟨rfl, g, [], [.scr ns], ⟨fun b u e => ?_, rfl, List.nodup_nil, fun b hb => (nomatch hb), fun j b nd e => (nomatch e), tabs, fun b ps e => ?_⟩, .cons ⟨a, rfl, ?_⟩ .nil, ?_⟩
  · have e : (if b = a then H a else none) = some u := e
    split at e
    · rename_i z; rw [z]; exact e
    · cases e
  · have e : (if b = a then H a else none) = some (.tbl ps) := e
    split at e
    · exact top.na ps e
    · cases e
  · rcases top.scr with h | h
    · refine .inl ?_
      rcases h with h | ⟨o, h⟩
      · exact .inl (by rw [ga]; exact h)
      · exact .inr ⟨o, by rw [ga]; exact h⟩
    · exact .inr h
  · rw [hM]
    intro g' H' _ _ v rv
    exact rbl rv
section
variable {K : PySem.W.Frag} {mg : Str → Option Value} {h : Heap}
theorem hInt (kx : K.In h) (g : h.Ns mainGlobals mg) {x : Str} {i : Int} (c : (He.Fa.int x i).ok K = true) : ∃ u, mg x = some u ∧ RelV (.int i) u := let ⟨t, e⟩ := He.int_ok kx g c; ⟨_, e, ⟨t, rfl⟩⟩
theorem hExc (kx : K.In h) (g : h.Ns mainGlobals mg) {x : Str} (a : (He.Fa.glo x).ok K = true) (c : (He.Fa.exc x).ok K = true) : XZ K mg x :=
  let ⟨e, k, b, t⟩ := He.exc_ok c
  excK kx g (He.eqO_ok a) e k b t
abbrev BindB (x q : Str) (st : Stmt) (ps : List Str) : Prop := ∀ (kV doc pm : Value) (an : Option Addr) (cdv ct : Value) (us : List Value), us.length = ps.length → bindArgs (PySem.W.fnOf x q (defArgs st) (defBody st) (defScope st) .none kV doc pm an cdv ct) ⟨us, []⟩ = pure (ps.zip us)
/-- a def at the top, as it is looked up -/
def dT (x : Str) (st : Stmt) : He.DefD := ⟨(x, none), x, x, defArgs st, defBody st, defScope st, [], []⟩
theorem hDef (kx : K.In h) (g : h.Ns mainGlobals mg) {x : Str} {st : Stmt} {ps : List Str} (a : (He.Fa.glo x).ok K = true) (F : ∃ fd, FunD K (dT x st).name (dT x st).qual (dT x st).params (dT x st).body (dT x st).scope ((dT x st).dvs K) ((dT x st).kws K) (He.fAd K (dT x st).at_) fd) (b : BindB x x st ps) : DefK K mg x st ps := by
  obtain ⟨fd, ⟨oc, od, dV, kV, doc, pm, an, cdv, ct, osl, rfl, lk, cd, dfl, kwd⟩, kp⟩ := F
  rcases dfl with ⟨_, rfl⟩ | ⟨n, _⟩
  · exact defK kx g (He.eqO_ok a) lk cd kp b
  · exact absurd rfl n
theorem hDefL (kx : K.In h) (g : h.Ns mainGlobals mg) {x : Str} {st : Stmt} {ps : List Str} (a : (He.Fa.glo x).ok K = true) (F : ∃ fd, FunD K (dT x st).name (dT x st).qual (dT x st).params (dT x st).body (dT x st).scope ((dT x st).dvs K) ((dT x st).kws K) (He.fAd K (dT x st).at_) fd) (b : BindB x x st ps) : DefL K mg x st ps (He.codeOf K (x, none)) := by
  obtain ⟨fd, ⟨oc, od, dV, kV, doc, pm, an, cdv, ct, osl, rfl, lk, cd, dfl, kwd⟩, kp⟩ := F
  rcases dfl with ⟨_, rfl⟩ | ⟨n, _⟩
  · obtain ⟨c, rfl⟩ := He.codeIn_ref cd
    have e : He.codeOf K (x, none) = c := He.codeOf_eq (p := (x, none)) lk rfl
    rw [e]
    exact defL kx g (He.eqO_ok a) lk cd kp b
  · exact absurd rfl n
/-! the classes of refusals -/
def refsA (K : PySem.W.Frag) : List Addr := refs.map (He.ga K)
def errX (K : PySem.W.Frag) : Bool :=
  (refs.all fun x => (He.Fa.glo x).ok K && (He.eqO (PySem.W.findIn K (.ref (He.ga K x)) "__getattribute__") (some (some (.builtin "BaseException.__getattribute__"))) && (He.eqO (PySem.W.findIn K (.ref (He.ga K x)) "__getattr__") (some none) &&
    (decide (PySem.W.subIn K (.ref (He.ga K x)) (.type "BaseException") = some true) && (PySem.W.hasDictIn K (He.ga K x) && (He.eqO (PySem.W.findIn K (.ref (He.ga K x)) "__class__") (some (some (.builtin "object.__class__"))) && decide (PySem.W.mroIn K (He.ga K x) (.type "object") = some true))))))) &&
  ((He.Fa.glo "MillError").ok K && (He.eqO (PySem.W.specialIn K (.builtin "object.__class__") "__get__") (some (some (.builtin "getset_descriptor.__get__"))) && (decide (PySem.W.takesIn K (.builtin "object.__class__") = some true) && errB K (refsA K) (He.ga K "MillError"))))
theorem hErr (kx : K.In h) (g : h.Ns mainGlobals mg) (c : errX K = true) : ErrK K mg := by
  obtain ⟨c1, c2⟩ := He.ba c
  obtain ⟨c2, c3⟩ := He.ba c2
  obtain ⟨c3, c4⟩ := He.ba c3
  obtain ⟨c4, c5⟩ := He.ba c4
  refine errK_of (As := refsA K) (He.glo_ok kx g c2) (fun i x hx => ?_) c5
  have hm := List.all_eq_true.mp c1 x (List.mem_of_getElem? hx)
  obtain ⟨d1, d2⟩ := He.ba hm
  obtain ⟨d2, d3⟩ := He.ba d2
  obtain ⟨d3, d4⟩ := He.ba d3
  obtain ⟨d4, d5⟩ := He.ba d4
  obtain ⟨d5, d6⟩ := He.ba d5
  obtain ⟨d6, d7⟩ := He.ba d6
  refine ⟨He.ga K x, by unfold refsA; rw [List.getElem?_map, hx]; rfl, He.glo_ok kx g d1, ?_⟩
  exact excC_of (He.eqO_ok d2) (He.eqO_ok d3) (of_decide_eq_true d4) d5 (He.eqO_ok d6) (He.eqO_ok c3) (of_decide_eq_true c4) (of_decide_eq_true d7)
end
/-! the run, looked at in parts: each part in a declaration of its own -/
open HandSHeadRun in
abbrev RunT {α : Type} (r : PySem.W.OpenRow) (M : Nat) (w : World) (f : PySem.W.SharedT → α) (v : α) : Prop := ∀ os : OsState, (endF (stepQ (denQ tabQ) r.prog w) M r.prog w os).map f = some v
abbrev Part := List He.Fa × List He.DefD
/-- all objects up to the N-th, empty tables left out -/
abbrev frN (g : Addr → Option Obj) (N : Nat) : PySem.W.Frag := He.frT g (List.range N)
def partO (N : Nat) (q : Part) (s : PySem.W.SharedT) : He.AlD := He.obsD q.1 q.2 (frN (HandSHeadRun.getT s) N)
def obsN (N : Nat) (tf : List He.Defn) (ex : PySem.W.Frag → Bool) (g : Addr → Option Obj) : Bool := ex (frN g N) && He.tabsB g tf (frN g N)
structure SaysN (tf : List He.Defn) (ex : PySem.W.Frag → Bool) (h : Heap) (K : PySem.W.Frag) : Prop where
  more : ex K = true
  hd : ∀ p ∈ tf, PySem.W.codeHdIn K (He.cT K p).1 (He.cT K p).2 = true
  out : ∀ p ∈ tf, K.lookup (He.cT K p).2 = none
  empty : ∀ p ∈ tf, h.get? (He.cT K p).2 = some { cls := .none, data := .fields #[] }
theorem saysN_of {N : Nat} {tf : List He.Defn} {ex : PySem.W.Frag → Bool} {h : Heap} (e : obsN N tf ex h.get? = true) : SaysN tf ex h (frN h.get? N) := by
  obtain ⟨h1, h2⟩ := He.ba e
  have key : ∀ p ∈ tf, PySem.W.codeHdIn (frN h.get? N) (He.cT (frN h.get? N) p).1 (He.cT (frN h.get? N) p).2 = true ∧ ∃ o, h.get? (He.cT (frN h.get? N) p).2 = some o ∧ He.emptyTab o = true := fun p hp => by
    obtain ⟨h3, h4⟩ := He.ba (List.all_eq_true.mp h2 p hp)
    refine ⟨h3, ?_⟩
    cases q : h.get? (He.cT (frN h.get? N) p).2 with
    | none => rw [q] at h4; cases h4
    | some o => rw [q] at h4; exact ⟨o, rfl, h4⟩
  exact ⟨h1, fun p hp => (key p hp).1, fun p hp => by
    obtain ⟨_, o, q, z⟩ := key p hp
    exact He.frT_none q z, fun p hp => by
    obtain ⟨_, o, q, z⟩ := key p hp
    rw [q, He.emptyTab_eq z]⟩
def hookS (N : Nat) (tf : List He.Defn) (ex : PySem.W.Frag → Bool) (ps : List Part) : PySem.W.Hook where
  α := Bool × List He.AlD
  obs := fun s => (obsN N tf ex s.heap.get?, ps.map fun q => He.obsD q.1 q.2 (frN s.heap.get? N))
  val := fun _ => (true, ps.map fun q => He.valD q.2)
  says := fun _ h => ∃ K : PySem.W.Frag, K.In h ∧ SaysN tf ex h K ∧ ∀ q ∈ ps, He.SaysD q.1 q.2 K
  of := fun w s e => ⟨_, He.frT_in, saysN_of (congrArg Prod.fst e), fun q hq => by
    have e2 : (ps.map fun q : Part => He.obsD q.1 q.2 (frN s.heap.get? N)) = ps.map fun q => He.valD q.2 := congrArg Prod.snd e
    exact List.map_inj_left.mp e2 q hq⟩
  keeps := fun _ _ _ ⟨K, hK, c, d⟩ k => ⟨K, PySem.W.Frag.In.keeps hK k, ⟨c.more, c.hd, c.out, fun p hp => k _ _ (c.empty p hp)⟩, d⟩
def obS (N : Nat) (tf : List He.Defn) (ex : PySem.W.Frag → Bool) (ps : List Part) (s : PySem.W.SharedT) : Bool × List He.AlD := (obsN N tf ex (HandSHeadRun.getT s), ps.map fun q => partO N q s)
theorem obS_eq {N : Nat} {tf : List He.Defn} {ex : PySem.W.Frag → Bool} {ps : List Part} (s : PySem.W.SharedT) : obS N tf ex ps s = (hookS N tf ex ps).obs s.abs := by
  have e : HandSHeadRun.getT s = s.abs.heap.get? := funext (HandSHeadRun.getT_eq s)
  unfold obS partO
  rw [e]; rfl
open HandSHeadRun in
theorem run_split {r : PySem.W.OpenRow} {q : Program} {N M : Nat} {tf : List He.Defn} {ex : PySem.W.Frag → Bool} {ps : List Part} {loose : List Str} {w : World}
    (a : RunT r M w (fun s => (looksF r.prog (PySem.W.boot_heap w.params) s.abs, HandSHeadRun.seenQ q loose (importedModules r.prog.main.body) (fun s => PySem.W.xlAt q [] s && PySem.W.recOk r.toRowW.records s) s.abs, obsN N tf ex (getT s))) (true, PySem.W.openGood q loose, true))
    (l : ∀ p ∈ ps, RunT r M w (partO N p) (He.valD p.2)) : RunEq r q (hookS N tf ex ps) (obS N tf ex ps) M loose w := fun os => by
  have h1 := a os
  have h2 := fun p hp => l p hp os
  cases e : endF (stepQ (denQ tabQ) r.prog w) M r.prog w os with
  | none => rw [e] at h1; cases h1
  | some s =>
    rw [e] at h1
    have h3 : ∀ p ∈ ps, partO N p s = He.valD p.2 := fun p hp => by
      have := h2 p hp
      rw [e] at this
      exact Option.some.inj this
    have h4 := Option.some.inj h1
    have h5 : obS N tf ex ps s = (hookS N tf ex ps).val w := by
      show ((obsN N tf ex (getT s), ps.map fun q => partO N q s) : Bool × List He.AlD) = (true, ps.map fun q => He.valD q.2)
      rw [List.map_congr_left h3]
      exact Prod.ext (congrArg (fun z => z.2.2) h4) rfl
    show some _ = some _
    refine congrArg some ?_
    exact Prod.ext (congrArg (fun z => z.1) h4) (Prod.ext (congrArg (fun z => z.2.1) h4) h5)
end Z

/-! Z, part 40: zip over two sequences and a range. -/
namespace Z
open PySem PySem.Spec PySem.Calls PyProof.Rows L2
section
variable {prog : Program} {w : World} {A : Around} {E : Value → Shared → Prop} {s : Shared}
end
end Z

/-! Z, part 41: defs walked in step with what they are asked of. -/
namespace Z
open PySem PySem.Spec PyProof.Rows L2
section
variable {X : Cx} {k i : Nat} {S : Addr → Sp → Prop} {E : XK} {x : Str} {p pos : Pos} {e : Expr} {es : List Expr} {t : TA}
end
/-- what a turn answers: nothing, or the whole's answer -/
abbrev Ask := Nat → PyData → Store → Res (Option Val)
section
variable {C : Ctx} {E : XK} {i0 jt jf jw n : Nat} {fs : List Addr} {tF : TA} {tR : TE} {tb : TS} {bd : Ask}
end
end Z

/-! Z, part 42: one of four words. -/
namespace Z
open PySem PySem.Spec PyProof.Rows L2
end Z

/-! Z, part 43: exceptions held as values: made, asked for their class, told by their word. -/
namespace Z
open PySem PySem.Spec PyProof.Rows L2 LamX
section
variable {X : Cx}
def rIsX (K : PySem.W.Frag) : List V → Hp → VK → Prop := fun xs H Q => ∃ a c cv D b, xs = [V.ref a, c] ∧ H a = some (ExO (.ref D) a) ∧ ExcC K D ∧ (∀ u, RelV c u → u = cv) ∧ PySem.W.kitOne K (.ref D) cv = some b ∧ Q (.bl b) H
theorem call_isX : CallR X (.builtin "isinstance") (rIsX X.K) := by
  rintro pins s σ H xs us Q I r ⟨a, c, cv, D, b, rfl, ha, C, hcv, e, q⟩
  cases r with
  | cons rx rr =>
    cases rr with
    | cons rt rn =>
    cases rn
    cases rx
    cases hcv _ rt
    have ok : ∃ oe vs, s.heap.get? a = some oe ∧ Zc (.ref D) none oe ∧ oe.data = .fields vs ∧ vs[1]? = some Value.none ∧ vs[2]? = some Value.none ∧ 4 < vs.size := by
      have z := I.hok a _ ha
      unfold ExO at z
      exact z.1
    obtain ⟨oe, vs, got, hz, hv, _⟩ := ok
    obtain ⟨oc, od, oda, osl⟩ := oe
    obtain ⟨h1, h2⟩ := hz
    dsimp only at h1 h2 hv
    subst h1 h2 hv
    exact PySem.W.kia_one (PySem.W.handS_kitx_exc C.hg C.hk C.hs C.hd C.ha C.hn C.ht C.hm) I.kIn ⟨got, rfl, rfl, trivial⟩ e (fun z => nomatch z) fun tk => ⟨.bl b, H, I.kept (t' := tk) fun _ _ z => z, rfl, q⟩
/-- isinstance(e, C) of an exception held in slot i -/
def tIsX (K : PySem.W.Frag) (i : Nat) (cv : Value) : TE := fun σ H Q => ∃ a D b, σ[i]? = some (some (.ref a)) ∧ H a = some (ExO (.ref D) a) ∧ ExcC K D ∧ PySem.W.kitOne K (.ref D) cv = some b ∧ Q (.bl b) H
theorem pe_isX {i : Nat} {A : Addr} {n x : Str} {p p2 p3 pos : Pos} (hg : Gl X "isinstance") (hm : X.mg "isinstance" = none) (he : PE X (.Name n p2) (tVar i)) (hgx : Gl X x)
    (hx : X.mg x = some (.ref A)) (hd : (x == ("__debug__" : Str)) = false := by decide) (hs : starEach [.Name n p2, .Name x p3] X.env = (false, eval (.Name n p2) X.env) :: starEach [.Name x p3] X.env := by rfl)
    (hs2 : starEach [.Name x p3] X.env = (false, eval (.Name x p3) X.env) :: starEach [] X.env := by rfl) (hpl : (backTo pos (starEach [.Name x p3] X.env)).any (·.1) = false := by rfl) :
    PE X (.Call (.Name "isinstance" p) [.Name n p2, .Name x p3] [] pos) (tIsX X.K i (.ref A)) :=
  PE.of (pe_callB call_isX hg hm bb_isinstance (pa_cons he (pa_cons (pe_glob (v := .ref A) hgx hx rfl hd) pa_nil hs2) hs) (hpl := hpl)) fun σ H Q ⟨a, D, b, h1, h2, h3, h4, h5⟩ => ⟨_, h1, a, _, .ref A, D, b, rfl, h2, h3, fun u r => r, h4, h5⟩
theorem pe_isXV {i : Nat} {n : Str} {p p2 p3 pos : Pos} (hg : Gl X "isinstance") (hm : X.mg "isinstance" = none) (he : PE X (.Name n p2) (tVar i)) (hgx : Gl X "ValueError")
    (hx : X.mg "ValueError" = none) (hs : starEach [.Name n p2, .Name "ValueError" p3] X.env = (false, eval (.Name n p2) X.env) :: starEach [.Name "ValueError" p3] X.env := by rfl)
    (hs2 : starEach [.Name "ValueError" p3] X.env = (false, eval (.Name "ValueError" p3) X.env) :: starEach [] X.env := by rfl) (hpl : (backTo pos (starEach [.Name "ValueError" p3] X.env)).any (·.1) = false := by rfl) :
    PE X (.Call (.Name "isinstance" p) [.Name n p2, .Name "ValueError" p3] [] pos) (tIsX X.K i (.type "ValueError")) :=
  PE.of (pe_callB call_isX hg hm bb_isinstance (pa_cons he (pa_cons (pe_bltn (v := .ty "ValueError") hgx hx (by decide +kernel) rfl) pa_nil hs2) hs) (hpl := hpl)) fun σ H Q ⟨a, D, b, h1, h2, h3, h4, h5⟩ => ⟨_, h1, a, _, .type "ValueError", D, b, rfl, h2, h3, fun u r => r, h4, h5⟩
end
/-! the classes, by their numbers -/
def clA (mg : Str → Option Value) (j : Nat) : Addr := match mg (refs.getD j "") with
  | some (.ref a) => a
  | _ => 0
theorem clA_of {mg : Str → Option Value} {j : Nat} {c : Str} {A : Addr} (h : refs[j]? = some c) (m : mg c = some (.ref A)) : clA mg j = A := by
  unfold clA
  rw [show refs.getD j "" = c by rw [List.getD_eq_getElem?_getD, h]; rfl, m]
/-- what is known of MillError itself -/
structure TenK (K : PySem.W.Frag) (mg : Str → Option Value) : Prop where
  ex : ∃ B, mg "MillError" = some (.ref B) ∧ ExcC K B ∧ PySem.W.kitOne K (.ref B) (.type "ValueError") = some true ∧
    ∀ (i : Nat) (c : Str), refs[i]? = some c → ∃ A, mg c = some (.ref A) ∧ PySem.W.kitOne K (.ref A) (.ref B) = some true ∧ PySem.W.kitOne K (.ref B) (.ref A) = some false
structure ClsT (K : PySem.W.Frag) (mg : Str → Option Value) (B : Addr) : Prop where
  mB : mg "MillError" = some (.ref B)
  CB : ExcC K B
  VB : PySem.W.kitOne K (.ref B) (.type "ValueError") = some true
  m : ∀ j, j < 15 → ∃ c, refs[j]? = some c ∧ mg c = some (.ref (clA mg j))
  C : ∀ j, j < 15 → ExcC K (clA mg j)
  V : ∀ j, j < 15 → PySem.W.kitOne K (.ref (clA mg j)) (.type "ValueError") = some true
  o : ∀ j k, j < 15 → k < 15 → PySem.W.kitOne K (.ref (clA mg j)) (.ref (clA mg k)) = some (decide (k = j))
  up : ∀ j, j < 15 → PySem.W.kitOne K (.ref (clA mg j)) (.ref B) = some true
  dn : ∀ j, j < 15 → PySem.W.kitOne K (.ref B) (.ref (clA mg j)) = some false
theorem clsT {K : PySem.W.Frag} {mg : Str → Option Value} (err : ErrK K mg) (ten : TenK K mg) : ∃ B, ClsT K mg B := by
  obtain ⟨B, mB, CB, VB, hB⟩ := ten.ex
  have hr : ∀ j, j < 15 → ∃ c, refs[j]? = some c := fun j hj => ⟨_, List.getElem?_eq_getElem (by exact hj)⟩
  refine ⟨B, mB, CB, VB, fun j hj => ?_, fun j hj => ?_, fun j hj => ?_, fun j k hj hk => ?_, fun j hj => ?_, fun j hj => ?_⟩
  · obtain ⟨c, hc⟩ := hr j hj
    obtain ⟨A, hA, _⟩ := err.at_ j c hc
    exact ⟨c, hc, by rw [clA_of hc hA]; exact hA⟩
  · obtain ⟨c, hc⟩ := hr j hj
    obtain ⟨A, hA, h, _⟩ := err.at_ j c hc
    rw [clA_of hc hA]; exact h
  · obtain ⟨c, hc⟩ := hr j hj
    obtain ⟨A, hA, _, h, _⟩ := err.at_ j c hc
    rw [clA_of hc hA]; exact h
  · obtain ⟨c, hc⟩ := hr j hj
    obtain ⟨c', hc'⟩ := hr k hk
    obtain ⟨A, hA, _, _, h⟩ := err.at_ j c hc
    obtain ⟨A', hA', _, h⟩ := h k c' hc'
    rw [clA_of hc hA, clA_of hc' hA']; exact h
  · obtain ⟨c, hc⟩ := hr j hj
    obtain ⟨A, hA, h, _⟩ := hB j c hc
    rw [clA_of hc hA]; exact h
  · obtain ⟨c, hc⟩ := hr j hj
    obtain ⟨A, hA, _, h⟩ := hB j c hc
    rw [clA_of hc hA]; exact h
theorem ClsT.at_ {K : PySem.W.Frag} {mg : Str → Option Value} {B : Addr} (h : ClsT K mg B) (j : Nat) (c : Str) (hc : refs[j]? = some c) (hj : j < 15) : mg c = some (.ref (clA mg j)) := by
  obtain ⟨c', h1, h2⟩ := h.m j hj
  rw [hc] at h1
  cases h1
  exact h2
/-! the word, told of an exception held as a value: i = 15, of none -/
def wordI (i : Nat) : Str := match refW[i]? with
  | some w => bang ++ w
  | none => "! none of them"
def spWord (K : PySem.W.Frag) (mg : Str → Option Value) : Sp := fun vs H Q _ => ∃ a D i, vs = [V.ref a] ∧ H a = some (ExO (.ref D) a) ∧ ExcC K D ∧ PySem.W.kitOne K (.ref D) (.type "ValueError") = some true ∧ i ≤ 15 ∧
  (∀ j, j < 15 → PySem.W.kitOne K (.ref D) (.ref (clA mg j)) = some (decide (j = i))) ∧ ∀ H', Ext H H' → Q (.str (wordI i)) H'
def tIsXL (K : PySem.W.Frag) (mg : Str → Option Value) : List Nat → TA
  | [] => tNil
  | j :: r => tCons (tIsX K 0 (.ref (clA mg j))) (tIsXL K mg r)
theorem isXL_reads {K : PySem.W.Frag} {mg : Str → Option Value} {a D : Addr} {i : Nat} {σ : L2.St} {H : Hp} (h : σ[0]? = some (some (.ref a))) (ha : H a = some (ExO (.ref D) a)) (C : ExcC K D) (hk : ∀ j, j < 15 → PySem.W.kitOne K (.ref D) (.ref (clA mg j)) = some (decide (j = i))) :
    ∀ (l : List Nat) (R : List V → Hp → Prop), (∀ j ∈ l, j < 15) → R (l.map fun j => V.bl (decide (j = i))) H → tIsXL K mg l σ H R
  | [], R, _, q => q
  | j :: r, R, hl, q => ⟨a, D, _, h, ha, C, hk j (hl j (by simp)), isXL_reads h ha C hk r _ (fun k z => hl k (by simp [z])) q⟩
def tAskX (K : PySem.W.Frag) (mg : Str → Option Value) (l : List Nat) : TS := tAsg (tOp rCat (tVar 1) (tLst (tIsXL K mg l))) (gName 1)
def tWordX (K : PySem.W.Frag) (mg : Str → Option Value) : TS :=
  tSeq (tAsg (tLst (tIsXL K mg [0, 1, 2, 3])) (gName 1))
  (tSeq (tAskX K mg [4, 5, 6, 7]) (tSeq (tAskX K mg [8, 9, 10, 11]) (tSeq (tAskX K mg [12, 13, 14])
  (tSeq (tIfS (tOr (tNot (tB (tIsX K 0 (.type "ValueError")))) (tTest (tOp (rF2 K fNe) (tBM K "list" (rCntZ K) (tVar 1) (tCons (tC (.bl true)) tNil)) (tC (.int 1))))) (tRet (tC (.str "! none of them"))) tNext)
  (tSeq (tAsg (tLst (tStrL wdA)) (gName 2))
  (tRet (tOp (rF2 K fAddF) (tC (.str bang)) (tOp (rIxL K) (tOp rCat (tVar 2) (tLst (tStrL wdB))) (tBM K "list" (rIdxZ K) (tVar 1) (tCons (tC (.bl true)) tNil))))))))))
theorem askedX {K : PySem.W.Frag} {mg : Str → Option Value} {a D0 : Addr} {i : Nat} {l : List Nat} {σ : L2.St} {H : Hp} {D : Ends} {q : Addr} {bs : List V} (h0 : σ[0]? = some (some (.ref a))) (ha : H a = some (ExO (.ref D0) a)) (C : ExcC K D0) (hk : ∀ j, j < 15 → PySem.W.kitOne K (.ref D0) (.ref (clA mg j)) = some (decide (j = i))) (hl15 : ∀ j ∈ l, j < 15)
    (h1 : σ[1]? = some (some (.ref q))) (hq : H q = some (.lst bs)) (hb : bs.length ≤ 15) (hl : l.length ≤ 4)
    (k : ∀ q' H', Ext H H' → H' q' = some (.lst (bs ++ l.map fun j => V.bl (decide (j = i)))) → D.nx (σ.set 1 (some (.ref q'))) H') : tAskX K mg l D σ H := by
  refine ⟨_, h1, isXL_reads h0 ha C hk l _ hl15 ⟨?_, fun p np => ?_⟩⟩
  · rw [List.length_map, sizeLine_eq]; omega
  · refine ⟨q, p, bs, _, rfl, rfl, ?_, upd_same, ?_, fun p2 np2 => ?_⟩
    · rw [upd_ne (ne_of_none hq np)]; exact hq
    · rw [List.length_map, sizeLine_eq]; omega
    · exact k p2 _ ((Ext.new np).trans (Ext.new np2)) upd_same
theorem bits15 : (((List.range 15).map fun j => PyData.bool (decide (j = 15))).countP fun z => PyData.eqv z (.bool true)) = 0 := by decide
theorem bits_ok15 : okIn (.bool true) ((List.range 15).map fun j => PyData.bool (decide (j = 15))) = true := by decide
theorem wordX_reads {K : PySem.W.Frag} {mg : Str → Option Value} {a D0 : Addr} {i : Nat} {H : Hp} {D : Ends} (ha : H a = some (ExO (.ref D0) a)) (C : ExcC K D0) (hv : PySem.W.kitOne K (.ref D0) (.type "ValueError") = some true) (hi : i ≤ 15) (hk : ∀ j, j < 15 → PySem.W.kitOne K (.ref D0) (.ref (clA mg j)) = some (decide (j = i)))
    (k : ∀ H', Ext H H' → D.rt (.str (wordI i)) H') : tWordX K mg D (L2.start ["_law_e", "_law_kinds", "_law_words"] [.ref a]) H := by
  have st0 : L2.start ["_law_e", "_law_kinds", "_law_words"] [.ref a] = [some (.ref a), none, none] := rfl
  rw [st0]
  refine isXL_reads rfl ha C hk _ _ (by decide) ⟨by rw [sizeLine_eq]; simp, fun q1 n1 => ?_⟩
  have e1 := Ext.new (o := .lst ([0, 1, 2, 3].map fun j => V.bl (decide (j = i)))) n1
  refine askedX (q := q1) rfl (e1 _ _ ha) C hk (by decide) rfl upd_same (by simp) (by decide) fun q2 H2 e2 s2 => ?_
  have f2 := e1.trans e2
  refine askedX (q := q2) rfl (f2 _ _ ha) C hk (by decide) rfl s2 (by simp) (by decide) fun q3 H3 e3 s3 => ?_
  have f3 := f2.trans e3
  refine askedX (q := q3) rfl (f3 _ _ ha) C hk (by decide) rfl s3 (by simp) (by decide) fun q4 H4 e4 s4 => ?_
  have f4 := f3.trans e4
  have lst : ((([0, 1, 2, 3].map fun j => V.bl (decide (j = i))) ++ [4, 5, 6, 7].map fun j => V.bl (decide (j = i))) ++ [8, 9, 10, 11].map fun j => V.bl (decide (j = i))) ++ [12, 13, 14].map (fun j => V.bl (decide (j = i))) = (List.range 15).map fun j => V.bl (decide (j = i)) := by rfl
  rw [lst] at s4
  have rp : ∀ {H' : Hp}, Ext H4 H' → Rp K H' (.ref q4) (.list ((List.range 15).map fun j => PyData.bool (decide (j = i)))) := fun {H'} e => by
    refine .lst (e _ _ s4) ?_
    generalize List.range 15 = l
    induction l with
    | nil => exact .nil
    | cons x r ih => exact .cons (.bl _) ih
  by_cases c15 : i = 15
  · subst c15
    refine ⟨a, D0, true, rfl, f4 _ _ ha, C, hv, true, rfl, ?_⟩
    refine ⟨_, rfl, .inl ⟨rfl, _, SqL.of s4⟩, ⟨_, q4, _, .bool true, rfl, rfl, rp (Ext.refl _), .bl true, bits_ok15, ?_⟩⟩
    rw [bits15]
    refine ⟨.int 0, .int 1, .bool true, .bl true, .int _, .int _, by simp, rfl, true, rfl, ?_⟩
    exact k _ f4
  have hi : i < 15 := by omega
  obtain ⟨w, hw⟩ : ∃ w, refW[i]? = some w := ⟨_, List.getElem?_eq_getElem (by exact hi)⟩
  have hwi : wordI i = bang ++ w := by unfold wordI; rw [hw]
  rw [hwi] at k
  obtain ⟨f1, f2'⟩ := bits_facts i hi
  refine ⟨a, D0, true, rfl, f4 _ _ ha, C, hv, true, rfl, ?_⟩
  refine ⟨_, rfl, .inl ⟨rfl, _, SqL.of s4⟩, ⟨_, q4, _, .bool true, rfl, rfl, rp (Ext.refl _), .bl true, bits_ok i hi, ?_⟩⟩
  rw [f1]
  refine ⟨.int 1, .int 1, .bool false, .bl false, .int _, .int _, by simp, rfl, false, rfl, ?_⟩
  refine strL_reads _ _ ⟨by rw [sizeLine_eq]; decide, fun q5 n5 => ?_⟩
  refine ⟨_, rfl, strL_reads _ _ ⟨by rw [sizeLine_eq]; decide, fun q6 n6 => ?_⟩⟩
  have n56 : q5 ≠ q6 := ne_of_none upd_same n6
  refine ⟨q5, q6, _, _, rfl, rfl, (upd_ne n56).trans upd_same, upd_same, by rw [sizeLine_eq]; decide, fun q7 n7 => ?_⟩
  have e7 : Ext H4 (upd (upd (upd H4 q5 (.lst (wdA.map V.str))) q6 (.lst (wdB.map V.str))) q7 (.lst (wdA.map V.str ++ wdB.map V.str))) :=
    ((Ext.new n5).trans (Ext.new n6)).trans (Ext.new n7)
  refine ⟨_, rfl, .inl ⟨rfl, _, SqL.of (e7 _ _ s4)⟩, ⟨_, q4, _, .bool true, i, rfl, rfl, rp e7, .bl true, bits_ok i hi, by simp, f2', ?_⟩⟩
  refine ⟨q7, _, (i : Int), .str w, rfl, rfl, SqL.of upd_same, ?_, ?_⟩
  · have : wdA.map V.str ++ wdB.map V.str = refW.map V.str := rfl
    rw [this, atI_nat _ i (by rw [List.length_map]; exact hi)]
    simp only [List.getElem_map]
    rw [(List.getElem?_eq_some_iff.mp hw).2]
  · have wl : w.length ≤ 10 := by
      have : ∀ i, i < 15 → ∀ w, refW[i]? = some w → w.length ≤ 10 := by decide
      exact this i hi w hw
    refine ⟨.str bang, .str w, .str (bang ++ w), .str (bang ++ w), .str _, .str _, ?_, rfl, ?_⟩
    · have b2 : bang.length = 2 := rfl
      simp only [fAddF]
      rw [if_pos (by rw [sizeLine_eq]; omega)]
    · exact k _ (f4.trans e7)
/-- the def that tells it, asked of such a value -/
structure WordX (P : Program) (w : World) (K : PySem.W.Frag) (mg : Str → Option Value) (base : Heap) (k : Nat) : Prop where
  ex : ∃ (f : Addr) (fd : FuncData), mg "_law_word" = some (.ref f) ∧ PySem.W.keepIn K (.ref f) = true ∧ Binds K fd ["_law_e"] [] ∧ FnG P w K mg base k f fd ["_law_e"] (spWord K mg)
theorem wordX_of {P : Program} {w : World} {K : PySem.W.Frag} {mg : Str → Option Value} {base : Heap} {st : Stmt} {k : Nat} (d : DefK K mg "_law_word" st ["_law_e"]) (S : FnScope ["_law_e", "_law_kinds", "_law_words"] ["_law_e"] (defScope st))
    (body : ∀ (f cd : _) (A : Around) (out : List Env) (s : Shared) (H : Hp) (E : XK), A.guards = some [] → Room k (A.deeper (envOfC "_law_word" (defScope st) s.heap.objs.size f cd)) →
      PSs (cxOf (L2N.CX P w) P w K mg base ["_law_e", "_law_kinds", "_law_words"] "_law_word" (defScope st) f cd A out s H E) (defBody st) (tWordX K mg)) : WordX P w K mg base (k + 1) := by
  obtain ⟨f, fd, h1, F, hb⟩ := d.ex
  refine ⟨f, fd, h1, F.kp, hb, fnG_of F S (fun vs H Q E h => ?_) fun cd A out s H vs Q E hg hr hp => ?_⟩
  · obtain ⟨a, D, i, rfl, _⟩ := h; rfl
  · obtain ⟨a, D, i, rfl, ha, C, hv, hi, hk, q⟩ := hp
    exact ⟨_, body f cd A out s H E hg hr, wordX_reads ha C hv hi hk q⟩
theorem pe_word {X : Cx} {k : Nat} {E : XK} {p pos : Pos} {e : Expr} {t : TA} {j : Nat} (W : WordX X.prog X.w X.K X.mg X.base k) (hgd : X.A.guards = some []) (hr : Room j X.A) (hj : k ≤ j) (hg : Gl X "_law_word") (hx : Ps X E) (ha : PA X [e] t)
    (he : starEach [e] X.env = (false, eval e X.env) :: starEach [] X.env := by rfl) (hpl : (backTo pos (starEach [] X.env)).any (·.1) = false := by rfl) : PE X (.Call (.Name "_law_word" p) [e] [] pos) (tCall (spWord X.K X.mg) [] E t) := by
  obtain ⟨f, fd, h1, h2, h3, h4⟩ := W.ex
  exact pe_callG h4 hgd (hr.mono hj) hg h1 h2 h3 hx ha (by decide) he hpl
end Z

/-! Z, part 44: each class of refusals made with a text, asked for its word (one block of statements). -/
namespace Z
open PySem PySem.Spec PyProof.Rows L2 LamX
theorem wipe_some {sl : Slot} {i : Nat} : ∀ {ks : List Nat} {ρ : Rho}, (wipeR ρ ks)[i]? = some (some sl) → i ∉ ks ∧ ρ[i]? = some (some sl)
  | [], ρ, h => ⟨by simp, h⟩
  | k :: ks, ρ, h => by
    have h : ((wipeR ρ ks).set k none)[i]? = some (some sl) := h
    rw [List.getElem?_set] at h
    by_cases e : k = i
    · rw [if_pos e] at h; split at h <;> cases h
    · rw [if_neg e] at h
      obtain ⟨h1, h2⟩ := wipe_some h
      exact ⟨fun z => (List.mem_cons.mp z).elim (fun w => e w.symm) h1, h2⟩
theorem wipe_len : ∀ {ks : List Nat} {ρ : Rho}, (wipeR ρ ks).length = ρ.length
  | [], ρ => rfl
  | k :: ks, ρ => by
    show ((wipeR ρ ks).set k none).length = _
    rw [List.length_set, wipe_len]
theorem own_some {o : Option (Option Slot)} (h : isOwn o) : ∃ sl, o = some (some sl) := by
  cases o with
  | none => exact h.elim
  | some o =>
    cases o with
    | none => exact h.elim
    | some sl => exact ⟨sl, rfl⟩
theorem RSt.wipeTo {C : Ctx} {H0 : Hp} {g : G} {H : Hp} {σ σ' : L2.St} {ρ : Rho} (r : RSt C H0 g H σ ρ) (ks : List Nat) (hl : σ'.length = σ.length) (h : ∀ n, n ∉ ks → σ'[n]? = σ[n]?) : RSt C H0 g H σ' (wipeR ρ ks) := by
  refine ⟨by rw [wipe_len, r.len, hl], fun i x e => ?_, fun i xs e => ?_, fun i xs e => ?_, fun i j a n o1 o2 e1 e2 => ?_⟩
  · obtain ⟨h1, h2⟩ := wipe_some e
    rw [h i h1]; exact r.sh i x h2
  · obtain ⟨h1, h2⟩ := wipe_some e
    rw [h i h1]; exact r.ol i xs h2
  · obtain ⟨h1, h2⟩ := wipe_some e
    rw [h i h1]; exact r.od i xs h2
  · obtain ⟨s1, q1⟩ := own_some o1
    obtain ⟨s2, q2⟩ := own_some o2
    obtain ⟨a1, b1⟩ := wipe_some q1
    obtain ⟨a2, b2⟩ := wipe_some q2
    rw [q1] at o1; rw [q2] at o2
    rw [h i a1] at e1; rw [h j a2] at e2
    exact r.ne i j a n (by rw [b1]; exact o1) (by rw [b2]; exact o2) e1 e2
def tExc (it : Nat) (A : Addr) : TE := fun σ H Q => tVar it σ H fun _ H1 => ∀ a, H1 a = none → Q (.ref a) (upd H1 a (ExO (.ref A) a))
def tExcL (mg : Str → Option Value) (it : Nat) : List Nat → TA
  | [] => tNil
  | j :: r => tCons (tExc it (clA mg j)) (tExcL mg it r)
def Exs (mg : Str → Option Value) (H : Hp) : List Nat → List Addr → Prop
  | [], [] => True
  | j :: js, a :: as => H a = some (ExO (.ref (clA mg j)) a) ∧ Exs mg H js as
  | _, _ => False
theorem Exs.ext {mg : Str → Option Value} {H H' : Hp} (e : Ext H H') : ∀ {js : List Nat} {as : List Addr}, Exs mg H js as → Exs mg H' js as
  | [], [], _ => trivial
  | j :: js, a :: as, h => ⟨e _ _ h.1, Exs.ext e h.2⟩
  | [], _ :: _, h => h.elim
  | _ :: _, [], h => h.elim
theorem Exs.append {mg : Str → Option Value} {H : Hp} {js2 : List Nat} {as2 : List Addr} (h2 : Exs mg H js2 as2) : ∀ {js : List Nat} {as : List Addr}, Exs mg H js as → Exs mg H (js ++ js2) (as ++ as2)
  | [], [], _ => h2
  | j :: js, a :: as, h => ⟨h.1, Exs.append h2 h.2⟩
  | [], _ :: _, h => h.elim
  | _ :: _, [], h => h.elim
theorem Exs.len {mg : Str → Option Value} {H : Hp} : ∀ {js : List Nat} {as : List Addr}, Exs mg H js as → as.length = js.length
  | [], [], _ => rfl
  | j :: js, a :: as, h => by simp [Exs.len h.2]
  | [], _ :: _, h => h.elim
  | _ :: _, [], h => h.elim
theorem Exs.get {mg : Str → Option Value} {H : Hp} {n j : Nat} : ∀ {js : List Nat} {as : List Addr}, Exs mg H js as → js[n]? = some j → ∃ a, as[n]? = some a ∧ H a = some (ExO (.ref (clA mg j)) a)
  | [], [], _, e => by simp at e
  | k :: js, a :: as, h, e => by
    cases n with
    | zero => simp at e; subst e; exact ⟨a, rfl, h.1⟩
    | succ n => simpa using Exs.get (n := n) h.2 (by simpa using e)
  | [], _ :: _, h, _ => h.elim
  | _ :: _, [], h, _ => h.elim
theorem excL_reads {mg : Str → Option Value} {it : Nat} {σ : L2.St} {v : V} (ht : σ[it]? = some (some v)) : ∀ (js : List Nat) (H : Hp) (R : List V → Hp → Prop), (∀ as H', Ext H H' → Exs mg H' js as → R (as.map V.ref) H') → tExcL mg it js σ H R
  | [], H, R, k => k [] H (Ext.refl H) trivial
  | j :: js, H, R, k => ⟨v, ht, fun a ha => excL_reads ht js _ (fun xs H2 => R (.ref a :: xs) H2) fun as H' e h => k (a :: as) H' ((Ext.new ha).trans e) ⟨e _ _ upd_same, h⟩⟩
/-- the statements, read -/
def tBlk (K : PySem.W.Frag) (mg : Str → Option Value) (E : XK) (B : Addr) (it iw im ix ie ip : Nat) (tR : TS) : TS :=
  tSeq (tAsg (tLst (tExcL mg it [0, 1, 2, 3, 4, 5])) (gName im))
  (tSeq (tAsg (tOp rCat (tVar im) (tLst (tExcL mg it [6, 7, 8, 9, 10, 11]))) (gName im))
  (tSeq (tAsg (tOp rCat (tVar im) (tLst (tExcL mg it [12, 13, 14]))) (gName im))
  (tSeq (tFor (iZipK K (tCons (tVar iw) (tCons (tVar im) tNil))) (gTup K 2 (gCons (gName ix) (gCons (gName ie) gNil)))
    (tIfS (tOr (tTest (tOp (rF2 K fNe) (tCall (spWord K mg) [] E (tCons (tVar ie) tNil)) (tOp (rF2 K fAddF) (tC (.str bang)) (tVar ix)))) (tNot (tB (tIsX K ie (.ref B))))) (tRet (tC (.bl false))) tNext))
  (tSeq (tAsg (tExc it B) (gName ip))
  (tSeq (tIfS (tOr (tTest (tOp (rF2 K fNe) (tCall (spWord K mg) [] E (tCons (tVar ip) tNil)) (tC (.str "! none of them")))) (tNot (tB (tIsX K ip (.type "ValueError"))))) (tRet (tC (.bl false))) tNext)
  tR)))))
theorem fNe_strB (a b : Str) : fNe (.str a) (.str b) = some (.bool (!(a == b))) := by simp [fNe, okEq, PyData.plain, PyData.depth, PyData.eqv]
theorem blk_reads {K : PySem.W.Frag} {mg : Str → Option Value} {E : XK} {B : Addr} (T : ClsT K mg B) {it iw im ix ie ip : Nat} {tR : TS} (d1 : it ≠ im) (d2 : iw ≠ im) (d3 : it ≠ ix) (d4 : it ≠ ie) (d5 : ix ≠ ie) {σ : L2.St} {H : Hp} {D : Ends} {v : V} {wa : Addr}
    (ht : σ[it]? = some (some v)) (hw : σ[iw]? = some (some (.ref wa))) (hwl : H wa = some (.lst (refW.map V.str))) (hl : im < σ.length ∧ ix < σ.length ∧ ie < σ.length ∧ ip < σ.length)
    (k : ∀ H' σ', Ext H H' → σ'.length = σ.length → (∀ n, n ∉ [im, ix, ie, ip] → σ'[n]? = σ[n]?) → tR D σ' H') : tBlk K mg E B it iw im ix ie ip tR D σ H := by
  obtain ⟨l1, l2, l3, l4⟩ := hl
  refine excL_reads ht _ _ _ fun as1 H1 e1 x1 => ⟨by rw [List.length_map, x1.len, sizeLine_eq]; decide, fun p1 n1 => ?_⟩
  have e1' := Ext.new (o := .lst (as1.map V.ref)) n1
  have x1' := x1.ext e1'
  have h1 : (upd H1 p1 (.lst (as1.map V.ref))) p1 = some (.lst (as1.map V.ref)) := upd_same
  have f1 := e1.trans e1'
  generalize upd H1 p1 (.lst (as1.map V.ref)) = H2 at *
  have ht1 : (σ.set im (some (.ref p1)))[it]? = some (some v) := by rw [List.getElem?_set_ne d1.symm]; exact ht
  have hm1 : (σ.set im (some (.ref p1)))[im]? = some (some (.ref p1)) := List.getElem?_set_self l1
  refine ⟨_, hm1, excL_reads ht1 _ _ _ fun as2 H3 e3 x3 => ⟨by rw [List.length_map, x3.len, sizeLine_eq]; decide, fun p2 n2 => ?_⟩⟩
  have e3' := Ext.new (o := .lst (as2.map V.ref)) n2
  have h1b := e3' _ _ (e3 _ _ h1)
  have h2b : (upd H3 p2 (.lst (as2.map V.ref))) p2 = some (.lst (as2.map V.ref)) := upd_same
  have x13 := (x1'.ext (e3.trans e3'))
  have x3' := x3.ext e3'
  have f3 := f1.trans (e3.trans e3')
  generalize upd H3 p2 (.lst (as2.map V.ref)) = H4 at *
  refine ⟨p1, p2, _, _, rfl, rfl, h1b, h2b, ?_, fun p3 n3 => ?_⟩
  · rw [List.length_map, List.length_map, x1.len, x3.len, sizeLine_eq]; decide
  have xx : Exs mg H4 [0, 1, 2, 3, 4, 5, 6, 7, 8, 9, 10, 11] (as1 ++ as2) := Exs.append x3' x13
  rw [← List.map_append]
  generalize as1 ++ as2 = as12 at *
  have e4 := Ext.new (o := .lst (as12.map V.ref)) n3
  have h3b : (upd H4 p3 (.lst (as12.map V.ref))) p3 = some (.lst (as12.map V.ref)) := upd_same
  have xx := xx.ext e4
  have f4 := f3.trans e4
  generalize upd H4 p3 (.lst (as12.map V.ref)) = H5 at *
  have ht2 : ((σ.set im (some (.ref p1))).set im (some (.ref p3)))[it]? = some (some v) := by rw [List.getElem?_set_ne d1.symm]; exact ht1
  have hm2 : ((σ.set im (some (.ref p1))).set im (some (.ref p3)))[im]? = some (some (.ref p3)) := List.getElem?_set_self (by rw [List.length_set]; exact l1)
  refine ⟨_, hm2, excL_reads ht2 _ _ _ fun as3 H6 e6 x6 => ⟨by rw [List.length_map, x6.len, sizeLine_eq]; decide, fun p4 n4 => ?_⟩⟩
  have e6' := Ext.new (o := .lst (as3.map V.ref)) n4
  have h3c := e6' _ _ (e6 _ _ h3b)
  have h4c : (upd H6 p4 (.lst (as3.map V.ref))) p4 = some (.lst (as3.map V.ref)) := upd_same
  have xx2 := xx.ext (e6.trans e6')
  have x6' := x6.ext e6'
  have f6 := f4.trans (e6.trans e6')
  generalize upd H6 p4 (.lst (as3.map V.ref)) = H7 at *
  refine ⟨p3, p4, _, _, rfl, rfl, h3c, h4c, ?_, fun p5 n5 => ?_⟩
  · rw [List.length_map, List.length_map, xx.len, x6.len, sizeLine_eq]; decide
  have xs : Exs mg H7 (List.range 15) (as12 ++ as3) := Exs.append x6' xx2
  rw [← List.map_append]
  generalize as12 ++ as3 = as at *
  have e7 := Ext.new (o := .lst (as.map V.ref)) n5
  have hp : (upd H7 p5 (.lst (as.map V.ref))) p5 = some (.lst (as.map V.ref)) := upd_same
  have xs := xs.ext e7
  have f7 := f6.trans e7
  generalize upd H7 p5 (.lst (as.map V.ref)) = H8 at *
  have hal : as.length = 15 := xs.len
  have lset : (((σ.set im (some (.ref p1))).set im (some (.ref p3))).set im (some (.ref p5))).length = σ.length := by simp
  have hother : ∀ n, n ≠ im → (((σ.set im (some (.ref p1))).set im (some (.ref p3))).set im (some (.ref p5)))[n]? = σ[n]? := fun n hn => by
    rw [List.getElem?_set_ne hn.symm, List.getElem?_set_ne hn.symm, List.getElem?_set_ne hn.symm]
  have hm3 : (((σ.set im (some (.ref p1))).set im (some (.ref p3))).set im (some (.ref p5)))[im]? = some (some (.ref p5)) := List.getElem?_set_self (by simpa using l1)
  show tSeq _ _ _ (((σ.set im (some (.ref p1))).set im (some (.ref p3))).set im (some (.ref p5))) H8
  generalize ((σ.set im (some (.ref p1))).set im (some (.ref p3))).set im (some (.ref p5)) = σ1 at *
  clear h1 hm1 ht1 h1b h2b h3b h3c h4c hm2 ht2 x1 x1' x3 x13 x3' xx xx2 x6 x6'
  have ht3 : σ1[it]? = some (some v) := by rw [hother it d1]; exact ht
  have hw3 : σ1[iw]? = some (some (.ref wa)) := by rw [hother iw d2]; exact hw
  have hwl3 := f7 _ _ hwl
  refine ⟨_, hw3, _, hm3, true, true, wa, p5, refW.map V.str, as.map V.ref, rfl, SqL.of hwl3, SqL.of hp, ?_⟩
  refine ⟨fun i m σ' H' => i + m = 15 ∧ Ext H8 H' ∧ σ'.length = σ1.length ∧ ∀ n, n ≠ ix → n ≠ ie → σ'[n]? = σ1[n]?, ⟨15, rfl, Ext.refl _, rfl, fun _ _ _ => rfl⟩, ?_⟩
  rintro i m σ' H' ⟨im15, eH, sl, so⟩
  have hpL := eH _ _ hp
  have hwL := eH _ _ hwl3
  cases m with
  | zero =>
    refine .inl ⟨⟨_, _, SqL.of hwL, SqL.of hpL, ?_⟩, ?_⟩
    · rw [List.length_map, List.length_map, hal]; show i = min 15 15; omega
    · have ht4 : σ'[it]? = some (some v) := by rw [so it d3 d4]; exact ht3
      refine ⟨_, ht4, fun a ha => ?_⟩
      have e8 := Ext.new (o := ExO (.ref B) a) ha
      have hB : (upd H' a (ExO (.ref B) a)) a = some (ExO (.ref B) a) := upd_same
      have hip : (σ'.set ip (some (.ref a)))[ip]? = some (some (.ref a)) := List.getElem?_set_self (by omega)
      generalize upd H' a (ExO (.ref B) a) = H9 at *
      refine ⟨_, hip, a, B, 15, rfl, hB, T.CB, T.VB, Nat.le_refl _, fun j hj => ?_, fun H10 e10 => ?_⟩
      · rw [T.dn j hj, decide_eq_false (by omega)]
      · have hw15 : wordI 15 = "! none of them" := rfl
        refine ⟨.str (wordI 15), .str "! none of them", .bool false, .bl false, .str _, .str _, ?_, rfl, false, rfl, ?_⟩
        · rw [hw15, fNe_strB]; simp
        refine ⟨a, B, true, hip, e10 _ _ hB, T.CB, T.VB, true, rfl, ?_⟩
        refine k H10 _ (((f7.trans eH).trans e8).trans e10) (by rw [List.length_set, sl, lset]) fun n hn => ?_
        simp only [List.mem_cons, List.not_mem_nil, or_false, not_or] at hn
        rw [List.getElem?_set_ne (Ne.symm hn.2.2.2), so n hn.2.1 hn.2.2.1, hother n hn.1]
  | succ m =>
    have hi : i < 15 := by omega
    obtain ⟨a, ea, ha⟩ := xs.get (n := i) (j := i) (by rw [List.getElem?_range hi])
    obtain ⟨w, hwi⟩ : ∃ w, refW[i]? = some w := ⟨_, List.getElem?_eq_getElem (by exact hi)⟩
    have ew : (refW.map V.str)[i]? = some (.str w) := by rw [List.getElem?_map, hwi]; rfl
    have eaV : (as.map V.ref)[i]? = some (.ref a) := by rw [List.getElem?_map, ea]; rfl
    refine .inr ⟨⟨_, _, _, _, SqL.of hwL, SqL.of hpL, ew, eaV⟩, fun σ2 H2 => i + 1 + m = 15 ∧ Ext H8 H2 ∧ σ2.length = σ1.length ∧ ∀ n, n ≠ ix → n ≠ ie → σ2[n]? = σ1[n]?, fun σ2 H2 h => ⟨m, by omega, h⟩, ?_⟩
    rintro _ _ ⟨Tt, x, y, ob, rfl, hT, rfl, hob, hx, hy⟩
    have ex : x = .str w := by have := hx _ (SqL.of hwL); rw [ew] at this; exact (Option.some.inj this).symm
    have ey : y = .ref a := by have := hy _ (SqL.of hpL); rw [eaV] at this; exact (Option.some.inj this).symm
    subst ex ey
    have e9 := Ext.new (o := .frz ob (.tup [V.str w, .ref a])) hT
    have hTt : (upd H' Tt (.frz ob (.tup [V.str w, .ref a]))) Tt = some (.frz ob (.tup [V.str w, .ref a])) := upd_same
    generalize upd H' Tt (.frz ob (.tup [V.str w, .ref a])) = H9 at *
    refine ⟨Tt, [.str w, .ref a], rfl, .inl (.inr ⟨ob, hTt⟩), rfl, _, _, rfl, _, _, rfl, rfl, ?_⟩
    have l2' : ix < σ'.length := by omega
    have l3' : ie < (σ'.set ix (some (.str w))).length := by rw [List.length_set]; omega
    have hix : ((σ'.set ix (some (.str w))).set ie (some (.ref a)))[ix]? = some (some (.str w)) := by rw [List.getElem?_set_ne (Ne.symm d5), List.getElem?_set_self l2']
    have hie : ((σ'.set ix (some (.str w))).set ie (some (.ref a)))[ie]? = some (some (.ref a)) := List.getElem?_set_self l3'
    have ha9 := e9 _ _ (eH _ _ ha)
    have hwI : wordI i = bang ++ w := by unfold wordI; rw [hwi]
    have wl : w.length ≤ 10 := by
      have : ∀ i, i < 15 → ∀ w, refW[i]? = some w → w.length ≤ 10 := by decide
      exact this i hi w hwi
    refine ⟨_, hie, a, clA mg i, i, rfl, ha9, T.C i hi, T.V i hi, by omega, fun j hj => T.o i j hi hj, fun H10 e10 => ?_⟩
    refine ⟨_, hix, .str bang, .str w, .str (bang ++ w), .str (bang ++ w), .str _, .str _, ?_, rfl, ?_⟩
    · have b2 : bang.length = 2 := rfl
      simp only [fAddF]
      rw [if_pos (by rw [sizeLine_eq]; omega)]
    refine ⟨.str (wordI i), .str (bang ++ w), .bool false, .bl false, .str _, .str _, ?_, rfl, false, rfl, ?_⟩
    · rw [hwI, fNe_strB]; simp
    refine ⟨a, clA mg i, true, hie, e10 _ _ ha9, T.C i hi, T.up i hi, true, rfl, ?_⟩
    refine ⟨by omega, (eH.trans e9).trans e10, by simp [sl], fun n n1 n2 => ?_⟩
    rw [List.getElem?_set_ne (Ne.symm n2), List.getElem?_set_ne (Ne.symm n1)]
    exact so n n1 n2
def strOf : PyData → Option Str
  | .str x => some x
  | _ => none
def isWL (ws : List PyData) : Bool := match ws.mapM strOf with
  | some l => l == refW
  | none => false
theorem isWL_eq {ws : List PyData} (h : isWL ws = true) : ws = refW.map PyData.str := by
  unfold isWL at h
  cases e : ws.mapM strOf with
  | none => rw [e] at h; cases h
  | some l =>
    rw [e] at h
    have hl : l = refW := by simpa using h
    subst hl
    clear h
    have key : ∀ (ws : List PyData) (l : List Str), ws.mapM strOf = some l → ws = l.map PyData.str := by
      intro ws
      induction ws with
      | nil => intro l e; simp at e; subst e; rfl
      | cons x r ih =>
        intro l e
        rw [List.mapM_cons] at e
        cases x with
        | str z =>
          cases er : r.mapM strOf with
          | none => rw [er] at e; simp [strOf] at e
          | some l' =>
            rw [er] at e
            simp [strOf] at e
            subst e
            rw [ih l' er]; rfl
        | _ => simp [strOf] at e
    exact key _ _ e
def sBlk (it iw : Nat) (ks : List Nat) : Sm Fl := fun ρ M => match ρ[it]?, ρ[iw]? with
  | some (some (.sh (.d (.str _)))), some (some (.sh (.d (.list ws)))) => if isWL ws = true ∧ ks.all (fun k => decide (k < ρ.length)) = true then .ok (.nx (wipeR ρ ks)) M else .stuck
  | _, _ => .stuck
theorem es_blk {C : Ctx} {E : XK} {B : Addr} {it iw im ix ie ip : Nat} {tR : TS} {mR : Sm Fl} (T : ClsT C.K C.mg B) (hR : EvS C E tR mR) (d1 : it ≠ im) (d2 : iw ≠ im) (d3 : it ≠ ix) (d4 : it ≠ ie) (d5 : ix ≠ ie) :
    EvS C E (tBlk C.K C.mg E B it iw im ix ie ip tR) (sSeq (sBlk it iw [im, ix, ie, ip]) mR) := fun H0 g0 g M H σ ρ D o s r p => by
  unfold sSeq sBlk at p
  split at p
  · rename_i t ws h1 h2
    split at p
    · rename_i hc
      obtain ⟨hw, hks⟩ := hc
      have hws := isWL_eq hw
      subst hws
      obtain ⟨v, hv, rv⟩ := r.sh it _ h1
      obtain ⟨u, hu, ru⟩ := r.sh iw _ h2
      have : ∃ wa, u = .ref wa ∧ H wa = some (.lst (refW.map V.str)) := by
        have ru : Rp C.K g.S u (.list (refW.map PyData.str)) := ru
        cases ru with
        | @lst a xs _ hs ha =>
          refine ⟨a, rfl, ?_⟩
          have hx : xs = refW.map V.str := by
            have key : ∀ (l : List Str) (xs : List V), RpAll C.K g.S xs (l.map PyData.str) → xs = l.map V.str := by
              intro l
              induction l with
              | nil => intro xs h; cases h; rfl
              | cons z r ih =>
                intro xs h
                cases h with
                | cons h1 h2 => rw [ih _ h2, rstr h1]; rfl
            exact key _ _ ha
          rw [← hx]; exact o.ex _ _ hs
      obtain ⟨wa, rfl, hwa⟩ := this
      have hlen : ∀ k ∈ [im, ix, ie, ip], k < σ.length := fun k hk => by
        have := List.all_eq_true.mp hks k hk
        rw [← r.len]; simpa using this
      refine blk_reads T d1 d2 d3 d4 d5 hv hu hwa ⟨hlen im (by simp), hlen ix (by simp), hlen ie (by simp), hlen ip (by simp)⟩ fun H' σ' e sl so => ?_
      obtain ⟨o', st⟩ := o.ext e
      exact hR H0 g0 g M H' σ' _ D o' (s.trans st) ((r.step st).wipeTo _ sl so) p
    · exact p.elim
  · exact p.elim
end Z

/-! Z, part 45: what the head tells of the classes that are made as values. -/
namespace Z
open PySem PySem.Spec PyProof.Rows L2 LamX
section
variable {K : PySem.W.Frag} {mg : Str → Option Value} {h : Heap}
theorem XZ.cl {c : Str} (x : XZ K mg c) {j : Nat} (hc : refs[j]? = some c) : mg c = some (.ref (clA mg j)) ∧ PySem.W.excIn K (clA mg j) [.type "ValueError", .type "Exception", .type "BaseException", .type "object"] "ValueError.__new__" = true ∧ PySem.W.keepIn K (.ref (clA mg j)) = true := by
  obtain ⟨A, h1, h2, h3, _⟩ := x.ex
  rw [clA_of hc h1]
  exact ⟨h1, h2, h3⟩
theorem XZ.clB {c : Str} (x : XZ K mg c) {B : Addr} (hB : mg c = some (.ref B)) : PySem.W.excIn K B [.type "ValueError", .type "Exception", .type "BaseException", .type "object"] "ValueError.__new__" = true ∧ PySem.W.keepIn K (.ref B) = true := by
  obtain ⟨A, h1, h2, h3, _⟩ := x.ex
  rw [hB] at h1
  cases h1
  exact ⟨h2, h3⟩
def tenX (K : PySem.W.Frag) : Bool :=
  errX K && ((He.Fa.glo "MillError").ok K && (He.eqO (PySem.W.findIn K (.ref (He.ga K "MillError")) "__getattribute__") (some (some (.builtin "BaseException.__getattribute__"))) && (He.eqO (PySem.W.findIn K (.ref (He.ga K "MillError")) "__getattr__") (some none) &&
    (decide (PySem.W.subIn K (.ref (He.ga K "MillError")) (.type "BaseException") = some true) && (PySem.W.hasDictIn K (He.ga K "MillError") && (He.eqO (PySem.W.findIn K (.ref (He.ga K "MillError")) "__class__") (some (some (.builtin "object.__class__"))) && (decide (PySem.W.mroIn K (He.ga K "MillError") (.type "object") = some true) &&
    (He.eqO (PySem.W.specialIn K (.builtin "object.__class__") "__get__") (some (some (.builtin "getset_descriptor.__get__"))) && (decide (PySem.W.takesIn K (.builtin "object.__class__") = some true) &&
    (decide (PySem.W.kitOne K (.ref (He.ga K "MillError")) (.type "ValueError") = some true) &&
      refs.all fun x => (He.Fa.glo x).ok K && (decide (PySem.W.kitOne K (.ref (He.ga K x)) (.ref (He.ga K "MillError")) = some true) && decide (PySem.W.kitOne K (.ref (He.ga K "MillError")) (.ref (He.ga K x)) = some false))))))))))))
theorem tenX_err (c : tenX K = true) : errX K = true := (He.ba c).1
theorem hTen (kx : K.In h) (g : h.Ns mainGlobals mg) (c : tenX K = true) : TenK K mg := by
  obtain ⟨_, c1⟩ := He.ba c
  obtain ⟨c1, c2⟩ := He.ba c1
  obtain ⟨c2, c3⟩ := He.ba c2
  obtain ⟨c3, c4⟩ := He.ba c3
  obtain ⟨c4, c5⟩ := He.ba c4
  obtain ⟨c5, c6⟩ := He.ba c5
  obtain ⟨c6, c7⟩ := He.ba c6
  obtain ⟨c7, c8⟩ := He.ba c7
  obtain ⟨c8, c9⟩ := He.ba c8
  obtain ⟨c9, c10⟩ := He.ba c9
  obtain ⟨c10, c11⟩ := He.ba c10
  refine ⟨He.ga K "MillError", He.glo_ok kx g c1, excC_of (He.eqO_ok c2) (He.eqO_ok c3) (of_decide_eq_true c4) c5 (He.eqO_ok c6) (He.eqO_ok c8) (of_decide_eq_true c9) (of_decide_eq_true c7), of_decide_eq_true c10, fun i x hx => ?_⟩
  obtain ⟨d1, d2⟩ := He.ba (List.all_eq_true.mp c11 x (List.mem_of_getElem? hx))
  obtain ⟨d2, d3⟩ := He.ba d2
  exact ⟨He.ga K x, He.glo_ok kx g d1, of_decide_eq_true d2, of_decide_eq_true d3⟩
end
end Z

/-! Plain part 0: what holds behind a run (Wp), stepping forward. -/
namespace Z
open PySem PySem.Spec PyProof.Rows L2
/-- a type that hangs on a term in name alone: so simp leaves that term as it is (with -dsimp) -/
abbrev Ph {β : Sort 1} (_ : β) (γ : Type) : Type := γ
@[irreducible] def Wp {α : Type} (Q : α → Store → Prop) (r : Ph Q (Res α)) : Prop := match (r : Res α) with
  | .ok a M => Q a M
  | _ => False
structure Hold (p : Prop) (u : Ph (fun _ : Unit => p) Unit) : Prop where
  get : p
@[simp] theorem wp_ok {α : Type} (a : α) (M : Store) (Q : α → Store → Prop) : Wp Q (.ok a M) = Q a M := by with_unfolding_all rfl
theorem wp_exn {α : Type} (c : Str) (M : Store) (Q : α → Store → Prop) : Wp Q (.exn c M) = False := by with_unfolding_all rfl
theorem wp_stk {α : Type} (Q : α → Store → Prop) : Wp Q .stuck = False := by with_unfolding_all rfl
theorem Wp.get {α : Type} {r : Res α} {P : α → Store → Prop} (h : Wp P r) : ∃ a M, r = .ok a M ∧ P a M := by
  cases r with
  | ok a M => rw [wp_ok] at h; exact ⟨a, M, rfl, h⟩
  | exn c M => rw [wp_exn] at h; exact h.elim
  | stuck => rw [wp_stk] at h; exact h.elim
theorem Wp.mono {α : Type} {r : Res α} {P Q : α → Store → Prop} (h : Wp P r) (k : ∀ a M, P a M → Q a M) : Wp Q r := by
  obtain ⟨a, M, rfl, h2⟩ := h.get
  rw [wp_ok]; exact k a M h2
theorem Wp.of {α : Type} {r : Res α} {P : α → Store → Prop} {a : α} {M : Store} (h : r = .ok a M) (k : P a M) : Wp P r := by rw [h, wp_ok]; exact k
/-- a branch: nothing is looked at within its ways until the test is known -/
def WIf (p q : Prop) (c : Ph (fun _ : Unit => (p, q)) Bool) : Prop := if (c : Bool) = true then p else q
@[simp] theorem wif_tt (p q : Prop) : WIf p q true = p := rfl
@[simp] theorem wif_ff (p q : Prop) : WIf p q false = q := rfl
def nxt (b : Sm Fl) (f : Fl) (M : Store) : Res Fl := match f with
  | .nx ρ1 => b ρ1 M
  | f => .ok f M
@[simp ↓] theorem wp_nxt (b : Sm Fl) (ρ : Rho) (M : Store) (Q : Fl → Store → Prop) : Wp Q (nxt b (.nx ρ) M) = Wp Q (b ρ M) := by with_unfolding_all rfl
@[simp ↓] theorem wp_nxt_rt (b : Sm Fl) (x : Val) (M : Store) (Q : Fl → Store → Prop) : Wp Q (nxt b (.rt x) M) = Q (.rt x) M := by with_unfolding_all rfl
@[simp ↓] theorem wp_nxt_bk (b : Sm Fl) (ρ : Rho) (M : Store) (Q : Fl → Store → Prop) : Wp Q (nxt b (.bk ρ) M) = Q (.bk ρ) M := by with_unfolding_all rfl
@[simp ↓] theorem wp_nxt_ct (b : Sm Fl) (ρ : Rho) (M : Store) (Q : Fl → Store → Prop) : Wp Q (nxt b (.ct ρ) M) = Q (.ct ρ) M := by with_unfolding_all rfl
def WOl (P : List PyData → Prop) (o : Ph P (Option (Option Slot))) : Prop := match (o : Option (Option Slot)) with
  | some (some (.ol xs)) => P xs
  | _ => False
@[simp] theorem wol_ol (P : List PyData → Prop) (xs : List PyData) : WOl P (some (some (.ol xs))) = P xs := by with_unfolding_all rfl
theorem wol_eq {ρ : Rho} {i : Nat} {f : List PyData → Res Fl} {Q : Fl → Store → Prop} : Wp Q (wOl ρ i f) = WOl (fun xs => Wp Q (f xs)) ρ[i]? := by
  unfold wOl WOl
  generalize ρ[i]? = o
  rcases o with _ | _ | (x | x | x) <;> (with_unfolding_all rfl)
section
variable {α β : Type} {M : Store} {ρ : Rho}
theorem wp_bindE (r : Res α) (f : α → Store → Res β) (Q : β → Store → Prop) : Wp Q (r.bind f) = Wp (fun a M => Wp Q (f a M)) r := by cases r <;> (with_unfolding_all rfl)
@[simp ↓] theorem wp_bind (r : Res α) (f : α → Store → Res β) (Q : β → Store → Prop) : Wp Q (r.bind f) = Wp (fun a M => Wp Q (f a M)) r := wp_bindE r f Q
variable {Q : Val → Store → Prop} {QB : Bool → Store → Prop} {QF : Fl → Store → Prop} {QL : List Val → Store → Prop} {QS : Src → Store → Prop} {QO : Option Int → Store → Prop} {QR : Rho → Store → Prop}
@[simp ↓] theorem wp_e1 (f : PyData → Option PyData) (a : Sm Val) : Wp Q (e1 f a ρ M) = Wp (fun x M1 => Wp Q (lift1 f x M1)) (a ρ M) := wp_bindE ..
@[simp ↓] theorem wp_e2 (f : PyData → PyData → Option PyData) (a b : Sm Val) : Wp Q (e2 f a b ρ M) = Wp (fun x M1 => Wp (fun y M2 => Wp Q (lift2 f x y M2)) (b ρ M1)) (a ρ M) := by
  show Wp Q (Res.bind _ _) = _
  rw [wp_bindE]; congr; funext x M1; rw [wp_bindE]
@[simp ↓] theorem wp_and (a b : Sm Val) : Wp Q (eAnd a b ρ M) = Wp (fun x M1 => Wp (fun c M2 => WIf (Wp Q (b ρ M2)) (Q (.d (.bool false)) M2) c) (asB x M1)) (a ρ M) := by
  show Wp Q (Res.bind _ _) = _
  rw [wp_bindE]; congr; funext x M1; rw [wp_bindE]; congr; funext c M2; cases c <;> (with_unfolding_all rfl)
@[simp ↓] theorem wp_or (a b : Sm Val) : Wp Q (eOr a b ρ M) = Wp (fun x M1 => Wp (fun c M2 => WIf (Q (.d (.bool true)) M2) (Wp Q (b ρ M2)) c) (asB x M1)) (a ρ M) := by
  show Wp Q (Res.bind _ _) = _
  rw [wp_bindE]; congr; funext x M1; rw [wp_bindE]; congr; funext c M2; cases c <;> (with_unfolding_all rfl)
@[simp ↓] theorem wp_not (a : Sm Val) : Wp Q (eNot a ρ M) = Wp (fun x M1 => Wp (fun c M2 => Q (.d (.bool (!c))) M2) (asB x M1)) (a ρ M) := by
  show Wp Q (Res.bind _ _) = _
  rw [wp_bindE]; congr; funext x M1; rw [wp_bindE]; with_unfolding_all rfl
@[simp ↓] theorem wp_isa (p : PyData → Bool) (a : Sm Val) : Wp Q (eIsa p a ρ M) = Wp (fun x M1 => Wp Q (lift1 (fun d => some (.bool (p d))) x M1)) (a ρ M) := wp_bindE ..
@[simp ↓] theorem wp_tVal (a : Sm Val) : Wp QB (tVal a ρ M) = Wp (fun x M1 => Wp QB (asB x M1)) (a ρ M) := wp_bindE ..
@[simp ↓] theorem wp_tNot (a : Sm Bool) : Wp QB (tNotM a ρ M) = Wp (fun b M1 => QB (!b) M1) (a ρ M) := by
  show Wp QB (Res.bind _ _) = _
  rw [wp_bindE]; with_unfolding_all rfl
@[simp ↓] theorem wp_tAnd (a b : Sm Bool) : Wp QB (tAndM a b ρ M) = Wp (fun c M1 => WIf (Wp QB (b ρ M1)) (QB false M1) c) (a ρ M) := (wp_bindE ..).trans (by congr; funext c M1; cases c <;> (with_unfolding_all rfl))
@[simp ↓] theorem wp_tOr (a b : Sm Bool) : Wp QB (tOrM a b ρ M) = Wp (fun c M1 => WIf (QB true M1) (Wp QB (b ρ M1)) c) (a ρ M) := (wp_bindE ..).trans (by congr; funext c M1; cases c <;> (with_unfolding_all rfl))
@[simp ↓] theorem wp_eIf (t : Sm Bool) (a b : Sm Val) : Wp Q (eIf t a b ρ M) = Wp (fun c M1 => WIf (Wp Q (a ρ M1)) (Wp Q (b ρ M1)) c) (t ρ M) := (wp_bindE ..).trans (by congr; funext c M1; cases c <;> (with_unfolding_all rfl))
@[simp ↓] theorem wp_chain (f f' : PyData → PyData → Option PyData) (a b c : Sm Val) : Wp Q (eChain f f' a b c ρ M) = Wp (fun x M1 => Wp (fun y M2 => Wp (fun z M3 => Wp (fun k M4 =>
    WIf (Wp (fun w M5 => Wp Q (lift2 f' y w M5)) (c ρ M4)) (Q (.d (.bool false)) M4) k) (asB z M3)) (lift2 f x y M2)) (b ρ M1)) (a ρ M) := by
  show Wp Q (Res.bind _ _) = _
  rw [wp_bindE]; congr; funext x M1; rw [wp_bindE]; congr; funext y M2; rw [wp_bindE]; congr; funext z M3; rw [wp_bindE]; congr; funext k M4
  cases k with
  | true => exact wp_bindE _ _ _
  | false => with_unfolding_all rfl
@[simp ↓] theorem wp_aCons (a : Sm Val) (b : Sm (List Val)) : Wp QL (aCons a b ρ M) = Wp (fun x M1 => Wp (fun xs M2 => QL (x :: xs) M2) (b ρ M1)) (a ρ M) := by
  show Wp QL (Res.bind _ _) = _
  rw [wp_bindE]; congr; funext x M1; rw [wp_bindE]; with_unfolding_all rfl
@[simp ↓] theorem wp_eTup (a : Sm (List Val)) : Wp Q (eTup a ρ M) = Wp (fun xs M1 => Wp (fun ys M2 => Wp Q (mkTup ys M2)) (sz xs M1)) (a ρ M) := by
  show Wp Q (Res.bind (Res.bind _ _) _) = _
  rw [wp_bindE, wp_bindE]
@[simp ↓] theorem wp_lLst (a : Sm (List Val)) : Wp QL (lLst a ρ M) = Wp (fun xs M1 => Wp QL (sz xs M1)) (a ρ M) := wp_bindE ..
@[simp ↓] theorem wp_eFrz (a : Sm (List Val)) : Wp Q (eFrz a ρ M) = Wp (fun xs M1 => Wp Q (frz xs M1)) (a ρ M) := wp_bindE ..
@[simp ↓] theorem wp_eLay (a : Sm (List Val)) : Wp Q (eLay a ρ M) = Wp (fun xs M1 => Wp Q (lay xs M1)) (a ρ M) := wp_bindE ..
@[simp ↓] theorem wp_eCG (f : List Val → Store → Res Val) (a : Sm (List Val)) : Wp Q (eCG f a ρ M) = Wp (fun xs M1 => Wp Q (f xs M1)) (a ρ M) := wp_bindE ..
@[simp ↓] theorem wp_eG (f : Val → Val → Store → Res Val) (a b : Sm Val) : Wp Q (eG f a b ρ M) = Wp (fun x M1 => Wp (fun y M2 => Wp Q (f x y M2)) (b ρ M1)) (a ρ M) := by
  show Wp Q (Res.bind _ _) = _
  rw [wp_bindE]; congr; funext x M1; rw [wp_bindE]
@[simp ↓] theorem wp_eCB (f : List PyData → Option PyData) (a : Sm (List Val)) : Wp Q (eCB f a ρ M) = Wp (fun xs M1 => Wp Q (liftn f xs M1)) (a ρ M) := wp_bindE ..
@[simp ↓] theorem wp_eCall (n : Nat) (f : List Val → Store → Res Val) (a : Sm (List Val)) : Wp Q (eCall n f a ρ M) = Wp (fun xs M1 => Wp Q (if xs.length = n then f xs M1 else .stuck)) (a ρ M) := wp_bindE ..
@[simp ↓] theorem wp_tupOf (a : Sm Val) : Wp Q (eTupOf a ρ M) = Wp (fun x M1 => Wp Q (match itemsK M1 true x with
  | some xs => mkTup xs M1
  | none => match itemsK M1 false x with
    | some _ => .ok x M1
    | none => .stuck)) (a ρ M) := wp_bindE ..
@[simp ↓] theorem wp_sl (a : Sm Val) (l h : Sm (Option Int)) : Wp Q (eSl a l h ρ M) = Wp (fun x M1 => Wp (fun lo M2 => Wp (fun hi M3 => Wp Q (lift1 (fSl lo hi) x M3)) (h ρ M2)) (l ρ M1)) (a ρ M) := by
  show Wp Q (Res.bind _ _) = _
  rw [wp_bindE]; congr; funext x M1; rw [wp_bindE]; congr; funext lo M2; rw [wp_bindE]
@[simp ↓] theorem wp_oS (a : Sm Val) : Wp QO (oS a ρ M) = Wp (fun x M1 => Wp QO (match x with
  | .d (.int i) => .ok (some i) M1
  | _ => .stuck)) (a ρ M) := wp_bindE ..
@[simp ↓] theorem wp_seq (a b : Sm Fl) : Wp QF (sSeq a b ρ M) = Wp (fun f M1 => Wp QF (nxt b f M1)) (a ρ M) := wp_bindE ..
@[simp ↓] theorem wp_ret (a : Sm Val) : Wp QF (sRet a ρ M) = Wp (fun x M1 => QF (.rt x) M1) (a ρ M) := by
  show Wp QF (Res.bind _ _) = _
  rw [wp_bindE]; with_unfolding_all rfl
@[simp ↓] theorem wp_drop (a : Sm Val) : Wp QF (sDrop a ρ M) = Wp (fun _ M1 => QF (.nx ρ) M1) (a ρ M) := by
  show Wp QF (Res.bind _ _) = _
  rw [wp_bindE]; with_unfolding_all rfl
@[simp ↓] theorem wp_if (t : Sm Bool) (a b : Sm Fl) : Wp QF (sIf t a b ρ M) = Wp (fun c M1 => WIf (Wp QF (a ρ M1)) (Wp QF (b ρ M1)) c) (t ρ M) := (wp_bindE ..).trans (by congr; funext c M1; cases c <;> (with_unfolding_all rfl))
@[simp ↓] theorem wp_asg (a : Sm Val) (t : Tg) : Wp QF (sAsg a t ρ M) = Wp (fun x M1 => Wp (fun ρ' M2 => QF (.nx ρ') M2) (t x ρ M1)) (a ρ M) := by
  show Wp QF (Res.bind _ _) = _
  rw [wp_bindE]; congr; funext x M1; rw [wp_bindE]; with_unfolding_all rfl
@[simp ↓] theorem wp_asgL (i : Nat) (m : Sm (List Val)) : Wp QF (sAsgL i m ρ M) = Wp (fun xs M1 => Wp QF (match pures xs with
  | some ds => .ok (.nx (ρ.set i (some (.ol ds)))) M1
  | none => .stuck)) (m ρ M) := wp_bindE ..
@[simp ↓] theorem wp_frz (i : Nat) (m : Sm Fl) : Wp QF (sFrz i m ρ M) = Wp QF (m (frzR ρ i) M) := by with_unfolding_all rfl
@[simp ↓] theorem wp_par (i j : Nat) (m : Sm (List Val)) : Wp QF (sPar i j m ρ M) = Wp (fun xs M1 => Wp QF (match xs with
  | [x, y] => .ok (.nx ((ρ.set i (some (.sh x))).set j (some (.sh y)))) M1
  | _ => .stuck)) (m ρ M) := wp_bindE ..
@[simp ↓] theorem wp_kill (ks : List Nat) (m : Sm Fl) : Wp QF (sKill ks m ρ M) = Wp (fun f M1 => QF (killF ks f) M1) (m ρ M) := by
  show Wp QF (Res.bind _ _) = _
  rw [wp_bindE]; with_unfolding_all rfl
@[simp ↓] theorem wp_pre (ks : List Nat) (m : Sm Fl) : Wp QF (sPre ks m ρ M) = Wp QF (m (wipeR ρ ks) M) := by with_unfolding_all rfl
theorem okOnlyE (r : Res (List Val)) : Wp QL (okOnly r) = Wp QL r := by cases r <;> (with_unfolding_all rfl)
@[simp ↓] theorem wp_sOne (a : Sm Val) : Wp QS (sOne a ρ M) = Wp (fun x M1 => Wp QS (match kindV M1 x with
  | some k => .ok (.one k x) M1
  | none => .stuck)) (a ρ M) := wp_bindE ..
@[simp ↓] theorem wp_sRng1 (a : Sm (List Val)) : Wp QS (sRng1 a ρ M) = Wp (fun xs M1 => Wp QS (match xs with
  | [.d (.int j)] => if inR j = true then .ok (.rng 0 1 j.toNat) M1 else .stuck
  | _ => .stuck)) (a ρ M) := wp_bindE ..
@[simp ↓] theorem wp_sEnum (a : Sm (List Val)) : Wp QS (sEnum a ρ M) = Wp (fun xs M1 => Wp QS (match xs with
  | [x] => match kindV M1 x with
    | some k => .ok (.enum k x) M1
    | none => .stuck
  | _ => .stuck)) (a ρ M) := wp_bindE ..
@[simp ↓] theorem wp_sZip (a : Sm (List Val)) : Wp QS (sZip a ρ M) = Wp (fun xs M1 => Wp QS (match xs with
  | [x, y] => match kindV M1 x, kindV M1 y with
    | some k1, some k2 => .ok (.zip k1 k2 x y) M1
    | _, _ => .stuck
  | _ => .stuck)) (a ρ M) := wp_bindE ..
@[simp ↓] theorem wp_lSort (a : Sm Val) : Wp QL (lSort a ρ M) = Wp (fun x M1 => Wp QL (match load M1 x with
  | some (.list ds) => if okSort ds = true then .ok ((sortD ds).map Val.d) M1 else .stuck
  | _ => .stuck)) (a ρ M) := wp_bindE ..
@[simp ↓] theorem wp_lListOf (a : Sm Val) : Wp QL (lListOf a ρ M) = Wp (fun x M1 => Wp QL (match itemsK M1 true x with
  | some xs => .ok xs M1
  | none => match itemsK M1 false x with
    | some xs => .ok xs M1
    | none => .stuck)) (a ρ M) := (wp_bindE _ _ _).trans (by congr)
@[simp ↓] theorem wp_lRange (a : Sm Val) : Wp QL (lRange a ρ M) = Wp (fun x M1 => Wp QL (match x with
  | .d (.int n) => if 0 ≤ n ∧ n ≤ 100000 then .ok (rgD n) M1 else .stuck
  | _ => .stuck)) (a ρ M) := wp_bindE ..
@[simp ↓] theorem wp_sApp (i : Nat) (m : Sm Val) : Wp QF (sApp i m ρ M) = WOl (fun xs => Wp (fun y M1 => Wp QF (match y with
  | .d y => if xs.length < 100000 then .ok (.nx (ρ.set i (some (.ol (xs ++ [y]))))) M1 else .stuck
  | _ => .stuck)) (m ρ M)) ρ[i]? := wol_eq.trans (by congr; funext xs; exact wp_bindE _ _ _)
@[simp ↓] theorem wp_back (a : Sm Val) : Wp Q (eBack a ρ M) = Wp (fun x M1 => Wp Q (lift1 fBack x M1)) (a ρ M) := wp_bindE ..
/-- a method of a list by reference -/
def WLm (P : Prop) (o : Ph (fun _ : Unit => P) (Option (Nat × List Val))) : Prop := match (o : Option (Nat × List Val)) with
  | some _ => P
  | none => False
@[simp] theorem wlm_some (P : Prop) (x : Nat × List Val) : WLm P (some x) = P := by with_unfolding_all rfl
@[simp ↓] theorem wp_eLm (mo : Sm Val) (mA : Sm (List Val)) (f : LmF) : Wp Q (eLm mo mA f ρ M) = Wp (fun y M1 => WLm (Wp (fun as M2 => Wp Q (match lstAt M2 y with
    | some (n, xs) => match f xs as with
      | some (r, ys) => .ok r (M2.set n (.lst ys))
      | none => .stuck
    | none => .stuck)) (mA ρ M1)) (lstAt M1 y)) (mo ρ M) := (wp_bindE _ _ _).trans (by
  congr; funext y M1
  cases lstAt M1 y with
  | none => with_unfolding_all rfl
  | some p => exact wp_bindE _ _ _)
@[simp ↓] theorem wp_said (m : Sm Val) : Wp Q (eSaid m ρ M) = Wp Q (saidR (m ρ M)) := by with_unfolding_all rfl
@[simp ↓] theorem wp_fn (n N : Nat) (b : Sm Fl) (xs : List Val) : Wp Q (fnM n N b xs M) = (xs.length = n ∧ Wp (fun f M1 => Wp Q (outM f M1)) (b (startR N xs) M)) := by
  show Wp Q (if xs.length = n then _ else _) = _
  by_cases h : xs.length = n
  · rw [if_pos h, wp_bindE]; simp only [h, true_and]
  · rw [if_neg h]; simp only [h, false_and]; with_unfolding_all rfl
@[simp ↓] theorem wp_sExt (i : Nat) (m : Sm (List Val)) : Wp QF (sExt i m ρ M) = WOl (fun xs => Wp (fun ys M1 => Wp QF (match pures ys with
  | some ds => if xs.length + ds.length < 100000 then .ok (.nx (ρ.set i (some (.ol (xs ++ ds))))) M1 else .stuck
  | none => .stuck)) (m ρ M)) ρ[i]? := wol_eq.trans (by congr; funext xs; exact wp_bindE _ _ _)
@[simp ↓] theorem wp_sSet (i : Nat) (m mj : Sm Val) : Wp QF (sSet i m mj ρ M) = WOl (fun xs => Wp (fun y M1 => Wp (fun j M2 => Wp QF (match y, j with
  | .d y, .d (.int j) => match ixN xs.length j with
    | some n => .ok (.nx (ρ.set i (some (.ol (xs.set n y))))) M2
    | none => .stuck
  | _, _ => .stuck)) (mj ρ M1)) (m ρ M)) ρ[i]? := wol_eq.trans (by congr; funext xs; rw [wp_bindE]; congr; funext y M1; exact wp_bindE _ _ _)
@[simp ↓] theorem wp_whileM (c : Sm Bool) (b : Sm Fl) (k : Nat) : Wp QF (whileM c b (k + 1) ρ M) = Wp (fun t M1 => Wp QF (if t = true then (b ρ M1).bind fun f M2 => match f with
      | .nx ρ2 => whileM c b k ρ2 M2
      | .ct ρ2 => whileM c b k ρ2 M2
      | .bk ρ2 => .ok (.nx ρ2) M2
      | .rt x => .ok (.rt x) M2
    else .ok (.nx ρ) M1)) (c ρ M) := wp_bindE ..
/-! loops and comprehensions stay closed -/
def WpLc (Q : List Val → Store → Prop) (mi : Sm Src) (tg : Tg) (tt : Sm Bool) (te : Sm Val) (vs : List Nat) (ρ : Ph (Q, mi, tg, tt, te, vs) Rho) (M : Store) : Prop := Wp Q (eLc mi tg tt te vs ρ M)
def WpFor (Q : Fl → Store → Prop) (ks : List Nat) (mi : Sm Src) (tg : Tg) (b : Sm Fl) (ρ : Ph (Q, ks, mi, tg, b) Rho) (M : Store) : Prop := Wp Q (sFor ks mi tg b ρ M)
def WpWhile (Q : Fl → Store → Prop) (ks : List Nat) (k : Nat) (c : Sm Bool) (b : Sm Fl) (ρ : Ph (Q, ks, k, c, b) Rho) (M : Store) : Prop := Wp Q (sWhile ks k c b ρ M)
@[simp ↓] theorem wp_eLc (mi : Sm Src) (tg : Tg) (tt : Sm Bool) (te : Sm Val) (vs : List Nat) : Wp QL (eLc mi tg tt te vs ρ M) = WpLc QL mi tg tt te vs ρ M := rfl
@[simp ↓] theorem wp_sFor (ks : List Nat) (mi : Sm Src) (tg : Tg) (b : Sm Fl) : Wp QF (sFor ks mi tg b ρ M) = WpFor QF ks mi tg b ρ M := rfl
@[simp ↓] theorem wp_sWhile (ks : List Nat) (k : Nat) (c : Sm Bool) (b : Sm Fl) : Wp QF (sWhile ks k c b ρ M) = WpWhile QF ks k c b ρ M := rfl
theorem wp_forM {src : Src} {tg : Tg} {b : Sm Fl} {xs : List Val} (hs : src.items = some xs) (P : Nat → Rho → Store → Prop)
    (p0 : P 0 ρ M) (step : ∀ i x ρ M, xs[i]? = some x → P i ρ M → Wp (fun ρ1 M1 => Wp (fun f M2 => ∃ ρ2, f = .nx ρ2 ∧ P (i + 1) ρ2 M2) (b ρ1 M1)) (tg x ρ M))
    (q : ∀ ρ M, P xs.length ρ M → QF (.nx ρ) M) : Wp QF (forM src tg b (src.len M) 0 ρ M) := by
  obtain ⟨ρ', M', e, p⟩ := forM_all hs (tg := tg) (b := b) P p0 fun i x ρ M hx hp => by
    obtain ⟨ρ1, M1, e1, h⟩ := (step i x ρ M hx hp).get
    obtain ⟨f, M2, e2, ρ2, rfl, h2⟩ := h.get
    exact ⟨ρ1, M1, ρ2, M2, e1, e2, h2⟩
  rw [e]; exact .of rfl (q _ _ p)
/-- a loop whose live slots are changed by P alone -/
theorem wp_for {ks : List Nat} {mi : Sm Src} {tg : Tg} {b : Sm Fl} (P : Nat → Rho → Store → Prop) (h : Wp (fun src M1 => Hold (∃ xs, src.items = some xs ∧ P 0 (wipeR ρ ks) M1 ∧
      (∀ i x ρ M, xs[i]? = some x → P i ρ M → Wp (fun ρ1 M1 => Wp (fun f M2 => ∃ ρ2, f = .nx ρ2 ∧ P (i + 1) (wipeR ρ2 ks) M2) (b ρ1 M1)) (tg x ρ M)) ∧
      (∀ ρ M, P xs.length ρ M → QF (.nx ρ) M)) ()) (mi ρ M)) : WpFor QF ks mi tg b ρ M := by
  show Wp QF (Res.bind _ _)
  rw [wp_bindE]
  refine h.mono fun src M1 ⟨xs, hs, p0, st, q⟩ => ?_
  refine wp_forM hs P p0 (fun i x ρ M hx hp => (st i x ρ M hx hp).mono fun ρ1 M1 h1 => ?_) q
  rw [wp_kill]
  refine h1.mono fun f M2 ⟨ρ2, e, p⟩ => ?_
  subst e
  exact ⟨_, rfl, p⟩
/-- a loop whose live slots stay -/
theorem wp_fix {ks : List Nat} {mi : Sm Src} {tg : Tg} {b : Sm Fl} (I : Nat → Store → Prop) (h : Wp (fun src M1 => Hold (∃ xs, src.items = some xs ∧ I 0 M1 ∧
      (∀ i x M, xs[i]? = some x → I i M → Wp (fun ρ1 M1 => Wp (fun f M2 => ∃ ρ2, f = .nx ρ2 ∧ wipeR ρ2 ks = wipeR ρ ks ∧ I (i + 1) M2) (b ρ1 M1)) (tg x (wipeR ρ ks) M)) ∧
      (∀ M, I xs.length M → QF (.nx (wipeR ρ ks)) M)) ()) (mi ρ M)) : WpFor QF ks mi tg b ρ M := by
  refine wp_for (fun i ρ' M => ρ' = wipeR ρ ks ∧ I i M) (h.mono fun src M1 ⟨xs, hs, i0, st, q⟩ => ⟨xs, hs, ⟨rfl, i0⟩, ?_, ?_⟩)
  · rintro i x ρ' M hx ⟨rfl, hi⟩
    exact (st i x M hx hi).mono fun ρ1 M1 h1 => h1.mono fun f M2 ⟨ρ2, e, e2, p⟩ => ⟨ρ2, e, e2, p⟩
  · rintro ρ' M ⟨rfl, hi⟩; exact q M hi
/-! comprehensions -/
theorem wp_lc {mi : Sm Src} {tg : Tg} {tt : Sm Bool} {te : Sm Val} {vs : List Nat} (P : Nat → List Val → Store → Prop) (h : Wp (fun src M1 => Hold (∃ xs, src.items = some xs ∧ xs.length < 16000000 ∧ P 0 [] M1 ∧
      (∀ i x acc M, xs[i]? = some x → acc.length ≤ i → P i acc M → Wp (fun ρ1 M1 => M1 = M ∧ Wp (fun c M2 => (c = true → Wp (fun y M3 => P (i + 1) (acc ++ [y]) M3) (te ρ1 M2)) ∧ (c = false → P (i + 1) acc M2)) (tt ρ1 M)) (tg x (wipeR ρ vs) M)) ∧
      (∀ acc M, P xs.length acc M → QL acc M)) ()) (mi ρ M)) : WpLc QL mi tg tt te vs ρ M := by
  show Wp QL (Res.bind _ _)
  rw [wp_bindE]
  refine h.mono fun src M1 ⟨xs, hs, hl, p0, st, q⟩ => ?_
  rw [okOnlyE]
  obtain ⟨acc', M', e, ⟨_, p⟩⟩ := lcM_all (ρ := wipeR ρ vs) (tg := tg) (tt := tt) (te := te) hs (fun i acc M => acc.length ≤ i ∧ P i acc M) ⟨Nat.le_refl _, p0⟩ fun i x acc M hx ⟨hn, hp⟩ => by
    obtain ⟨ρ1, M2, e1, rfl, h1⟩ := (st i x acc M hx hn hp).get
    obtain ⟨c, M3, e2, h2, h3⟩ := h1.get
    have hi := (List.getElem?_eq_some_iff.mp hx).1
    refine ⟨ρ1, M2, c, M3, e1, e2, fun hc => ?_, fun hc => ⟨by omega, h3 hc⟩⟩
    obtain ⟨y, M4, e3, h4⟩ := (h2 hc).get
    exact ⟨y, M4, e3, by omega, by simp; omega, h4⟩
  rw [e]; exact .of rfl (q _ _ p)
/-- a comprehension of data, each element drawn by R -/
theorem wp_draws {mi : Sm Src} {tg : Tg} {te : Sm Val} {vs : List Nat} (R : Nat → PyData → Prop) (I : Store → Prop) (h : Wp (fun src M1 => Hold (∃ xs, src.items = some xs ∧ xs.length < 16000000 ∧ I M1 ∧
      (∀ i x M, xs[i]? = some x → I M → Wp (fun ρ1 M1 => M1 = M ∧ Wp (fun y M3 => ∃ d, y = .d d ∧ R i d ∧ I M3) (te ρ1 M)) (tg x (wipeR ρ vs) M)) ∧
      (∀ (ds : List PyData) M, ds.length = xs.length → (∀ i d, ds[i]? = some d → R i d) → I M → QL (ds.map Val.d) M)) ()) (mi ρ M)) : WpLc QL mi tg tYesM te vs ρ M := by
  refine wp_lc (fun i acc M => ∃ ds : List PyData, acc = ds.map Val.d ∧ ds.length = i ∧ (∀ j d, ds[j]? = some d → R j d) ∧ I M) (h.mono fun src M1 ⟨xs, hs, hl, i0, st, q⟩ => ⟨xs, hs, hl, ⟨[], rfl, rfl, by simp, i0⟩, ?_, ?_⟩)
  · rintro i x acc M hx _ ⟨ds, rfl, hd, hr, hi⟩
    refine (st i x M hx hi).mono fun ρ1 M1 ⟨e, h1⟩ => ⟨e, ?_⟩
    show Wp _ (.ok true M)
    rw [wp_ok]
    refine ⟨fun _ => h1.mono fun y M3 ⟨d, e, r, hi⟩ => ⟨ds ++ [d], by simp [e], by simp [hd], fun j z hz => ?_, hi⟩, fun h => nomatch h⟩
    by_cases hj : j < ds.length
    · rw [List.getElem?_append_left hj] at hz; exact hr j z hz
    · have hj' : j = ds.length := by
        have := (List.getElem?_eq_some_iff.mp hz).1
        simp at this; omega
      subst hj'
      simp at hz; subst hz; rw [hd]; exact r
  · rintro acc M ⟨ds, rfl, hd, hr, hi⟩; exact q ds M hd hr hi
end
end Z

/-! Plain part 1: sizes of what is shown; lists drawn from. -/
namespace Z
open PySem PySem.Spec PyProof.Rows L2
mutual
def wt : PyData → Nat
  | .none => 4
  | .bool _ => 5
  | .int i => i.natAbs.log2 + 2
  | .str x => (reprText x).length
  | .list xs => wtAll xs + 2
  | .tuple xs => wtAll xs + 3
  | .dict kvs => wtKv kvs + 2
def wtAll : List PyData → Nat
  | [] => 0
  | x :: xs => wt x + 2 + wtAll xs
def wtKv : List (PyData × PyData) → Nat
  | [] => 0
  | (k, v) :: r => wt k + wt v + 4 + wtKv r
end
theorem slen (x y : Str) : (x ++ y).length = x.length + y.length := strLen_append x y
def lens : List Str → Nat
  | [] => 0
  | t :: r => t.length + 2 + lens r
theorem join_lens : ∀ ts : List Str, (Str.join ", " ts).length ≤ lens ts
  | [] => by decide
  | [x] => by show x.length ≤ _; simp only [lens]; omega
  | x :: y :: r => by
    have h := join_lens (y :: r)
    have e : Str.join ", " (x :: y :: r) = x ++ ", " ++ Str.join ", " (y :: r) := rfl
    have e2 : ((", " : Str)).length = 2 := rfl
    rw [e, slen, slen, e2]
    simp only [lens] at h ⊢; omega
theorem from_lens : ∀ (ts : List Str) (k : Nat) (acc : Str), (textFrom k acc ts).length ≤ acc.length + lens ts
  | [], k, acc => by show acc.length ≤ _; simp [lens]
  | t :: r, k, acc => by
    have h := from_lens r (k + 1) (acc ++ (if k > 0 then ", " else "" : String) ++ t)
    have e : textFrom k acc (t :: r) = textFrom (k + 1) (acc ++ (if k > 0 then ", " else "" : String) ++ t) r := rfl
    have e2 : ((if k > 0 then ", " else "" : String) : Str).length ≤ 2 := by split <;> decide
    rw [e]
    rw [slen, slen] at h
    simp only [lens]; omega
mutual
theorem shown_wt : ∀ d : PyData, d.shown.length ≤ wt d
  | .none => by simp only [PyData.shown, wt]; decide
  | .bool b => by cases b <;> (simp only [PyData.shown, wt]; decide)
  | .int i => by
    simp only [PyData.shown, wt]
    have h := int_text_length_le (a := i) (k := i.natAbs.log2 + 1) (by omega) (by omega)
    rw [PySem.ofString_length]; omega
  | .str x => by simp only [PyData.shown, wt]; omega
  | .list xs => by
    simp only [PyData.shown, wt]
    have h := shownAll_wt xs
    have h2 := from_lens (PyData.shownAll xs) 0 "["
    have e : (listText (PyData.shownAll xs)).length = (textFrom 0 "[" (PyData.shownAll xs)).length + 1 := by
      show (textFrom 0 "[" (PyData.shownAll xs) ++ "]").length = _
      rw [slen]; rfl
    have e2 : (("[" : String) : Str).length = 1 := rfl
    rw [e]; omega
  | .tuple xs => by
    simp only [PyData.shown, wt]
    have h := shownAll_wt xs
    have h2 := join_lens (PyData.shownAll xs)
    unfold tupleText
    rw [slen, slen]
    have e1 : (("(" : Str)).length = 1 := rfl
    have e2 : ((if (PyData.shownAll xs).length == 1 then ",)" else ")" : String) : Str).length ≤ 2 := by split <;> decide
    omega
  | .dict kvs => by
    simp only [PyData.shown, wt]
    have h := shownKv_wt kvs
    have h2 := join_lens (PyData.shownKv kvs)
    unfold dictText
    rw [slen, slen]
    have e1 : (("{" : Str)).length = 1 := rfl
    have e2 : (("}" : String) : Str).length = 1 := rfl
    omega
theorem shownAll_wt : ∀ xs : List PyData, lens (PyData.shownAll xs) ≤ wtAll xs
  | [] => by simp [PyData.shownAll, lens]
  | x :: xs => by
    have h1 := shown_wt x
    have h2 := shownAll_wt xs
    simp only [PyData.shownAll, lens, wtAll]; omega
theorem shownKv_wt : ∀ xs : List (PyData × PyData), lens (PyData.shownKv xs) ≤ wtKv xs
  | [] => by simp [PyData.shownKv, lens]
  | (k, v) :: xs => by
    have h1 := shown_wt k
    have h3 := shown_wt v
    have h2 := shownKv_wt xs
    have e2 : ((": " : String) : Str).length = 2 := rfl
    simp only [PyData.shownKv, lens, wtKv]
    rw [slen, slen, e2]; omega
end

mutual
def wd : PyData → Nat
  | .tuple xs => max xs.length (wdAll xs)
  | .list xs => wdAll xs
  | .dict kvs => wdKv kvs
  | _ => 0
def wdAll : List PyData → Nat
  | [] => 0
  | x :: xs => max (wd x) (wdAll xs)
def wdKv : List (PyData × PyData) → Nat
  | [] => 0
  | (k, v) :: r => max (max (wd k) (wd v)) (wdKv r)
end
/-- small data: at most k deep, at most n signs shown, no tuple longer than 59 -/
def Sz (k n : Nat) (d : PyData) : Prop := d.showable = true ∧ d.depth ≤ k ∧ wt d ≤ n ∧ wd d ≤ 59
theorem Sz.mono {k n k' n' : Nat} {d : PyData} (h : Sz k n d) (hk : k ≤ k') (hn : n ≤ n') : Sz k' n' d := ⟨h.1, Nat.le_trans h.2.1 hk, Nat.le_trans h.2.2.1 hn, h.2.2.2⟩
theorem wd_all {m : Nat} : ∀ {xs : List PyData}, (∀ x ∈ xs, wd x ≤ m) → wdAll xs ≤ m
  | [], _ => by simp [wdAll]
  | x :: xs, h => by
    have h1 := h x (by simp)
    have h2 := wd_all (xs := xs) fun y hy => h y (by simp [hy])
    simp only [wdAll]; omega
theorem okR_of {k n : Nat} {d : PyData} (h : Sz k n d) (hk : k ≤ 90) (hn : n ≤ 16000000) : okR d = true := by
  have := shown_wt d
  simp only [okR, Bool.and_eq_true, decide_eq_true_eq]
  exact ⟨⟨h.1, by have := h.2.1; omega⟩, by rw [sizeLine_eq]; have := h.2.2.1; omega⟩
theorem sz_all {k n : Nat} : ∀ {xs : List PyData}, (∀ x ∈ xs, Sz k n x) → PyData.showableAll xs = true ∧ PyData.depthAll xs ≤ k ∧ wtAll xs ≤ xs.length * (n + 2)
  | [], _ => by simp [PyData.showableAll, PyData.depthAll, wtAll]
  | x :: xs, h => by
    have h1 := h x (by simp)
    have h2 := sz_all (xs := xs) fun y hy => h y (by simp [hy])
    have h3 := h1.2.1
    have h4 := h1.2.2.1
    have e : (xs.length + 1) * (n + 2) = xs.length * (n + 2) + (n + 2) := by rw [Nat.add_mul, Nat.one_mul]
    simp only [PyData.showableAll, PyData.depthAll, wtAll, h1.1, h2.1, Bool.and_self, true_and, List.length_cons, e]
    omega
theorem Sz.list {k n : Nat} {xs : List PyData} (h : ∀ x ∈ xs, Sz k n x) : Sz (k + 1) (xs.length * (n + 2) + 3) (.list xs) := by
  obtain ⟨h1, h2, h3⟩ := sz_all h
  exact ⟨by simpa [PyData.showable] using h1, by simp only [PyData.depth]; omega, by simp only [wt]; omega, by simpa only [wd] using wd_all fun x hx => (h x hx).2.2.2⟩
theorem Sz.tuple {k n : Nat} {xs : List PyData} (hl : xs.length ≤ 59) (h : ∀ x ∈ xs, Sz k n x) : Sz (k + 1) (xs.length * (n + 2) + 3) (.tuple xs) := by
  obtain ⟨h1, h2, h3⟩ := sz_all h
  have h4 := wd_all fun x hx => (h x hx).2.2.2
  exact ⟨by simpa [PyData.showable] using h1, by simp only [PyData.depth]; omega, by simp only [wt]; omega, by simp only [wd]; omega⟩
theorem Sz.len {k n : Nat} {xs : List PyData} (h : Sz k n (.tuple xs)) : xs.length ≤ 59 := by
  have := h.2.2.2
  simp only [wd] at this
  omega
theorem Sz.int {k n : Nat} {i : Int} (h1 : -18446744073709551616 < i) (h2 : i < 18446744073709551616) (hn : 66 ≤ n) : Sz k n (.int i) := by
  have hl : i.natAbs.log2 < 64 := by
    by_cases h0 : i.natAbs = 0
    · rw [h0]; decide
    · exact (Nat.log2_lt h0).mpr (by omega)
  exact ⟨by simp [PyData.showable]; omega, by simp [PyData.depth], by simp only [wt]; omega, by simp [wd]⟩
theorem fNe_str (a b : Str) : fNe (.str a) (.str b) = some (.bool (!(a == b))) := by simp [fNe, okEq, PyData.plain, PyData.depth, PyData.eqv]
@[simp] theorem fNe_str_self (a : Str) : fNe (.str a) (.str a) = some (.bool false) := by simp [fNe_str]
theorem fRepr_of {k n : Nat} {d : PyData} (h : Sz k n d) (hk : k ≤ 90) (hn : n ≤ 16000000) : fRepr d = some (.str d.shown) := by simp [fRepr, okR_of h hk hn]
@[simp] theorem word_rule : wordOf "NoRule" = some "! rule" := by decide +kernel
@[simp] theorem word_sack : wordOf "NoSack" = some "! sack" := by decide +kernel
@[simp] theorem word_rights : wordOf "NoRights" = some "! rights" := by decide +kernel
@[simp] theorem word_speeds : wordOf "NoSpeeds" = some "! speeds" := by decide +kernel
@[simp] theorem word_water : wordOf "NoWater" = some "! water" := by decide +kernel
@[simp] theorem word_moment : wordOf "NoMoment" = some "! moment" := by decide +kernel
@[simp] theorem word_book : wordOf "NoBook" = some "! book" := by decide +kernel
@[simp] theorem word_number : wordOf "NoNumber" = some "! number" := by decide +kernel
@[simp] theorem word_weights : wordOf "NoWeights" = some "! weights" := by decide +kernel
@[simp] theorem word_houses : wordOf "NoHouses" = some "! houses" := by decide +kernel
@[simp] theorem word_deed : wordOf "NoDeed" = some "! deed" := by decide +kernel
@[simp] theorem word_text : wordOf "NoText" = some "! text" := by decide +kernel
@[simp] theorem word_word : wordOf "NoWord" = some "! word" := by decide +kernel
@[simp] theorem word_much : wordOf "TooMuch" = some "! much" := by decide +kernel
@[simp] theorem word_many : wordOf "TooMany" = some "! many" := by decide +kernel
end Z

namespace Z
open PySem PySem.Spec PyProof.Rows L2
/-- is_whole: 0 thing -/
def b_is_whole : Sm Fl := (sRet (eAnd (eIsa PyData.isInt (eVar 0)) (eNot (eIsa PyData.isBool (eVar 0)))))
def m_is_whole : List Val → Store → Res Val := fnM 1 1 b_is_whole
/-- is_from_to: 0 thing, 1 least, 2 most -/
def b_is_from_to : Sm Fl := (sRet (eAnd (eCall 1 m_is_whole (aCons (eVar 0) aNil)) (eChain fLe fLe (eVar 1) (eVar 0) (eVar 2))))
def m_is_from_to : List Val → Store → Res Val := fnM 3 3 b_is_from_to
/-- are_houses: 0 thing, 1 house, 2 other -/
def b_are_houses : Sm Fl := (sSeq (sIf (tOrM (tNotM (tVal (eIsa PyData.isTuple (eVar 0)))) (tNotM (tVal (eCB fAll (aCons (eFrz (eLc (sOne (eVar 0)) (gN 1) tYesM (eCall 3 m_is_from_to (aCons (eVar 1) (aCons (eC (.int 0)) (aCons (eC (.int 7)) aNil)))) [1])) aNil))))) (sRet (eC (.bool false))) sNext)
  (sRet (eCB fAll (aCons (eFrz (eLc (sZip (aCons (eVar 0) (aCons (eSl (eVar 0) (oS (eC (.int 1))) oN) aNil))) (gTupM 2 (gConsM (gN 1) (gConsM (gN 2) gNilM))) tYesM (e2 fLt (eVar 1) (eVar 2)) [1, 2])) aNil))))
def m_are_houses : List Val → Store → Res Val := fnM 1 3 b_are_houses
/-- is_sack: 0 thing, 1 one -/
def f1_is_sack : Sm Fl := (sIf (tOrM (tNotM (tVal (eIsa PyData.isTuple (eVar 1)))) (tOrM (tVal (e2 fNe (eCG fLen (aCons (eVar 1) aNil)) (eC (.int 2)))) (tNotM (tVal (eCall 3 m_is_from_to (aCons (eG fIx (eVar 1) (eC (.int 1))) (aCons (eC (.int 1)) (aCons (eC (.int 999)) aNil)))))))) (sRet (eC (.bool false))) sNext)
def b_is_sack : Sm Fl := (sSeq (sIf (tOrM (tNotM (tVal (eIsa PyData.isTuple (eVar 0)))) (tNotM (tVal (eChain fLe fLe (eC (.int 1)) (eCG fLen (aCons (eVar 0) aNil)) (eC (.int 4)))))) (sRet (eC (.bool false))) sNext)
  (sSeq (sFor [1] (sOne (eVar 0)) (gN 1) f1_is_sack)
  (sRet (eCall 1 m_are_houses (aCons (eTupOf (eFrz (eLc (sOne (eVar 0)) (gN 1) tYesM (eG fIx (eVar 1) (eC (.int 0))) [1]))) aNil)))))
def m_is_sack : List Val → Store → Res Val := fnM 1 2 b_is_sack
/-- need_sack: 0 thing -/
def b_need_sack : Sm Fl := (sIf (tNotM (tVal (eCall 1 m_is_sack (aCons (eVar 0) aNil)))) (sRaise "NoSack") sNext)
def m_need_sack : List Val → Store → Res Val := fnM 1 1 b_need_sack
/-- grain_in: 0 sack, 1 house, 2 ounces -/
def b_grain_in : Sm Fl := (sRet (eCB fSum (aCons (eFrz (eLc (sOne (eVar 0)) (gTupM 2 (gConsM (gN 1) (gConsM (gN 2) gNilM))) tYesM (eVar 2) [1, 2])) aNil)))
def m_grain_in : List Val → Store → Res Val := fnM 1 3 b_grain_in
/-- grain_of: 0 sack -/
def b_grain_of : Sm Fl := (sSeq (sDrop (eCall 1 m_need_sack (aCons (eVar 0) aNil)))
  (sRet (eCall 1 m_grain_in (aCons (eVar 0) aNil))))
def m_grain_of : List Val → Store → Res Val := fnM 1 1 b_grain_of
/-- _law_take: 0 _law_box_here, 1 _law_many, 2 _law_high, 3 _law_digit -/
def b_l_take : Sm Fl := (sSeq (sIf (tVal (e2 fGt (eG fIx (eVar 0) (eC (.int 0))) (eC (.int 0)))) (sSeq (sAsg (eCG fDivmod (aCons (eG fIx (eVar 0) (eC (.int 0))) (aCons (eVar 1) aNil))) (gTupM 2 (gConsM (gSubM (eVar 0) (eC (.int 0))) (gConsM (gN 3) gNilM))))
  (sRet (eVar 3))) sNext)
  (sSeq (sAsg (e2 fMod (e2 fAdd (e2 fMulI (eG fIx (eVar 0) (eC (.int 1))) (eC (.int 48271))) (eC (.int 11))) (eC (.int 2147483647))) (gSubM (eVar 0) (eC (.int 1))))
  (sSeq (sAsg (e2 fAdd (e2 fDiv (eG fIx (eVar 0) (eC (.int 1))) (eC (.int 1009))) (eC (.int 1))) (gN 2))
  (sRet (e2 fMod (e2 fDiv (e2 fMod (e2 fMulI (e2 fMulI (eVar 2) (eVar 2)) (eVar 2)) (eC (.int 2147483629))) (eC (.int 61))) (eVar 1))))))
def m_l_take : List Val → Store → Res Val := fnM 2 4 b_l_take
/-- _law_box: 0 _law_script, 1 _law_k, 2 _law_cell -/
def b_l_box : Sm Fl := (sSeq (sAsg (e2 fAdd (e2 fMulI (eC (.int 6151)) (eVar 1)) (eC (.int 29))) (gN 2))
  (sSeq (sIf (tVal (e2 fLt (eVar 1) (eCG fLen (aCons (eVar 0) aNil)))) (sAsg (eG fIx (eVar 0) (eVar 1)) (gN 2)) sNext)
  (sSeq (sIf (tVal (e2 fEq (e2 fMod (eVar 2) (eC (.int 2))) (eC (.int 0)))) (sRet (eLay (lLst (aCons (e2 fDiv (eCB fAbs (aCons (eVar 2) aNil)) (eC (.int 2))) (aCons (e2 fAdd (e2 fAdd (e2 fMod (eVar 2) (eC (.int 1000003))) (e2 fMulI (eC (.int 7919)) (eVar 1))) (eC (.int 1))) aNil))))) sNext)
  (sRet (eLay (lLst (aCons (eC (.int 0)) (aCons (e2 fAdd (e2 fAdd (e2 fMod (eVar 2) (eC (.int 2147483563))) (e2 fMulI (eC (.int 7919)) (eVar 1))) (eC (.int 1))) aNil))))))))
def m_l_box : List Val → Store → Res Val := fnM 2 3 b_l_box
end Z

/-! Plain part 2: numbers, draws, odd things. -/
namespace Z
open PySem PySem.Spec PyProof.Rows L2
def isWhole (x : PyData) : Bool := x.isInt && !x.isBool
theorem is_whole_eq (x : PyData) (M : Store) : m_is_whole [.d x] M = .ok (.d (.bool (isWhole x))) M := by
  simp [m_is_whole, b_is_whole, isWhole]
  cases x.isInt <;> simp
def fromTo (x : PyData) (lo hi : Int) : Bool := match x with
  | .int i => decide (lo ≤ i) && decide (i ≤ hi)
  | _ => false
theorem is_from_to_eq (x : PyData) (lo hi : Int) (M : Store) : m_is_from_to [.d x, .d (.int lo), .d (.int hi)] M = .ok (.d (.bool (fromTo x lo hi))) M := by
  simp [m_is_from_to, b_is_from_to, is_whole_eq]
  cases x <;> simp [isWhole, PyData.isInt, PyData.isBool, fromTo]
  split <;> simp [*]
theorem fromTo_int {x : PyData} {lo hi : Int} (h : fromTo x lo hi = true) : ∃ i, x = .int i ∧ lo ≤ i ∧ i ≤ hi := by
  cases x <;> simp [fromTo] at h
  exact ⟨_, rfl, h.1, h.2⟩
def BoxAt (M : Store) (n : Nat) : Prop := ∃ a b, M[n]? = some (.lst [.d (.int a), .d (.int b)]) ∧ 0 ≤ a
structure BStep (n : Nat) (M M' : Store) : Prop where
  box : BoxAt M' n
  len : M.length ≤ M'.length
  oth : ∀ j, j < M.length → j ≠ n → M'[j]? = M[j]?
theorem BStep.refl {n : Nat} {M : Store} (h : BoxAt M n) : BStep n M M := ⟨h, Nat.le_refl _, fun _ _ _ => rfl⟩
theorem BStep.trans {n : Nat} {M M1 M2 : Store} (a : BStep n M M1) (b : BStep n M1 M2) : BStep n M M2 := ⟨b.box, Nat.le_trans a.len b.len, fun j h e => by rw [b.oth j (Nat.lt_of_lt_of_le h a.len) e, a.oth j h e]⟩
theorem BStep.set {n : Nat} {M : Store} (h : BoxAt M n) (a b : Int) (ha : 0 ≤ a) : BStep n M (M.set n (.lst [.d (.int a), .d (.int b)])) := by
  obtain ⟨x, y, hx, _⟩ := h
  have hl := (List.getElem?_eq_some_iff.mp hx).1
  exact ⟨⟨a, b, List.getElem?_set_self hl, ha⟩, by simp, fun j _ hj => List.getElem?_set_ne (Ne.symm hj)⟩
/-- a step by another node, or a new one -/
theorem BStep.new {n : Nat} {M : Store} (h : BoxAt M n) (x : Node) : BStep n M (M ++ [x]) := by
  obtain ⟨a, b, hx, ha⟩ := h
  have hl := (List.getElem?_eq_some_iff.mp hx).1
  exact ⟨⟨a, b, by rw [List.getElem?_append_left hl]; exact hx, ha⟩, by simp, fun j hj _ => List.getElem?_append_left hj⟩
theorem BStep.at {n : Nat} {M M' : Store} {j : Nat} {x : Node} (s : BStep n M M') (hj : M[j]? = some x) (e : j ≠ n) : M'[j]? = some x := by
  rw [s.oth j (List.getElem?_eq_some_iff.mp hj).1 e]; exact hj
/-- a node laid within the step is changed -/
theorem BStep.upd {n : Nat} {M M' : Store} {j : Nat} (s : BStep n M M') (h : M.length ≤ j) (e : j ≠ n) (x : Node) : BStep n M (M'.set j x) := by
  obtain ⟨a, b, hx, ha⟩ := s.box
  exact ⟨⟨a, b, by rw [List.getElem?_set_ne e]; exact hx, ha⟩, by rw [List.length_set]; exact s.len, fun i hi hn => by rw [List.getElem?_set_ne (by omega)]; exact s.oth i hi hn⟩
theorem BoxAt.lt {n : Nat} {M : Store} (h : BoxAt M n) : n < M.length := by
  obtain ⟨a, b, hx, _⟩ := h
  exact (List.getElem?_eq_some_iff.mp hx).1
theorem take_eq {M : Store} {n : Nat} {k : Int} (h : BoxAt M n) (hk : 0 < k) (hk2 : k < 1073741824) : ∃ d M', m_l_take [.ref n, .d (.int k)] M = .ok (.d (.int d)) M' ∧ 0 ≤ d ∧ d < k ∧ BStep n M M' := by
  obtain ⟨a, b, hx, ha⟩ := id h
  have hl := (List.getElem?_eq_some_iff.mp hx).1
  by_cases h0 : 0 < a
  · refine ⟨a % k, _, ?_, Int.emod_nonneg _ (by omega), Int.emod_lt_of_pos _ hk, BStep.set h (a / k) b (Int.ediv_nonneg ha (by omega))⟩
    simp [m_l_take, b_l_take, ixV, hx, atI, ixN, h0, fDivmod_int a M hk hk2]
  · have hd : 0 ≤ ((b * 48271 + 11) % 2147483647 / 1009 + 1) ∧ ((b * 48271 + 11) % 2147483647 / 1009 + 1) < 2147483647 := by
      have := Int.emod_nonneg (b * 48271 + 11) (b := 2147483647) (by omega)
      have := Int.emod_lt_of_pos (b * 48271 + 11) (b := 2147483647) (by omega)
      omega
    generalize hu : ((b * 48271 + 11) % 2147483647 / 1009 + 1) = u at hd
    refine ⟨u * u * u % 2147483629 / 61 % k, _, ?_, Int.emod_nonneg _ (by omega), Int.emod_lt_of_pos _ hk, BStep.set h a ((b * 48271 + 11) % 2147483647) ha⟩
    have hs : ∀ x, (M.set n x)[n]? = some x := fun x => List.getElem?_set_self hl
    simp [m_l_take, b_l_take, ixV, hx, atI, ixN, h0, fMul_r b (j := 48271) (by decide) (by decide), fMod_int _ (j := 2147483647) (by decide), fDiv_int _ (j := 1009) (by decide) (by decide), hs, hu,
      fMul_r u (j := u) (by omega) (by omega), fMul_r (u * u) (j := u) (by omega) (by omega), fMod_int _ (j := 2147483629) (by decide), fDiv_int _ (j := 61) (by decide) (by decide), fMod_int _ hk]
def boxOf (c k : Int) : Int × Int := if c % 2 = 0 then ((if c < 0 then -c else c) / 2, c % 1000003 + 7919 * k + 1) else (0, c % 2147483563 + 7919 * k + 1)
theorem boxOf_pos (c k : Int) : 0 ≤ (boxOf c k).1 := by
  unfold boxOf
  split
  · dsimp only; split <;> omega
  · exact Int.le_refl _
theorem box_eq (ns : List Int) (k : Nat) (M : Store) : ∃ c : Int, m_l_box [.scr ns, .d (.int k)] M = .ok (.ref M.length) (M ++ [.lst [.d (.int (boxOf c k).1), .d (.int (boxOf c k).2)]]) := by
  by_cases hk : (k : Int) < ns.length
  · have hk' : k < ns.length := by omega
    refine ⟨ns[k], ?_⟩
    simp [m_l_box, b_l_box, fLen, ixV, atI_nat ns k hk', hk, fMul_l (i := 6151) k (by decide) (by decide), fMul_l (i := 7919) k (by decide) (by decide), fMod_int _ (j := 2) (by decide), fAbs,
      fDiv_int _ (j := 2) (by decide) (by decide), fMod_int _ (j := 1000003) (by decide), fMod_int _ (j := 2147483563) (by decide), boxOf]
    split <;> simp
  · refine ⟨6151 * k + 29, ?_⟩
    simp [m_l_box, b_l_box, fLen, hk, fMul_l (i := 6151) k (by decide) (by decide), fMul_l (i := 7919) k (by decide) (by decide), fMod_int _ (j := 2) (by decide), fAbs,
      fDiv_int _ (j := 2) (by decide) (by decide), fMod_int _ (j := 1000003) (by decide), fMod_int _ (j := 2147483563) (by decide), boxOf]
    split <;> simp
theorem box_at (ns : List Int) (k : Nat) (M : Store) : ∃ M', m_l_box [.scr ns, .d (.int k)] M = .ok (.ref M.length) M' ∧ BoxAt M' M.length := by
  obtain ⟨c, h⟩ := box_eq ns k M
  exact ⟨_, h, (boxOf c k).1, (boxOf c k).2, by simp, boxOf_pos c k⟩
/-- the law's cells -/
theorem cells_rng (ns : List Int) (c : Int) (hc : c ≤ 4) (ρ : Rho) (M : Store) (h0 : ρ[0]? = some (some (.sh (.scr ns)))) :
    ∃ n : Nat, sRng1 (aCons (eCB fMax2 (aCons (eC (.int 1)) (aCons (eCB fMin2 (aCons (eCG fLen (aCons (eVar 0) aNil)) (aCons (eC (.int c)) aNil))) aNil))) aNil) ρ M = .ok (.rng 0 1 n) M := by
  obtain ⟨j, hj, h1, h2⟩ : ∃ j : Int, (if (if c < (ns.length : Int) then c else (ns.length : Int)) > 1 then (if c < (ns.length : Int) then c else (ns.length : Int)) else 1) = j ∧ 1 ≤ j ∧ j ≤ 4 :=
    ⟨_, rfl, by split <;> omega, by split <;> (try split) <;> omega⟩
  have hr : inR j = true := by simp [inR]; omega
  have e : (aCons (eCB fMax2 (aCons (eC (.int 1)) (aCons (eCB fMin2 (aCons (eCG fLen (aCons (eVar 0) aNil)) (aCons (eC (.int c)) aNil))) aNil))) aNil) ρ M = .ok [.d (.int j)] M := by
    rw [← hj]
    simp [h0, fLen, fMin2, fMax2]
  refine ⟨j.toNat, ?_⟩
  rw [sRng1_eq, e, bind_ok]
  show (if inR j = true then Res.ok (Src.rng 0 1 j.toNat) M else .stuck) = _
  rw [if_pos hr]
structure WOk (ws : List Int) : Prop where
  lo : 1 ≤ ws.length
  hi : ws.length ≤ 10
  all : ∀ h ∈ ws, 0 ≤ h ∧ h ≤ 12
theorem ints_of_fromTo {lo hi : Int} : ∀ {ds : List PyData}, (ds.all fun d => fromTo d lo hi) = true → ∃ ns : List Int, ds = ns.map PyData.int ∧ ∀ n ∈ ns, lo ≤ n ∧ n ≤ hi
  | [], _ => ⟨[], rfl, by simp⟩
  | d :: ds, h => by
    simp only [List.all_cons, Bool.and_eq_true] at h
    obtain ⟨i, rfl, h1, h2⟩ := fromTo_int h.1
    obtain ⟨ns, rfl, h3⟩ := ints_of_fromTo h.2
    exact ⟨i :: ns, rfl, fun n hn => by
      rcases List.mem_cons.mp hn with rfl | hn
      · exact ⟨h1, h2⟩
      · exact h3 n hn⟩
theorem four (a b c d : Int) (i : Int) (h0 : 0 ≤ i) (h4 : i < 4) : ∃ x, atI ([.int a, .int b, .int c, .int d] : List PyData) i = some (.int x) ∧ (x = a ∨ x = b ∨ x = c ∨ x = d) := by
  rw [atI_int _ _ h0 (by simpa using h4)]
  have : i = 0 ∨ i = 1 ∨ i = 2 ∨ i = 3 := by omega
  rcases this with rfl | rfl | rfl | rfl <;> simp
theorem WOk.set {ws : List Int} (w : WOk ws) (d : Nat) {h : Int} (h0 : 0 ≤ h) (h1 : h ≤ 12) : WOk (ws.set d h) :=
  ⟨by simp; exact w.lo, by simp; exact w.hi, fun x hx => by
    rcases List.mem_or_eq_of_mem_set hx with hx | rfl
    · exact w.all x hx
    · exact ⟨h0, h1⟩⟩
theorem cut_from {α : Type} (xs : List α) {d : Int} (h0 : 0 ≤ d) : cut xs (some d) none = xs.drop d.toNat := by
  unfold cut HT.sIx
  have : ¬ d < 0 := by omega
  simp [this]
  by_cases h : d.toNat ≤ xs.length
  · rw [Nat.min_eq_left h, List.take_of_length_le (by simp)]
  · have h' : xs.length ≤ d.toNat := by omega
    rw [Nat.min_eq_right h', List.drop_eq_nil_of_le (by omega), List.drop_eq_nil_of_le h']; simp
end Z

/-! Plain part 3: things spoilt. -/
namespace Z
open PySem PySem.Spec PyProof.Rows L2
def Atom (x : PyData) : Prop := (∃ i : Int, x = .int i ∧ -1099511627776 ≤ i ∧ i ≤ 1099511627776) ∨ x = .none
def Nice : List Nat → PyData → Prop
  | [], x => Atom x
  | l :: ls, x => Nice ls x ∨ ∃ xs, x = .tuple xs ∧ xs.length ≤ l ∧ ∀ y ∈ xs, Nice ls y
def niceN : List Nat → Nat
  | [] => 700
  | l :: ls => (l + 1) * (niceN ls + 2) + 3
theorem Atom.sz {x : PyData} (h : Atom x) : Sz 0 700 x := by
  rcases h with ⟨i, rfl, h1, h2⟩ | rfl
  · exact Sz.int (by omega) (by omega) (by omega)
  · exact ⟨rfl, Nat.le_refl _, by simp [wt], by simp [wd]⟩
theorem Atom.plain {x : PyData} (h : Atom x) : x.plain = true := by
  rcases h with ⟨i, rfl, h1, h2⟩ | rfl <;> rfl
theorem plainAll_of {xs : List PyData} (h : ∀ x ∈ xs, x.plain = true) : PyData.plainAll xs = true := by
  induction xs with
  | nil => rfl
  | cons x xs ih => simp [PyData.plainAll, h x (by simp), ih fun y hy => h y (by simp [hy])]
theorem Nice.plain : ∀ {ls : List Nat} {x : PyData}, Nice ls x → x.plain = true
  | [], _, h => Atom.plain h
  | l :: ls, x, h => by
    rcases h with h | ⟨xs, rfl, h1, h2⟩
    · exact h.plain
    · simpa [PyData.plain] using plainAll_of fun y hy => (h2 y hy).plain
theorem tup_sz {k n l : Nat} {xs : List PyData} (hl : xs.length ≤ l) (h : ∀ x ∈ xs, Sz k n x) (h59 : l ≤ 59 := by omega) : Sz (k + 1) (l * (n + 2) + 3) (.tuple xs) :=
  (Sz.tuple (by omega) h).mono (Nat.le_refl _) (by have := Nat.mul_le_mul_right (n + 2) hl; omega)
theorem Nice.sz : ∀ {ls : List Nat} {x : PyData}, (∀ l ∈ ls, l ≤ 58) → Nice ls x → Sz ls.length (niceN ls) x
  | [], _, _, h => Atom.sz h
  | l :: ls, x, hl, h => by
    have hl0 := hl l (by simp)
    have hl1 : ∀ l ∈ ls, l ≤ 58 := fun l h => hl l (by simp [h])
    rcases h with h | ⟨xs, rfl, h1, h2⟩
    · exact (h.sz hl1).mono (by simp) (by
        simp only [niceN]
        have : 1 * (niceN ls + 2) ≤ (l + 1) * (niceN ls + 2) := Nat.mul_le_mul_right _ (by omega)
        omega)
    · exact (tup_sz (l := l + 1) (by omega) (fun y hy => (h2 y hy).sz hl1)).mono (Nat.le_refl _) (Nat.le_refl _)
end Z

/-! Plain part 4: moments of water. -/
namespace Z
open PySem PySem.Spec PyProof.Rows L2
def pr (p : Int × Int) : PyData := .tuple [.int p.1, .int p.2]
def ltp (a b : Int × Int) : Bool := decide (a.1 < b.1 ∨ (a.1 = b.1 ∧ a.2 < b.2))
@[simp] theorem okLt_pr (a b : Int × Int) : okLt (pr a) (pr b) = true := by simp [okLt, pr, PySem.W.alike, PySem.W.alikeAll, isNone, PyData.depth, PyData.depthAll]
@[simp] theorem fLt_pr (a b : Int × Int) : fLt (pr a) (pr b) = some (.bool (ltp a b)) := by
  simp only [fLt, okLt_pr, if_true]
  simp [pr, PySem.W.dataLt_ii, ltp]
end Z

/-! Plain part 5: loops whose living slots stay. -/
namespace Z
open PySem PySem.Spec PyProof.Rows L2
end Z

/-! Plain part 6: houses, sacks, rules. -/
namespace Z
open PySem PySem.Spec PyProof.Rows L2
theorem forM_ret0 {src : Src} {xs : List Val} (hs : src.items = some xs) {tg : Tg} {b : Sm Fl} {v : Val} {M : Store} (I : Rho → Prop) (p : Val → Bool)
    (step : ∀ x, x ∈ xs → ∀ ρ, I ρ → ∃ ρ1, tg x ρ M = .ok ρ1 M ∧ (p x = true → ∃ ρ2, b ρ1 M = .ok (.nx ρ2) M ∧ I ρ2) ∧ (p x = false → b ρ1 M = .ok (.rt v) M)) :
    ∀ (k i : Nat) (ρ : Rho), i + k = xs.length → I ρ → ((xs.drop i).all p = true → ∃ ρ', forM src tg b k i ρ M = .ok (.nx ρ') M ∧ I ρ') ∧ ((xs.drop i).all p = false → forM src tg b k i ρ M = .ok (.rt v) M)
  | 0, i, ρ, h, hI => by
    have e : i = xs.length := by omega
    subst e
    have hat := (at_items hs M).2 xs.length (Nat.le_refl _)
    refine ⟨fun _ => ⟨ρ, by simp [forM, hat], hI⟩, fun h => by simp at h⟩
  | k + 1, i, ρ, h, hI => by
    have hi : i < xs.length := by omega
    have hat := (at_items hs M).2 i (by omega)
    rw [List.getElem?_eq_getElem hi] at hat
    obtain ⟨ρ1, h1, h2, h3⟩ := step xs[i] (List.getElem_mem hi) ρ hI
    rw [List.drop_eq_getElem_cons hi, List.all_cons]
    cases hp : p xs[i] with
    | true =>
      obtain ⟨ρ2, e2, hI2⟩ := h2 hp
      have := forM_ret0 hs I p step k (i + 1) ρ2 (by omega) hI2
      simp only [Bool.true_and]
      refine ⟨fun ha => ?_, fun ha => ?_⟩
      · obtain ⟨ρ', e, j⟩ := this.1 ha
        exact ⟨ρ', by simp [forM, hat, h1, e2, e], j⟩
      · simp [forM, hat, h1, e2, this.2 ha]
    | false =>
      simp only [Bool.false_and]
      exact ⟨fun ha => (nomatch ha), fun _ => by simp [forM, hat, h1, h3 hp]⟩
theorem forM_ret {src : Src} {xs : List Val} (hs : src.items = some xs) {tg : Tg} {b : Sm Fl} {v : Val} {M : Store} {ρ : Rho} (I : Rho → Prop) (p : Val → Bool) (hI : I ρ)
    (step : ∀ x, x ∈ xs → ∀ ρ, I ρ → ∃ ρ1, tg x ρ M = .ok ρ1 M ∧ (p x = true → ∃ ρ2, b ρ1 M = .ok (.nx ρ2) M ∧ I ρ2) ∧ (p x = false → b ρ1 M = .ok (.rt v) M)) :
    (xs.all p = true → ∃ ρ', forM src tg b (src.len M) 0 ρ M = .ok (.nx ρ') M ∧ I ρ') ∧ (xs.all p = false → forM src tg b (src.len M) 0 ρ M = .ok (.rt v) M) := by
  rw [(at_items hs M).1]
  have := forM_ret0 hs (tg := tg) (b := b) (v := v) I p step xs.length 0 ρ (by omega) hI
  simpa using this
/-! houses -/
def intOf (x : PyData) : Int := match x with
  | .int i => i
  | _ => 0
def isHouses (x : PyData) : Bool := match x with
  | .tuple ds => (ds.all fun d => fromTo d 0 7) && decide ((ds.map intOf).Pairwise (· < ·))
  | _ => false
theorem intOf_map (ns : List Int) : (ns.map PyData.int).map intOf = ns := by
  rw [List.map_map]; exact List.map_id ns
theorem pw_zip : ∀ ns : List Int, ((ns.zip ns.tail).all fun p => decide (p.1 < p.2)) = decide (ns.Pairwise (· < ·))
  | [] => by simp
  | [a] => by simp
  | a :: b :: r => by
    have ih := pw_zip (b :: r)
    simp only [List.tail_cons] at ih
    simp only [List.tail_cons, List.zip_cons_cons, List.all_cons, ih]
    rw [← Bool.decide_and, decide_eq_decide]
    constructor
    · rintro ⟨h1, h2⟩
      refine List.pairwise_cons.mpr ⟨fun c hc => ?_, h2⟩
      rcases List.mem_cons.mp hc with rfl | hc
      · exact h1
      · have := (List.pairwise_cons.mp h2).1 c hc; omega
    · intro h
      have h' := List.pairwise_cons.mp h
      exact ⟨h'.1 b (by simp), h'.2⟩
theorem zip_items (xs ys : List PyData) : (Src.zip false false (.d (.tuple xs)) (.d (.tuple ys))).items = some (((xs.zip ys).map fun p => PyData.tuple [p.1, p.2]).map Val.d) := by
  simp [Src.items, itemsK, Function.comp_def]
theorem zip_ints (ns ms : List Int) : ((ns.map PyData.int).zip (ms.map PyData.int)) = (ns.zip ms).map fun p => (PyData.int p.1, PyData.int p.2) := by
  rw [List.zip_map]; rfl
def ltD (x : PyData) : PyData := match x with
  | .tuple [.int a, .int b] => .bool (decide (a < b))
  | _ => .none
theorem are_houses_eq (x : PyData) (M : Store) (hx : ∀ ds, x = .tuple ds → ds.length ≤ 1000) : m_are_houses [.d x] M = .ok (.d (.bool (isHouses x))) M := by
  cases x with
  | tuple ds =>
    have hl := hx ds rfl
    have h1 := lcM_map (items_t ds) (tg := gN 1) (te := eCall 3 m_is_from_to (aCons (eVar 1) (aCons (eC (.int 0)) (aCons (eC (.int 7)) aNil)))) (ρ := [some (.sh (.d (.tuple ds))), none, none]) (M := M) (fun d => .bool (fromTo d 0 7)) (by omega) (fun d _ => ⟨_, rfl, by simp [is_from_to_eq]⟩)
    by_cases ha : (ds.all fun d => fromTo d 0 7) = true
    · obtain ⟨ns, rfl, hr⟩ := ints_of_fromTo ha
      have hsl : fSl (some 1) none (.tuple (ns.map PyData.int)) = some (.tuple (ns.tail.map PyData.int)) := by
        simp [fSl, cut_from _ (d := 1) (by omega)]
      have h2 := lcM_map (zip_items (ns.map PyData.int) (ns.tail.map PyData.int)) (tg := gTupM 2 (gConsM (gN 1) (gConsM (gN 2) gNilM))) (te := e2 fLt (eVar 1) (eVar 2)) (ρ := [some (.sh (.d (.tuple (ns.map PyData.int)))), none, none]) (M := M) ltD (by simp at hl ⊢; omega) (fun d hd => by
        rw [zip_ints] at hd
        simp only [List.mem_map] at hd
        obtain ⟨_, ⟨p, _, rfl⟩, rfl⟩ := hd
        exact ⟨[some (.sh (.d (.tuple (ns.map PyData.int)))), some (.sh (.d (.int p.1))), some (.sh (.d (.int p.2)))], by simp, by simp [ltD]⟩)
      have h3 : boolsD (((((ns.map PyData.int).zip (ns.tail.map PyData.int)).map fun p => PyData.tuple [p.1, p.2]).map ltD)) = some ((ns.zip ns.tail).map fun p => decide (p.1 < p.2)) := by
        rw [zip_ints, List.map_map, List.map_map]
        have : (ltD ∘ (fun p : PyData × PyData => PyData.tuple [p.1, p.2])) ∘ (fun p : Int × Int => (PyData.int p.1, PyData.int p.2)) = fun p => .bool (decide (p.1 < p.2)) := rfl
        have e2 : ((fun p : PyData × PyData => PyData.tuple [p.1, p.2]) ∘ fun p : Int × Int => (PyData.int p.1, PyData.int p.2)) = fun p : Int × Int => PyData.tuple [.int p.1, .int p.2] := rfl
        simp [List.map_map, Function.comp_def, ltD]
      have h4 : ((ns.zip ns.tail).map fun p => decide (p.1 < p.2)).all id = decide (ns.Pairwise (· < ·)) := by
        rw [List.all_map, ← pw_zip]; rfl
      have hI : isHouses (.tuple (ns.map PyData.int)) = decide (ns.Pairwise (· < ·)) := by
        simp only [isHouses, ha, Bool.true_and, intOf_map]
      rw [hI]
      generalize hN : ns.map PyData.int = L at *
      generalize hT : ns.tail.map PyData.int = T at *
      have hk1 : kindV M (.d (.tuple L)) = some false := rfl
      have hk2 : kindV M (.d (.tuple T)) = some false := rfl
      have h0 : (L.map fun d => fromTo d 0 7).all id = true := by rw [List.all_map]; exact ha
      simp [m_are_houses, b_are_houses, PyData.isTuple, hk1, hk2, h1, h2, hsl, fAll, Function.comp_def] at h0 h3 h4 ⊢
      have h0' : ∀ x ∈ L, fromTo x 0 7 = true := h0
      simp [h3]
      have hz := pw_zip ns
      rw [if_neg (by rintro ⟨x, hx, h⟩; rw [h0 x hx] at h; cases h), hz]
    · have ha' : (ds.all fun d => fromTo d 0 7) = false := by simpa using ha
      have hI : isHouses (.tuple ds) = false := by simp only [isHouses, ha', Bool.false_and]
      rw [hI]
      have h0 : (ds.map fun d => fromTo d 0 7).all id = false := by rw [List.all_map]; exact ha'
      have hk1 : kindV M (.d (.tuple ds)) = some false := rfl
      simp [m_are_houses, b_are_houses, PyData.isTuple, hk1, h1, fAll, Function.comp_def]
      intro h; exfalso
      rw [List.all_eq_true.mpr h] at ha'
      cases ha'
  | _ => simp [m_are_houses, b_are_houses, isHouses, PyData.isTuple]
/-! sacks -/
def oneOk (d : PyData) : Bool := match d with
  | .tuple [_, b] => fromTo b 1 999
  | _ => false
def fstD (d : PyData) : PyData := match d with
  | .tuple (a :: _) => a
  | _ => .none
def isSack (x : PyData) : Bool := match x with
  | .tuple ds => decide (1 ≤ ds.length) && decide (ds.length ≤ 4) && ds.all oneOk && isHouses (.tuple (ds.map fstD))
  | _ => false
theorem oneOk_two {d : PyData} (h : oneOk d = true) : ∃ a b, d = .tuple [a, .int b] ∧ 1 ≤ b ∧ b ≤ 999 := by
  unfold oneOk at h
  split at h
  · obtain ⟨b, rfl, h1, h2⟩ := fromTo_int h; exact ⟨_, b, rfl, h1, h2⟩
  · cases h
def onV (v : Val) : Bool := match v with
  | .d d => oneOk d
  | _ => false
theorem is_sack_eq (x : PyData) (M : Store) : m_is_sack [.d x] M = .ok (.d (.bool (isSack x))) M := by
  cases x with
  | tuple ds =>
    by_cases h1 : 1 ≤ ds.length
    · by_cases h2 : ds.length ≤ 4
      · have h1' : (1 : Int) ≤ ds.length := by omega
        have h3 : ¬ (4 : Int) < ds.length := by omega
        have hfor := forM_ret (items_t ds) (tg := gN 1) (b := sKill [1] f1_is_sack) (v := .d (.bool false)) (M := M) (ρ := [some (.sh (.d (.tuple ds))), none]) (fun ρ => ∃ s, ρ = [some (.sh (.d (.tuple ds))), s]) onV ⟨_, rfl⟩ (by
          rintro x hx ρ ⟨s, rfl⟩
          obtain ⟨d, _, rfl⟩ := List.mem_map.mp hx
          refine ⟨[some (.sh (.d (.tuple ds))), some (.sh (.d d))], rfl, fun h => ?_, fun h => ?_⟩
          · obtain ⟨a, b, rfl, b1, b2⟩ := oneOk_two h
            exact ⟨_, by simp [f1_is_sack, PyData.isTuple, fLen, ixV, atI, ixN, is_from_to_eq, fromTo, b1, b2]; rfl, _, rfl⟩
          · have h : oneOk d = false := h
            cases d with
            | tuple es =>
              match es with
              | [] => simp [f1_is_sack, PyData.isTuple, fLen]
              | [a] => simp [f1_is_sack, PyData.isTuple, fLen]
              | [a, b] =>
                have h : fromTo b 1 999 = false := h
                simp [f1_is_sack, PyData.isTuple, fLen, ixV, atI, ixN, is_from_to_eq, h]
              | a :: b :: c :: r =>
                have : ¬ ((r.length : Int) + 1 + 1 + 1 = 2) := by omega
                simp [f1_is_sack, PyData.isTuple, fLen, this]
            | _ => simp [f1_is_sack, PyData.isTuple])
        have hal : (ds.map Val.d).all onV = ds.all oneOk := by rw [List.all_map]; rfl
        rw [hal] at hfor
        have hk1 : kindV M (.d (.tuple ds)) = some false := rfl
        cases ha : ds.all oneOk with
        | false =>
          have := hfor.2 ha
          simp [m_is_sack, b_is_sack, isSack, PyData.isTuple, fLen, h1, h1', h2, h3, hk1, this, ha]
        | true =>
          obtain ⟨_, e, s, rfl⟩ := hfor.1 ha
          have h4 := lcM_map (items_t ds) (tg := gN 1) (te := eG fIx (eVar 1) (eC (.int 0))) (ρ := [some (.sh (.d (.tuple ds))), none]) (M := M) fstD (by omega) (fun d hd => by
            obtain ⟨a, b, rfl, _, _⟩ := oneOk_two (List.all_eq_true.mp ha d hd)
            exact ⟨[some (.sh (.d (.tuple ds))), some (.sh (.d (.tuple [a, .int b])))], rfl, by simp [ixV, atI, ixN, fstD]⟩)
          have h5 := are_houses_eq (.tuple (ds.map fstD)) M (fun es h => by cases h; simp; omega)
          simp [m_is_sack, b_is_sack, isSack, PyData.isTuple, fLen, h1, h1', h2, h3, hk1, e, ha, h4, h5]
      · have h2' : ¬ (ds.length : Int) ≤ 4 := by omega
        have h3 : (4 : Int) < ds.length := by omega
        simp [m_is_sack, b_is_sack, isSack, PyData.isTuple, fLen, h2, h3]
    · have h1' : ¬ (1 : Int) ≤ ds.length := by omega
      simp [m_is_sack, b_is_sack, isSack, PyData.isTuple, fLen, h1, h1']
  | _ => simp [m_is_sack, b_is_sack, isSack, PyData.isTuple]
end Z

/-! Plain part 7: drawn sacks and rules. -/
namespace Z
open PySem PySem.Spec PyProof.Rows L2
def sackD (ps : List (Int × Int)) : PyData := .tuple (ps.map pr)
structure SackT (m : Int) (ps : List (Int × Int)) : Prop where
  lo : 1 ≤ ps.length
  hi : ps.length ≤ 4
  rise : (ps.map Prod.fst).Pairwise (· < ·)
  dom : ∀ p ∈ ps, 0 ≤ p.1 ∧ p.1 ≤ 7 ∧ 1 ≤ p.2 ∧ p.2 ≤ m
theorem SackT.mono {m m' : Int} {ps : List (Int × Int)} (h : SackT m ps) (hm : m ≤ m') : SackT m' ps := ⟨h.lo, h.hi, h.rise, fun p hp => by have := h.dom p hp; omega⟩
def grain (ps : List (Int × Int)) : Int := (ps.map Prod.snd).sum
theorem need_sack_eq (x : PyData) (M : Store) : m_need_sack [.d x] M = if isSack x = true then .ok (.d .none) M else .exn "NoSack" M := by
  simp [m_need_sack, b_need_sack, is_sack_eq]
  cases isSack x <;> simp
end Z

/-! Plain part 8: draws, as words of runs. -/
namespace Z
open PySem PySem.Spec PyProof.Rows L2
section
variable {M : Store} {n : Nat}
theorem take_w {k : Int} (h : BoxAt M n) (hk : 0 < k := by decide) (hk2 : k < 1073741824 := by decide) : Wp (fun v M' => ∃ d, v = .d (.int d) ∧ 0 ≤ d ∧ d < k ∧ BStep n M M') (m_l_take [.ref n, .d (.int k)] M) := by
  obtain ⟨d, M', e, h1, h2, h3⟩ := take_eq h hk hk2
  exact .of e ⟨d, rfl, h1, h2, h3⟩
theorem box_w (ns : List Int) (k : Nat) (M : Store) : Wp (fun v M' => v = .ref M.length ∧ BoxAt M' M.length) (m_l_box [.scr ns, .d (.int k)] M) := by
  obtain ⟨M', e, h⟩ := box_at ns k M
  exact .of e ⟨rfl, h⟩
end
/-! rules -/
structure Rule where
  per : Int
  bran : Int
  dust : Int
  free : List Int
def Rule.D (r : Rule) : PyData := .tuple [.int r.per, .int r.bran, .int r.dust, .tuple (r.free.map PyData.int)]
def HOk (hs : List Int) : Prop := (∀ h ∈ hs, 0 ≤ h ∧ h ≤ 7) ∧ hs.Pairwise (· < ·)
structure Rule.Ok (r : Rule) : Prop where
  per : 2 ≤ r.per ∧ r.per ≤ 100
  bran : 0 ≤ r.bran ∧ r.bran ≤ 60
  dust : 0 ≤ r.dust ∧ r.dust ≤ 20
  free : HOk r.free
theorem pw_len {hs : List Int} : ∀ {a : Int}, (∀ h ∈ hs, a ≤ h ∧ h ≤ 7) → hs.Pairwise (· < ·) → (hs.length : Int) ≤ max 0 (8 - a) := by
  induction hs with
  | nil => intros; simp; omega
  | cons h r ih =>
    intro a h1 h2
    have h2' := List.pairwise_cons.mp h2
    have h0 := h1 h (by simp)
    have := ih (a := h + 1) (fun x hx => ⟨by have := h2'.1 x hx; omega, (h1 x (by simp [hx])).2⟩) h2'.2
    simp; omega
theorem HOk.len {hs : List Int} (h : HOk hs) : hs.length ≤ 8 := by
  have := pw_len (a := 0) h.1 h.2
  omega
section
variable {M : Store} {n : Nat}
end
end Z

/-! Plain part 9: likeness, shown data, the law's loop over its cells. -/
namespace Z
open PySem PySem.Spec PyProof.Rows L2
@[simp] theorem fRepr_bools (b : Bool) : fRepr (.bool b) = some (.str (PyData.bool b).shown) := fRepr_of (k := 0) (n := 5) ⟨rfl, by simp [PyData.depth], by simp [wt], by simp [wd]⟩ (by decide) (by decide)
/-- a statement of its own, behind which P holds (stop ahead of it by simp -dsimp [-wp_seq, -sSeq_eq]) -/
theorem wp_seqC {a b : Sm Fl} {ρ : Rho} {M : Store} {Q : Fl → Store → Prop} (P : Rho → Store → Prop) (h1 : Wp (fun f M => ∃ ρ, f = .nx ρ ∧ P ρ M) (a ρ M)) (h2 : ∀ ρ M, P ρ M → Wp Q (b ρ M)) : Wp Q (sSeq a b ρ M) := by
  rw [wp_seq]
  exact h1.mono fun f M ⟨ρ, e, p⟩ => by subst e; exact h2 ρ M p
/-! sacks and rules are tuples -/
@[simp] theorem fBack_sack (ps : List (Int × Int)) : fBack (sackD ps) = some (.tuple (ps.map pr).reverse) := rfl
@[simp] theorem kindV_sack (M : Store) (ps : List (Int × Int)) : kindV M (.d (sackD ps)) = some false := rfl
@[simp] theorem itemsT_sack (M : Store) (ps : List (Int × Int)) : itemsK M true (.d (sackD ps)) = none := rfl
@[simp] theorem itemsF_sack (M : Store) (ps : List (Int × Int)) : itemsK M false (.d (sackD ps)) = some ((ps.map pr).map Val.d) := rfl
@[simp] theorem fSl_sack (lo hi : Option Int) (ps : List (Int × Int)) : fSl lo hi (sackD ps) = some (.tuple (cut (ps.map pr) lo hi)) := rfl
@[simp] theorem fLen_sack (M : Store) (ps : List (Int × Int)) : fLen [.d (sackD ps)] M = .ok (.d (.int ps.length)) M := by simp [fLen, sackD]
@[simp] theorem items_sack (ps : List (Int × Int)) : (Src.one false (.d (sackD ps))).items = some ((ps.map pr).map Val.d) := rfl
@[simp] theorem kindV_rule (M : Store) (r : Rule) : kindV M (.d r.D) = some false := rfl
@[simp] theorem itemsF_rule (M : Store) (r : Rule) : itemsK M false (.d r.D) = some ([.int r.per, .int r.bran, .int r.dust, .tuple (r.free.map PyData.int)].map Val.d) := rfl
@[simp] theorem ix0_rule (M : Store) (r : Rule) : ixV M (.d r.D) 0 = some (.d (.int r.per)) := rfl
@[simp] theorem ix1_rule (M : Store) (r : Rule) : ixV M (.d r.D) 1 = some (.d (.int r.bran)) := rfl
@[simp] theorem ix2_rule (M : Store) (r : Rule) : ixV M (.d r.D) 2 = some (.d (.int r.dust)) := rfl
@[simp] theorem ix3_rule (M : Store) (r : Rule) : ixV M (.d r.D) 3 = some (.d (.tuple (r.free.map PyData.int))) := rfl
@[simp] theorem fSl_rule (lo hi : Option Int) (r : Rule) : fSl lo hi r.D = some (.tuple (cut [.int r.per, .int r.bran, .int r.dust, .tuple (r.free.map PyData.int)] lo hi)) := rfl
@[simp] theorem items_sackV (ps : List (Int × Int)) : (Src.one false (.d (sackD ps))).items = some (ps.map fun p => Val.d (pr p)) := by simp [Src.items, itemsK, sackD, Function.comp_def]
@[simp] theorem ksl {α : Type} (f : α → PyData) (M : Store) (xs : List α) : itemsK M true (.d (.list (xs.map f))) = some (xs.map fun x => Val.d (f x)) := by simp [itemsK, Function.comp_def]
@[simp] theorem kst {α : Type} (f : α → PyData) (M : Store) (xs : List α) : itemsK M false (.d (.tuple (xs.map f))) = some (xs.map fun x => Val.d (f x)) := by simp [itemsK, Function.comp_def]
@[simp] theorem kss (M : Store) (ps : List (Int × Int)) : itemsK M false (.d (sackD ps)) = some (ps.map fun p => Val.d (pr p)) := by simp [itemsK, sackD, Function.comp_def]
/-! the law -/
theorem cells_w {ns : List Int} {c : Int} {ρ : Rho} {M : Store} {Q : Src → Store → Prop} (h0 : ρ[0]? = some (some (.sh (.scr ns)))) (k : ∀ n : Nat, Q (.rng 0 1 n) M) (hc : c ≤ 4 := by decide) :
    Wp Q (sRng1 (aCons (eCB fMax2 (aCons (eC (.int 1)) (aCons (eCB fMin2 (aCons (eCG fLen (aCons (eVar 0) aNil)) (aCons (eC (.int c)) aNil))) aNil))) aNil) ρ M) := by
  obtain ⟨n, e⟩ := cells_rng ns c hc ρ M h0
  exact .of e (k n)
theorem fin_law {m : List Val → Store → Res Val} {xs : List Val} {M : Store} (h : Wp (fun v _ => v = .d (.bool true)) (m xs M)) : ∃ M', m xs M = .ok (.d (.bool true)) M' := by
  obtain ⟨v, M', e, rfl⟩ := h.get
  exact ⟨M', e⟩
end Z

/-! Plain part 10: dish, bran, dust, flour; hours. -/
namespace Z
open PySem PySem.Spec PyProof.Rows L2
def givO (r : Rule) (p : Int × Int) : Int := if p.1 ∈ r.free then 0 else p.2
def givL (r : Rule) (ps : List (Int × Int)) : List Int := ps.map (givO r)
@[simp] theorem fSum_lints (ns : List Int) : fSum [.list (ns.map PyData.int)] = some (.int ns.sum) := by simp [fSum]
@[simp] theorem fSum_tints (ns : List Int) : fSum [.tuple (ns.map PyData.int)] = some (.int ns.sum) := by simp [fSum]
def dish (r : Rule) (ps : List (Int × Int)) : Int := (givL r ps).sum / r.per
structure Parts where
  dish : Int
  bran : Int
  dust : Int
  flour : Int
def Parts.D (p : Parts) : PyData := .tuple [.int p.dish, .int p.bran, .int p.dust, .int p.flour]
def parts (r : Rule) (ps : List (Int × Int)) : Parts :=
  ⟨dish r ps, (grain ps - dish r ps) * r.bran / 100, (grain ps - dish r ps) * r.dust / 100, grain ps - dish r ps - (grain ps - dish r ps) * r.bran / 100 - (grain ps - dish r ps) * r.dust / 100⟩
end Z

/-! Plain part 11: rights, speeds, hours. -/
namespace Z
open PySem PySem.Spec PyProof.Rows L2
@[simp] theorem itemsTt (M : Store) (xs : List PyData) : itemsK M true (.d (.tuple xs)) = none := rfl
@[simp] theorem itemsFl (M : Store) (xs : List PyData) : itemsK M false (.d (.list xs)) = none := rfl
/-! hours -/
def hrs (r : Rule) (ps : List (Int × Int)) (sp : Int) : Int := (grain ps - dish r ps + sp - 1) / sp
end Z

namespace Z
open PySem PySem.Spec PyProof.Rows L2
end Z

/-! Plain part 12: what is shared: the arithmetic. -/
namespace Z
open PySem PySem.Spec PyProof.Rows L2
def flos (a t : Int) (ws : List Int) : List Int := ws.map fun w => w * a / t
def over (a t : Int) (ws : List Int) : Nat := (a - (flos a t ws).sum).toNat
end Z

/-! Plain part 13: what is shared: the runs. -/
namespace Z
open PySem PySem.Spec PyProof.Rows L2
/-- a list or a tuple of whole numbers -/
def seqI (k : Bool) (ws : List Int) : PyData := if k then .list (ws.map PyData.int) else .tuple (ws.map PyData.int)
@[simp] theorem kindV_seqI (M : Store) (k : Bool) (ws : List Int) : kindV M (.d (seqI k ws)) = some k := by cases k <;> rfl
@[simp] theorem fSum_seqI (k : Bool) (ws : List Int) : fSum [seqI k ws] = some (.int ws.sum) := by cases k <;> simp [seqI]
@[simp ↓] theorem wp_eLq {ρ : Rho} {M : Store} {Q : Val → Store → Prop} (f : List PyData → PyData → Option PyData) (mo mv : Sm Val) : Wp Q (eLq f mo mv ρ M) = Wp (fun y M1 => Wp Q (match load M1 y with
  | some (.list _) => (mv ρ M1).bind fun z M2 => match load M2 y, load M2 z with
    | some (.list ds), some d => match f ds d with
      | some r => .ok (.d r) M2
      | none => .stuck
    | _, _ => .stuck
  | _ => .stuck)) (mo ρ M) := (wp_bindE _ _ _).trans (by congr)
end Z

/-! Plain part 14: weights. -/
namespace Z
open PySem PySem.Spec PyProof.Rows L2
structure WtOk (ws : List Int) : Prop where
  lo : 1 ≤ ws.length
  hi : ws.length ≤ 8
  all : ∀ w ∈ ws, 0 ≤ w ∧ w ≤ 1000000
  pos : 0 < ws.sum
theorem sum_hi (m : Int) : ∀ ws : List Int, (∀ w ∈ ws, 0 ≤ w ∧ w ≤ m) → 0 ≤ ws.sum ∧ ws.sum ≤ m * ws.length
  | [], _ => by simp
  | w :: r, h => by
    have ih := sum_hi m r fun x hx => h x (by simp [hx])
    have := h w (by simp)
    have e : m * ((r.length + 1 : Nat) : Int) = m * r.length + m := by push_cast; rw [Int.mul_add, Int.mul_one]
    simp only [List.sum_cons, List.length_cons, e]; omega
theorem WtOk.bd {ws : List Int} (h : WtOk ws) : ws.sum ≤ 8000000 := by
  have a := sum_hi 1000000 ws h.all
  have := h.hi
  omega
end Z

/-! Plain part 15: shares are fair, and none gets more than its weight. -/
namespace Z
open PySem PySem.Spec PyProof.Rows L2
end Z

/-! Plain part 16: house by house. -/
namespace Z
open PySem PySem.Spec PyProof.Rows L2
end Z

/-! Plain part 17: house by house, the law's own; sizes of rows. -/
namespace Z
open PySem PySem.Spec PyProof.Rows L2
@[simp] theorem pures_rev (R : List PyData) : pures (R.map Val.d).reverse = some R.reverse := by rw [← List.map_reverse]; exact pures_map _
@[simp] theorem pures_set (R : List PyData) (i : Nat) (v : PyData) : pures ((R.map Val.d).set i (.d v)) = some (R.set i v) := by rw [← List.map_set]; exact pures_map _
@[simp] theorem pures_set2 (R : List PyData) (i j : Nat) (u v : PyData) : pures (((R.map Val.d).set i (.d u)).set j (.d v)) = some ((R.set i u).set j v) := by rw [← List.map_set, ← List.map_set]; exact pures_map _
@[simp] theorem pures_take (R : List PyData) (i : Nat) : pures ((R.map Val.d).take i) = some (R.take i) := by rw [← List.map_take]; exact pures_map _
@[simp] theorem pures_drop (R : List PyData) (i : Nat) : pures ((R.map Val.d).drop i) = some (R.drop i) := by rw [← List.map_drop]; exact pures_map _
end Z

/-! Plain part 18: partings of sacks to two stones. -/
namespace Z
open PySem PySem.Spec PyProof.Rows L2
def rowsOf : Nat → List (List Int)
  | 0 => [[]]
  | n + 1 => (rowsOf n).flatMap fun row => [row ++ [0], row ++ [1]]
def two (row : List Int) : List (List Int) := [row ++ [0], row ++ [1]]
end Z

/-! Plain part 19: partings, the law's own; refusals; all partings. -/
namespace Z
open PySem PySem.Spec PyProof.Rows L2
end Z

/-! Plain part 20: the fewest hours. -/
namespace Z
open PySem PySem.Spec PyProof.Rows L2
end Z

/-! Plain part 21: the best parting. -/
namespace Z
open PySem PySem.Spec PyProof.Rows L2
def bestP (g : List Int → Int) : List Int → List (List Int) → List Int
  | a, [] => a
  | a, y :: r => bestP g (if g y < g a then y else a) r
def best (g : List Int → Int) (n : Nat) : List Int := match rowsOf n with
  | a :: r => bestP g a r
  | [] => []
end Z

/-! Plain part 22: what the fewest hours obey. -/
namespace Z
open PySem PySem.Spec PyProof.Rows L2
def t1 (r : Rule) (s1 : Int) (q : List (Int × Int) × Int) : Int := if q.2 = 0 then 0 else hrs r q.1 s1
end Z

/-! Plain part 23: dicts of one's own. -/
namespace Z
open PySem PySem.Spec PyProof.Rows L2
def WOd (P : List (Key × PyData) → Prop) (o : Ph P (Option (Option Slot))) : Prop := match (o : Option (Option Slot)) with
  | some (some (.od xs)) => P xs
  | _ => False
@[simp] theorem wod_od (P : List (Key × PyData) → Prop) (xs : List (Key × PyData)) : WOd P (some (some (.od xs))) = P xs := by with_unfolding_all rfl
theorem wod_eq {α : Type} {ρ : Rho} {i : Nat} {f : List (Key × PyData) → Res α} {Q : α → Store → Prop} : Wp Q (wOd ρ i f) = WOd (fun xs => Wp Q (f xs)) ρ[i]? := by
  unfold wOd WOd
  generalize ρ[i]? = o
  rcases o with _ | _ | (x | x | x) <;> (with_unfolding_all rfl)
section
variable {M : Store} {ρ : Rho} {Q : Val → Store → Prop} {QF : Fl → Store → Prop} {QL : List Val → Store → Prop}
@[simp ↓] theorem wp_dget (i : Nat) (mk mx : Sm Val) : Wp Q (eDGet i mk mx ρ M) = WOd (fun kvs => Wp (fun k M1 => Wp (fun x M2 => Wp Q (dgetR kvs k x M2)) (mx ρ M1)) (mk ρ M)) ρ[i]? :=
  wod_eq.trans (by congr; funext xs; rw [wp_bindE]; congr; funext y M1; exact wp_bindE _ _ _)
@[simp ↓] theorem wp_dix (i : Nat) (mk : Sm Val) : Wp Q (eDIx i mk ρ M) = WOd (fun kvs => Wp (fun k M1 => Wp Q (dixR kvs k M1)) (mk ρ M)) ρ[i]? :=
  wod_eq.trans (by congr; funext xs; exact wp_bindE _ _ _)
@[simp ↓] theorem wp_dset (i : Nat) (m mk : Sm Val) : Wp QF (sDSet i m mk ρ M) = WOd (fun kvs => Wp (fun x M1 => Wp (fun k M2 => Wp QF (dsetR ρ i kvs k x M2)) (mk ρ M1)) (m ρ M)) ρ[i]? :=
  wod_eq.trans (by congr; funext xs; rw [wp_bindE]; congr; funext y M1; exact wp_bindE _ _ _)
@[simp ↓] theorem wp_sortD (i : Nat) : Wp QL (lSortD i ρ M) = WOd (fun kvs => Wp QL (sortDR kvs M)) ρ[i]? := wod_eq
@[simp ↓] theorem wp_asgD (i : Nat) (m : Sm (List (Key × Val))) : Wp QF (sAsgD i m ρ M) = Wp (fun xs M1 => Wp QF (match pureD xs with
  | some ds => .ok (.nx (ρ.set i (some (.od ds)))) M1
  | none => .stuck)) (m ρ M) := wp_bindE ..
end
@[simp] theorem pureD_nil : pureD [] = some [] := rfl
@[simp] theorem dgetR_int (kvs : List (Key × PyData)) (k : Int) (x : PyData) (M : Store) : dgetR kvs (.d (.int k)) (.d x) M = .ok (.d ((valP kvs (.inl k)).getD x)) M := rfl
/-! ints as keys -/
section
variable {α : Type}
end
end Z

/-! Plain part 24: accounts of houses, the plain law. -/
namespace Z
open PySem PySem.Spec PyProof.Rows L2
end Z

/-! Plain part 25: words of texts. -/
namespace Z
open PySem PySem.Spec PyProof.Rows L2
section
variable {M : Store} {ρ : Rho} {Q : Val → Store → Prop} {QL : List Val → Store → Prop} {QS : Src → Store → Prop}
@[simp ↓] theorem wp_onStr {α : Type} (a : Str) (f : Str → Res α) (Q : α → Store → Prop) : Wp Q (onStr (.d (.str a)) f) = Wp Q (f a) := rfl
@[simp ↓] theorem wp_t1 (f : Str → Str → Option PyData) (mo mb : Sm Val) : Wp Q (eT1 f mo mb ρ M) = Wp (fun x M1 => Wp Q (onStr x fun a => (mb ρ M1).bind fun y M2 => onStr y fun b => match f a b with
  | some z => .ok (.d z) M2
  | none => .stuck)) (mo ρ M) := wp_bindE ..
@[simp ↓] theorem wp_split (mo mb : Sm Val) : Wp QL (lSplit mo mb ρ M) = Wp (fun x M1 => Wp QL (onStr x fun a => (mb ρ M1).bind fun y M2 => onStr y fun b =>
  if (b.length == 0) = false ∧ a.length + 2 ≤ sizeLine then .ok ((Txt.split a b).map fun s => .d (.str s)) M2 else .stuck)) (mo ρ M) := wp_bindE ..
@[simp ↓] theorem wp_part (mo mb : Sm Val) : Wp Q (ePart mo mb ρ M) = Wp (fun x M1 => Wp Q (onStr x fun a => (mb ρ M1).bind fun y M2 => onStr y fun b =>
  if (b.length == 0) = false ∧ a.length ≤ sizeLine then .ok (.d (partD a b)) M2 else .stuck)) (mo ρ M) := wp_bindE ..
@[simp ↓] theorem wp_join (mo ml : Sm Val) : Wp Q (eJoin mo ml ρ M) = Wp (fun x M1 => Wp Q (onStr x fun a => (ml ρ M1).bind fun z M2 => joinR a z M2)) (mo ρ M) := wp_bindE ..
@[simp ↓] theorem wp_sStr (m : Sm Val) : Wp QS (sStr m ρ M) = Wp (fun x M1 => Wp QS (onStr x fun a => .ok (.str a) M1)) (m ρ M) := wp_bindE ..
end
/-! numbers in texts -/
def nS (n : Int) : Str := Str.ofString (toString n)
end Z

namespace Z
open PySem PySem.Spec PyProof.Rows L2

/-- law: 0 _law_script, 1 _law_signs, 2 _law_words, 3 _law_k, 4 _law_box_here, 5 _law_text, 6 _law_made, 7 _law_plain, 8 _law_word_here, 9 _law_e, 10 _law_sign -/
def f1_law : Sm Fl := (sSeq (sAsg (eCall 2 m_l_box (aCons (eVar 0) (aCons (eVar 3) aNil))) (gN 4))
  (sSeq (sAsg (eJoin (eC (.str "")) (eFrz (eLc (sRng1 (aCons (eCall 2 m_l_take (aCons (eVar 4) (aCons (eC (.int 11)) aNil))) aNil)) (gN 10) tYesM (eG fIx (eVar 1) (eCall 2 m_l_take (aCons (eVar 4) (aCons (eC (.int 96)) aNil)))) [10]))) (gN 5))
  (sSeq (sBlk 5 2 [6, 8, 9, 7])
  (sIf (tVal (e2 fNe (eSaid (eCall 1 m_grain_of (aCons (eVar 5) aNil))) (eC (.str "! sack")))) (sRet (eC (.bool false))) sNext))))
def b_law : Sm Fl := (sSeq (sAsg (eC (.str " !\"#$&'()*+,-./0123456789:;<=>?@ABCDEFGHIJKLMNOPQRSTUVWXYZ[\\]^_`abcdefghijklmnopqrstuvwxyz{|}~\n\t")) (gN 1))
  (sSeq (sAsg (eFrz (lLst (aCons (eC (.str "rule")) (aCons (eC (.str "sack")) (aCons (eC (.str "rights")) (aCons (eC (.str "speeds")) (aCons (eC (.str "water")) (aCons (eC (.str "moment")) (aCons (eC (.str "book")) (aCons (eC (.str "number")) (aCons (eC (.str "weights")) (aCons (eC (.str "houses")) (aCons (eC (.str "deed")) aNil))))))))))))) (gN 2))
  (sSeq (sAsg (e2 fAdd (eVar 2) (eFrz (lLst (aCons (eC (.str "text")) (aCons (eC (.str "word")) (aCons (eC (.str "much")) (aCons (eC (.str "many")) aNil))))))) (gN 2))
  (sSeq (sFor [3, 4, 5, 6, 7, 8, 9, 10] (sRng1 (aCons (eCB fMax2 (aCons (eC (.int 1)) (aCons (eCB fMin2 (aCons (eCG fLen (aCons (eVar 0) aNil)) (aCons (eC (.int 4)) aNil))) aNil))) aNil)) (gN 3) f1_law)
  (sRet (eC (.bool true)))))))
def m_law : List Val → Store → Res Val := fnM 1 11 b_law
end Z

set_option maxHeartbeats 1000000
/-! classes of refusals: the plain law. -/
namespace Z
open PySem PySem.Spec PyProof.Rows L2
theorem grain_of10 {x : PyData} (h : isSack x = false) (M : Store) : m_grain_of [.d x] M = .exn "NoSack" M := by
  have := need_sack_eq x M
  rw [if_neg (by simp [h])] at this
  simp [m_grain_of, b_grain_of, this]
theorem signs10 : ∀ {ds : List PyData}, (∀ (i : Nat) (d : PyData), ds[i]? = some d → ∃ c, d = PyData.str ⟨#[c]⟩) → ∃ ys : List Str, strsD ds = some ys ∧ (ys.map fun y => y.length).sum = ds.length
  | [], _ => ⟨[], rfl, rfl⟩
  | d :: ds, h => by
    obtain ⟨c, rfl⟩ := h 0 d rfl
    obtain ⟨ys, e, s⟩ := signs10 (ds := ds) fun i d hi => h (i + 1) d (by simpa using hi)
    refine ⟨_ :: ys, by rw [strsD, e]; rfl, ?_⟩
    rw [List.map_cons, List.sum_cons, s]
    show 1 + ds.length = ds.length + 1
    omega
def sg10 : Str := " !\"#$&'()*+,-./0123456789:;<=>?@ABCDEFGHIJKLMNOPQRSTUVWXYZ[\\]^_`abcdefghijklmnopqrstuvwxyz{|}~\n\t"
theorem sg10_len : sg10.length = 96 := by decide +kernel
theorem sg10_at {i : Int} (h0 : 0 ≤ i) (h1 : i < 96) (M : Store) : ∃ c, ixV M (.d (.str sg10)) i = some (.d (.str ⟨#[c]⟩)) := by
  have hl : sg10.cps.toList.length = 96 := by decide +kernel
  obtain ⟨k, rfl⟩ : ∃ k : Nat, i = k := ⟨i.toNat, by omega⟩
  refine ⟨sg10.cps.toList[k]'(by omega), ?_⟩
  unfold ixV
  simp only
  rw [if_pos (by rw [sg10_len, sizeLine_eq]; decide), atI_nat _ k (by omega)]
  rfl
theorem turn10 {M : Store} {n : Nat} {ns : List Int} (hb : BoxAt M n) (s3 : Option Slot) :
    Wp (fun v M' => ∃ t, v = .d (.str t)) (eJoin (eC (.str "")) (eFrz (eLc (sRng1 (aCons (eCall 2 m_l_take (aCons (eVar 4) (aCons (eC (.int 11)) aNil))) aNil)) (gN 10) tYesM (eG fIx (eVar 1) (eCall 2 m_l_take (aCons (eVar 4) (aCons (eC (.int 96)) aNil)))) [10]))
      [some (.sh (.scr ns)), some (.sh (.d (.str sg10))), some (.sh (.d (.list (refW.map PyData.str)))), s3, some (.sh (.ref n)), none, none, none, none, none, none] M) := by
  have hsg : ∀ (i : Int) (M : Store), 0 ≤ i → i < 96 → ∃ c, ixV M (.d (.str sg10)) i = some (.d (.str ⟨#[c]⟩)) := fun i M h0 h1 => sg10_at h0 h1 M
  generalize sg10 = SG at *
  generalize refW.map PyData.str = RW at *
  simp -dsimp
  refine wp_draws (fun _ d => ∃ c, d = .str ⟨#[c]⟩) (fun M' => BoxAt M' n) ?_
  simp -dsimp
  refine (take_w hb).mono ?_
  rintro _ M1 ⟨m, rfl, m0, m1, s1⟩
  have hin : inR m = true := by simp [inR]; omega
  simp -dsimp [hin]
  refine ⟨_, items_r _, by simp; omega, s1.box, ?_, ?_⟩
  · rintro j x M5 hx t5
    simp -dsimp
    refine (take_w t5).mono ?_
    rintro _ M6 ⟨d, rfl, d0, d1, s6⟩
    obtain ⟨c, hc⟩ := hsg d M6 d0 d1
    simp -dsimp [hc]
    exact s6.box
  intro ds M5 hdl hd t5
  have hdl : ds.length = m.toNat := by simpa using hdl
  obtain ⟨ys, e, hs⟩ := signs10 hd
  simp -dsimp [e, hs, joinR]
  have : ds.length ≤ 16777216 := by omega
  have z : ys.length * (Str.ofString "").length = 0 := by
    have : (Str.ofString "").length = 0 := rfl
    rw [this, Nat.mul_zero]
  rw [if_pos (by rw [z]; omega), wp_ok]
  exact ⟨_, rfl⟩
theorem law_true : ∀ ns : List Int, ns.length ≤ 63 → (∀ z ∈ ns, PySem.Builtin.Int.intBits z ≤ 1048576) → ∃ M, m_law [.scr ns] [] = .ok (.d (.bool true)) M := by
  intro ns _ _
  refine fin_law ?_
  unfold m_law b_law
  rw [wp_fn]
  refine ⟨rfl, ?_⟩
  show Wp _ (sSeq _ _ [some (.sh (.scr ns)), none, none, none, none, none, none, none, none, none, none] [])
  refine wp_seqC (fun ρ _ => ρ = [some (.sh (.scr ns)), some (.sh (.d (.str sg10))), none, none, none, none, none, none, none, none, none]) ?_ ?_
  · have e : (eC (.str " !\"#$&'()*+,-./0123456789:;<=>?@ABCDEFGHIJKLMNOPQRSTUVWXYZ[\\]^_`abcdefghijklmnopqrstuvwxyz{|}~\n\t") : Sm Val) = eC (.str sg10) := rfl
    rw [e]
    generalize sg10 = SG
    simp -dsimp
  rintro _ M1 rfl
  refine wp_seqC (fun ρ _ => ρ = [some (.sh (.scr ns)), some (.sh (.d (.str sg10))), some (.sh (.d (.list (wdA.map PyData.str)))), none, none, none, none, none, none, none, none]) ?_ ?_
  · have e : wdA.map PyData.str = [.str "rule", .str "sack", .str "rights", .str "speeds", .str "water", .str "moment", .str "book", .str "number", .str "weights", .str "houses", .str "deed"] := rfl
    rw [e]
    generalize sg10 = SG
    simp -dsimp
  rintro _ M2 rfl
  refine wp_seqC (fun ρ _ => ρ = [some (.sh (.scr ns)), some (.sh (.d (.str sg10))), some (.sh (.d (.list (refW.map PyData.str)))), none, none, none, none, none, none, none, none]) ?_ ?_
  · have e : refW.map PyData.str = wdA.map PyData.str ++ [.str "text", .str "word", .str "much", .str "many"] := rfl
    have hl : (wdA.map PyData.str).length + 4 ≤ 16777216 := by decide
    have hf : fAdd (.list (wdA.map PyData.str)) (.list [.str "text", .str "word", .str "much", .str "many"]) = some (.list (wdA.map PyData.str ++ [.str "text", .str "word", .str "much", .str "many"])) := by rfl
    rw [e]
    generalize wdA.map PyData.str = WA at *
    generalize sg10 = SG
    simp -dsimp [lift2, hf]
  rintro _ M3 rfl
  rw [wp_seq, wp_sFor]
  refine wp_fix (fun _ _ => True) (cells_w rfl fun n => ?_)
  refine ⟨_, items_r n, trivial, ?_, fun M _ => ?_⟩
  · rintro i x M hx -
    have hi := (List.getElem?_eq_some_iff.mp hx).1
    simp at hi
    simp [hi] at hx
    subst hx
    rw [gN_eq, wp_ok]
    show Wp _ (f1_law [some (.sh (.scr ns)), some (.sh (.d (.str sg10))), some (.sh (.d (.list (refW.map PyData.str)))), some (.sh (.d (.int (i : Int)))), none, none, none, none, none, none, none] M)
    unfold f1_law
    refine wp_seqC (fun ρ M' => ∃ n, ρ = [some (.sh (.scr ns)), some (.sh (.d (.str sg10))), some (.sh (.d (.list (refW.map PyData.str)))), some (.sh (.d (.int (i : Int)))), some (.sh (.ref n)), none, none, none, none, none, none] ∧ BoxAt M' n) ?_ ?_
    · generalize sg10 = SG
      generalize refW.map PyData.str = RW
      simp -dsimp
      refine (box_w ns i M).mono ?_
      rintro _ M1 ⟨rfl, hb⟩
      simp -dsimp
      exact hb
    rintro _ M4 ⟨n, rfl, hb⟩
    refine wp_seqC (fun ρ M' => ∃ t, ρ = [some (.sh (.scr ns)), some (.sh (.d (.str sg10))), some (.sh (.d (.list (refW.map PyData.str)))), some (.sh (.d (.int (i : Int)))), some (.sh (.ref n)), some (.sh (.d (.str t))), none, none, none, none, none]) ?_ ?_
    · rw [wp_asg]
      refine (turn10 hb _).mono ?_
      rintro _ M5 ⟨t, rfl⟩
      generalize sg10 = SG
      generalize refW.map PyData.str = RW
      simp -dsimp
    rintro _ M5 ⟨t, rfl⟩
    refine wp_seqC (fun ρ M' => ρ = [some (.sh (.scr ns)), some (.sh (.d (.str sg10))), some (.sh (.d (.list (refW.map PyData.str)))), some (.sh (.d (.int (i : Int)))), some (.sh (.ref n)), some (.sh (.d (.str t))), none, none, none, none, none]) ?_ ?_
    · have hw : isWL (refW.map PyData.str) = true := by decide +kernel
      generalize sg10 = SG
      refine .of (a := .nx _) (M := M5) ?_ ⟨_, rfl, rfl⟩
      unfold sBlk
      simp only [List.getElem?_cons_succ, List.getElem?_cons_zero]
      rw [if_pos ⟨hw, rfl⟩]
      rfl
    rintro _ M6 rfl
    have g := grain_of10 (x := .str t) rfl
    have f1 : fNe (.str "! sack") (.str "! sack") = some (.bool false) := fNe_str_self _
    generalize sg10 = SG
    generalize refW.map PyData.str = RW
    simp -dsimp [g, f1, saidR, word_sack]
  · simp -dsimp
end Z

namespace Z
open PySem PySem.Spec PyProof.Rows L2

def top (i : Nat) : Stmt := PySem.Challenge.pw_grindturns_k10_classes_of_refusals.main.body.getD i (.Pass ⟨0, 0, 0, 0⟩)
abbrev st_l_word : Stmt := top 30
abbrev N_l_word : List Str := ["_law_e", "_law_kinds", "_law_words"]
abbrev ps_l_word : List Str := ["_law_e"]
abbrev st_l_said : Stmt := top 31
abbrev N_l_said : List Str := ["_law_call", "_law_e"]
abbrev ps_l_said : List Str := ["_law_call"]
abbrev st_grain_in : Stmt := top 25
abbrev N_grain_in : List Str := ["sack", "house", "ounces"]
abbrev ps_grain_in : List Str := ["sack"]
abbrev st_is_whole : Stmt := top 20
abbrev N_is_whole : List Str := ["thing"]
abbrev ps_is_whole : List Str := ["thing"]
abbrev st_is_from_to : Stmt := top 21
abbrev N_is_from_to : List Str := ["thing", "least", "most"]
abbrev ps_is_from_to : List Str := ["thing", "least", "most"]
abbrev st_are_houses : Stmt := top 22
abbrev N_are_houses : List Str := ["thing", "house", "other"]
abbrev ps_are_houses : List Str := ["thing"]
abbrev st_is_sack : Stmt := top 23
abbrev N_is_sack : List Str := ["thing", "one"]
abbrev ps_is_sack : List Str := ["thing"]
abbrev st_need_sack : Stmt := top 24
abbrev N_need_sack : List Str := ["thing"]
abbrev ps_need_sack : List Str := ["thing"]
abbrev st_grain_of : Stmt := top 26
abbrev N_grain_of : List Str := ["sack"]
abbrev ps_grain_of : List Str := ["sack"]
abbrev st_l_take : Stmt := top 29
abbrev N_l_take : List Str := ["_law_box_here", "_law_many", "_law_high", "_law_digit"]
abbrev ps_l_take : List Str := ["_law_box_here", "_law_many"]
abbrev st_l_box : Stmt := top 28
abbrev N_l_box : List Str := ["_law_script", "_law_k", "_law_cell"]
abbrev ps_l_box : List Str := ["_law_script", "_law_k"]
abbrev st_law : Stmt := top 32
abbrev N_law : List Str := ["_law_script", "_law_signs", "_law_words", "_law_k", "_law_box_here", "_law_text", "_law_made", "_law_plain", "_law_word_here", "_law_e", "_law_sign"]
abbrev ps_law : List Str := ["_law_script"]
structure Txt (K : PySem.W.Frag) (mg : Str → Option Value) : Prop where
  b_ValueError : mg "ValueError" = none
  b_abs : mg "abs" = none
  b_all : mg "all" = none
  b_bool : mg "bool" = none
  b_divmod : mg "divmod" = none
  b_int : mg "int" = none
  b_isinstance : mg "isinstance" = none
  b_len : mg "len" = none
  b_max : mg "max" = none
  b_min : mg "min" = none
  b_range : mg "range" = none
  b_repr : mg "repr" = none
  b_sum : mg "sum" = none
  b_tuple : mg "tuple" = none
  b_zip : mg "zip" = none
  c_MOST_HOUSES : ∃ u, mg "MOST_HOUSES" = some u ∧ RelV (.int 4) u
  c_MOST_OUNCES : ∃ u, mg "MOST_OUNCES" = some u ∧ RelV (.int 999) u
  x_MillError : XZ K mg "MillError"
  x_NoBook : XZ K mg "NoBook"
  x_NoDeed : XZ K mg "NoDeed"
  x_NoHouses : XZ K mg "NoHouses"
  x_NoMoment : XZ K mg "NoMoment"
  x_NoNumber : XZ K mg "NoNumber"
  x_NoRights : XZ K mg "NoRights"
  x_NoRule : XZ K mg "NoRule"
  x_NoSack : XZ K mg "NoSack"
  x_NoSpeeds : XZ K mg "NoSpeeds"
  x_NoText : XZ K mg "NoText"
  x_NoWater : XZ K mg "NoWater"
  x_NoWeights : XZ K mg "NoWeights"
  x_NoWord : XZ K mg "NoWord"
  x_TooMany : XZ K mg "TooMany"
  x_TooMuch : XZ K mg "TooMuch"
  d_l_word : DefK K mg "_law_word" st_l_word ps_l_word
  d_l_said : DefK K mg "_law_said" st_l_said ps_l_said
  d_grain_in : DefK K mg "grain_in" st_grain_in ps_grain_in
  d_is_whole : DefK K mg "is_whole" st_is_whole ps_is_whole
  d_is_from_to : DefK K mg "is_from_to" st_is_from_to ps_is_from_to
  d_are_houses : DefK K mg "are_houses" st_are_houses ps_are_houses
  d_is_sack : DefK K mg "is_sack" st_is_sack ps_is_sack
  d_need_sack : DefK K mg "need_sack" st_need_sack ps_need_sack
  d_grain_of : DefK K mg "grain_of" st_grain_of ps_grain_of
  d_l_take : DefK K mg "_law_take" st_l_take ps_l_take
  d_l_box : DefK K mg "_law_box" st_l_box ps_l_box
  d_law : DefK K mg "law" st_law ps_law
  said : SaidK K mg
  err : ErrK K mg
  ten : TenK K mg
section
variable {P : Program} {w : World} {K : PySem.W.Frag} {mg : Str → Option Value} {base : Heap} {Tt : List (Addr × Str)}
theorem sc_l_word : FnScope N_l_word ps_l_word (defScope st_l_word) := ⟨rfl, rfl, rfl, by decide +kernel, rfl, by decide +kernel, by decide +kernel⟩
theorem z_l_word (T : Txt K mg) (B : Mods base) : WordZ P w K mg base 1 := by
  obtain ⟨f, fd, h1, F, hb⟩ := T.d_l_word.ex
  refine ⟨f, fd, h1, F.kp, hb, wz_of (k := 0) F sc_l_word fun cd A out s H p D c wd Q hot hr hz hm hw hQ => ?_⟩
  obtain ⟨i, w1, hi, hwi, rfl⟩ := word_at hw
  obtain ⟨A1, hA, xc, xv, xo⟩ := T.err.at_ i c hi
  rw [hm] at hA; cases hA
  have hu : (A.deeper (envOfC "_law_word" (defScope st_l_word) s.heap.objs.size f cd)).units + 180 < cLine := by have := hr.un; omega
  obtain ⟨a0, m0, _, k0⟩ := xo 0 "NoRule" rfl
  obtain ⟨a1, m1, _, k1⟩ := xo 1 "NoSack" rfl
  obtain ⟨a2, m2, _, k2⟩ := xo 2 "NoRights" rfl
  obtain ⟨a3, m3, _, k3⟩ := xo 3 "NoSpeeds" rfl
  obtain ⟨a4, m4, _, k4⟩ := xo 4 "NoWater" rfl
  obtain ⟨a5, m5, _, k5⟩ := xo 5 "NoMoment" rfl
  obtain ⟨a6, m6, _, k6⟩ := xo 6 "NoBook" rfl
  obtain ⟨a7, m7, _, k7⟩ := xo 7 "NoNumber" rfl
  obtain ⟨a8, m8, _, k8⟩ := xo 8 "NoWeights" rfl
  obtain ⟨a9, m9, _, k9⟩ := xo 9 "NoHouses" rfl
  obtain ⟨a10, m10, _, k10⟩ := xo 10 "NoDeed" rfl
  obtain ⟨a11, m11, _, k11⟩ := xo 11 "NoText" rfl
  obtain ⟨a12, m12, _, k12⟩ := xo 12 "NoWord" rfl
  obtain ⟨a13, m13, _, k13⟩ := xo 13 "TooMuch" rfl
  obtain ⟨a14, m14, _, k14⟩ := xo 14 "TooMany" rfl
  have hf : ∃ vs, p.2.data = .fields vs := let ⟨vs, e, _⟩ := hot.2; ⟨vs, e⟩
  exact ⟨_, (pss_cons (ps_set (i := 1) sc_l_word.nd rfl (by first | exact Or.inl rfl | exact Or.inr rfl) (pe_lst (pa_cons (pe_isP xc hz hf (List.mem_singleton.mpr rfl) (by rfl) T.b_isinstance (pv 0) (by rfl) m0 k0) (pa_cons (pe_isP xc hz hf (List.mem_singleton.mpr rfl) (by rfl) T.b_isinstance (pv 0) (by rfl) m1 k1) (pa_cons (pe_isP xc hz hf (List.mem_singleton.mpr rfl) (by rfl) T.b_isinstance (pv 0) (by rfl) m2 k2) (pa_cons (pe_isP xc hz hf (List.mem_singleton.mpr rfl) (by rfl) T.b_isinstance (pv 0) (by rfl) m3 k3) pa_nil))))))
    (pss_cons (ps_set (i := 1) sc_l_word.nd rfl (by first | exact Or.inl rfl | exact Or.inr rfl) (pe_op op_cat (pv 1) (pe_lst (pa_cons (pe_isP xc hz hf (List.mem_singleton.mpr rfl) (by rfl) T.b_isinstance (pv 0) (by rfl) m4 k4) (pa_cons (pe_isP xc hz hf (List.mem_singleton.mpr rfl) (by rfl) T.b_isinstance (pv 0) (by rfl) m5 k5) (pa_cons (pe_isP xc hz hf (List.mem_singleton.mpr rfl) (by rfl) T.b_isinstance (pv 0) (by rfl) m6 k6) (pa_cons (pe_isP xc hz hf (List.mem_singleton.mpr rfl) (by rfl) T.b_isinstance (pv 0) (by rfl) m7 k7) pa_nil)))))))
    (pss_cons (ps_set (i := 1) sc_l_word.nd rfl (by first | exact Or.inl rfl | exact Or.inr rfl) (pe_op op_cat (pv 1) (pe_lst (pa_cons (pe_isP xc hz hf (List.mem_singleton.mpr rfl) (by rfl) T.b_isinstance (pv 0) (by rfl) m8 k8) (pa_cons (pe_isP xc hz hf (List.mem_singleton.mpr rfl) (by rfl) T.b_isinstance (pv 0) (by rfl) m9 k9) (pa_cons (pe_isP xc hz hf (List.mem_singleton.mpr rfl) (by rfl) T.b_isinstance (pv 0) (by rfl) m10 k10) (pa_cons (pe_isP xc hz hf (List.mem_singleton.mpr rfl) (by rfl) T.b_isinstance (pv 0) (by rfl) m11 k11) pa_nil)))))))
    (pss_cons (ps_set (i := 1) sc_l_word.nd rfl (by first | exact Or.inl rfl | exact Or.inr rfl) (pe_op op_cat (pv 1) (pe_lst (pa_cons (pe_isP xc hz hf (List.mem_singleton.mpr rfl) (by rfl) T.b_isinstance (pv 0) (by rfl) m12 k12) (pa_cons (pe_isP xc hz hf (List.mem_singleton.mpr rfl) (by rfl) T.b_isinstance (pv 0) (by rfl) m13 k13) (pa_cons (pe_isP xc hz hf (List.mem_singleton.mpr rfl) (by rfl) T.b_isinstance (pv 0) (by rfl) m14 k14) pa_nil))))))
    (pss_cons (ps_if (PW.pt (pw_or (pt_not (pt_val (pe_isV xc hz hf (List.mem_singleton.mpr rfl) (by rfl) T.b_isinstance (pv 0) (by rfl) T.b_ValueError xv))) (pw_or1 (pt_cmpR (oz_ne hu) (pe_bm PySem.F.plainAttrs_list PySem.F.slot_list_count PySem.F.type_list_count (mt_countZ hu) (pv 1) (pa_cons pe_bl pa_nil)) pe_int (nomark _))))) (pss_one (ps_ret pe_str)) pss_nil)
    (pss_cons (ps_set (i := 2) sc_l_word.nd rfl (by first | exact Or.inl rfl | exact Or.inr rfl) (pe_lst (pa_cons pe_str (pa_cons pe_str (pa_cons pe_str (pa_cons pe_str (pa_cons pe_str (pa_cons pe_str (pa_cons pe_str (pa_cons pe_str (pa_cons pe_str (pa_cons pe_str (pa_cons pe_str pa_nil)))))))))))))
    (pss_one (ps_ret (pe_op oz_addF pe_str (pe_ix ix_list (pe_op op_cat (pv 2) (pe_lst (pa_cons pe_str (pa_cons pe_str (pa_cons pe_str (pa_cons pe_str pa_nil)))))) (pe_bm PySem.F.plainAttrs_list PySem.F.slot_list_index PySem.F.type_list_index (mt_indexZ hu) (pv 1) (pa_cons pe_bl pa_nil)) (fun _ _ => rfl))))))))))),
    word_reads hi hwi hQ⟩
theorem z_l_wordX (T : Txt K mg) (B : Mods base) : WordX P w K mg base 1 := by
  obtain ⟨B0, TF⟩ := clsT T.err T.ten
  refine wordX_of (k := 0) T.d_l_word sc_l_word fun f cd A out s H E hg hr => ?_
  have hu : (A.deeper (envOfC "_law_word" (defScope st_l_word) s.heap.objs.size f cd)).units + 180 < cLine := by have := hr.un; omega
  exact (pss_cons (ps_set (i := 1) sc_l_word.nd rfl (by first | exact Or.inl rfl | exact Or.inr rfl) (pe_lst (pa_cons (pe_isX (by rfl) T.b_isinstance (pv 0) (by rfl) (TF.at_ 0 "NoRule" rfl (by decide))) (pa_cons (pe_isX (by rfl) T.b_isinstance (pv 0) (by rfl) (TF.at_ 1 "NoSack" rfl (by decide))) (pa_cons (pe_isX (by rfl) T.b_isinstance (pv 0) (by rfl) (TF.at_ 2 "NoRights" rfl (by decide))) (pa_cons (pe_isX (by rfl) T.b_isinstance (pv 0) (by rfl) (TF.at_ 3 "NoSpeeds" rfl (by decide))) pa_nil))))))
    (pss_cons (ps_set (i := 1) sc_l_word.nd rfl (by first | exact Or.inl rfl | exact Or.inr rfl) (pe_op op_cat (pv 1) (pe_lst (pa_cons (pe_isX (by rfl) T.b_isinstance (pv 0) (by rfl) (TF.at_ 4 "NoWater" rfl (by decide))) (pa_cons (pe_isX (by rfl) T.b_isinstance (pv 0) (by rfl) (TF.at_ 5 "NoMoment" rfl (by decide))) (pa_cons (pe_isX (by rfl) T.b_isinstance (pv 0) (by rfl) (TF.at_ 6 "NoBook" rfl (by decide))) (pa_cons (pe_isX (by rfl) T.b_isinstance (pv 0) (by rfl) (TF.at_ 7 "NoNumber" rfl (by decide))) pa_nil)))))))
    (pss_cons (ps_set (i := 1) sc_l_word.nd rfl (by first | exact Or.inl rfl | exact Or.inr rfl) (pe_op op_cat (pv 1) (pe_lst (pa_cons (pe_isX (by rfl) T.b_isinstance (pv 0) (by rfl) (TF.at_ 8 "NoWeights" rfl (by decide))) (pa_cons (pe_isX (by rfl) T.b_isinstance (pv 0) (by rfl) (TF.at_ 9 "NoHouses" rfl (by decide))) (pa_cons (pe_isX (by rfl) T.b_isinstance (pv 0) (by rfl) (TF.at_ 10 "NoDeed" rfl (by decide))) (pa_cons (pe_isX (by rfl) T.b_isinstance (pv 0) (by rfl) (TF.at_ 11 "NoText" rfl (by decide))) pa_nil)))))))
    (pss_cons (ps_set (i := 1) sc_l_word.nd rfl (by first | exact Or.inl rfl | exact Or.inr rfl) (pe_op op_cat (pv 1) (pe_lst (pa_cons (pe_isX (by rfl) T.b_isinstance (pv 0) (by rfl) (TF.at_ 12 "NoWord" rfl (by decide))) (pa_cons (pe_isX (by rfl) T.b_isinstance (pv 0) (by rfl) (TF.at_ 13 "TooMuch" rfl (by decide))) (pa_cons (pe_isX (by rfl) T.b_isinstance (pv 0) (by rfl) (TF.at_ 14 "TooMany" rfl (by decide))) pa_nil))))))
    (pss_cons (ps_if (PW.pt (pw_or (pt_not (pt_val (pe_isXV (by rfl) T.b_isinstance (pv 0) (by rfl) T.b_ValueError))) (pw_or1 (pt_cmpR (oz_ne hu) (pe_bm PySem.F.plainAttrs_list PySem.F.slot_list_count PySem.F.type_list_count (mt_countZ hu) (pv 1) (pa_cons pe_bl pa_nil)) pe_int (nomark _))))) (pss_one (ps_ret pe_str)) pss_nil)
    (pss_cons (ps_set (i := 2) sc_l_word.nd rfl (by first | exact Or.inl rfl | exact Or.inr rfl) (pe_lst (pa_cons pe_str (pa_cons pe_str (pa_cons pe_str (pa_cons pe_str (pa_cons pe_str (pa_cons pe_str (pa_cons pe_str (pa_cons pe_str (pa_cons pe_str (pa_cons pe_str (pa_cons pe_str pa_nil)))))))))))))
    (pss_one (ps_ret (pe_op oz_addF pe_str (pe_ix ix_list (pe_op op_cat (pv 2) (pe_lst (pa_cons pe_str (pa_cons pe_str (pa_cons pe_str (pa_cons pe_str pa_nil)))))) (pe_bm PySem.F.plainAttrs_list PySem.F.slot_list_index PySem.F.type_list_index (mt_indexZ hu) (pv 1) (pa_cons pe_bl pa_nil)) (fun _ _ => rfl)))))))))))
theorem sc_l_said : FnScope N_l_said ps_l_said (defScope st_l_said) := ⟨rfl, rfl, rfl, by decide +kernel, rfl, by decide +kernel, by decide +kernel⟩
theorem sc_grain_in : FnScope N_grain_in ps_grain_in (defScope st_grain_in) := ⟨rfl, rfl, rfl, by decide +kernel, rfl, by decide +kernel, by decide +kernel⟩
theorem z_grain_in (T : Txt K mg) (B : Mods base) : FZ P w K mg base Tt 1 "grain_in" 1 m_grain_in := FZ.mk' T.d_grain_in fun f fd F =>
  fnZ' (b := b_grain_in) F sc_grain_in rfl rfl fun cd A out s H E hg hr => by
    exact ⟨_, (pss_one (ps_ret (pe_callB (cb_sum (by rfl)) (by rfl) T.b_sum bb_sum (pa_cons (pe_lc (own := [("house", 1), ("ounces", 2)]) (by rfl) sc_grain_in.nd (pi_seq (pv 0)) (blkOk_by (N := N_grain_in) (sc := defScope st_grain_in) (by decide +kernel)) (fun _ _ _ _ _ => (pg_tup (by rfl) (pgs_cons (pg_name (i := 1) sc_grain_in.nd (by rfl) (by first | exact Or.inl rfl | exact Or.inr rfl)) (pgs_cons (pg_name (i := 2) sc_grain_in.nd (by rfl) (by first | exact Or.inl rfl | exact Or.inr rfl)) pgs_nil)))) (fun _ _ _ _ _ => pts_nil) (fun _ _ _ _ _ => (pv 2))) pa_nil)))),
    (es_ret (ev_cb (opn_flat fl_sum) (eaw_cons (ev_frzE (el_lcE (vs := [1, 2]) (ei_one ev_var) (eg_tup (eg_cons eg_name (eg_cons eg_name eg_nil sk_name) sk_name)) (by decide) (sk_tup (sk_cons sk_name (sk_cons sk_name sk_nil))) et_yes ev_var)).w eaw_nil)))⟩
theorem sc_is_whole : FnScope N_is_whole ps_is_whole (defScope st_is_whole) := ⟨rfl, rfl, rfl, by decide +kernel, rfl, by decide +kernel, by decide +kernel⟩
theorem z_is_whole (T : Txt K mg) (B : Mods base) : FZ P w K mg base Tt 1 "is_whole" 1 m_is_whole := FZ.mk' T.d_is_whole fun f fd F =>
  fnZ' (b := b_is_whole) F sc_is_whole rfl rfl fun cd A out s H E hg hr => by
    exact ⟨_, (pss_one (ps_ret (pe_and (pe_callB cb_isI (by rfl) T.b_isinstance bb_isinstance (pa_cons (pv 0) (pa_cons (pe_bltn (v := .ty "int") (by rfl) T.b_int boot_int rfl) pa_nil))) (pe_one (pe_not (pe_callB cb_isB (by rfl) T.b_isinstance bb_isinstance (pa_cons (pv 0) (pa_cons (pe_bltn (v := .ty "bool") (by rfl) T.b_bool boot_bool rfl) pa_nil)))))))),
    (es_ret (ev_and (ev_isa ev_var.w).w (ev_not (ev_isa ev_var.w).w)))⟩
theorem sc_is_from_to : FnScope N_is_from_to ps_is_from_to (defScope st_is_from_to) := ⟨rfl, rfl, rfl, by decide +kernel, rfl, by decide +kernel, by decide +kernel⟩
theorem z_is_from_to (T : Txt K mg) (B : Mods base) : FZ P w K mg base Tt 2 "is_from_to" 3 m_is_from_to := FZ.mk' T.d_is_from_to fun f fd F =>
  fnZ' (b := b_is_from_to) F sc_is_from_to rfl rfl fun cd A out s H E hg hr => by
    exact ⟨_, (pss_one (ps_ret (pe_and (zp_call (z_is_whole T B) (by exact hg) (by exact hr) (by decide) (by rfl) ps_cx (pa_cons (pv 0) pa_nil)) (pe_one (pe_chain (oz_le (hu_room (by exact hr))) (oz_le (hu_room (by exact hr))) (pv 1) (pv 0) (pv 2)))))),
    (es_ret (ev_and (ev_call (ea_cons ev_var ea_nil)).w (ev_chain (op2_flat fl_le) (op2_flat fl_le) ev_var.w ev_var.w ev_var.w)))⟩
theorem sc_are_houses : FnScope N_are_houses ps_are_houses (defScope st_are_houses) := ⟨rfl, rfl, rfl, by decide +kernel, rfl, by decide +kernel, by decide +kernel⟩
theorem z_are_houses (T : Txt K mg) (B : Mods base) : FZ P w K mg base Tt 3 "are_houses" 1 m_are_houses := FZ.mk' T.d_are_houses fun f fd F =>
  fnZ' (b := b_are_houses) F sc_are_houses rfl rfl fun cd A out s H E hg hr => by
    exact ⟨_, (pss_cons (ps_if (PW.pt (pw_or (pt_not (pt_val (pe_callB cb_isT (by rfl) T.b_isinstance bb_isinstance (pa_cons (pv 0) (pa_cons (pe_bltn (v := .ty "tuple") (by rfl) T.b_tuple boot_tuple rfl) pa_nil))))) (pw_or1 (pt_not (pt_val (pe_callB (cb_all (by rfl)) (by rfl) T.b_all bb_all (pa_cons (pe_lc (own := [("house", 1)]) (by rfl) sc_are_houses.nd (pi_seq (pv 0)) (blkOk_by (N := N_are_houses) (sc := defScope st_are_houses) (by decide +kernel)) (fun _ _ _ _ _ => (pg_name (i := 1) sc_are_houses.nd (by rfl) (by first | exact Or.inl rfl | exact Or.inr rfl))) (fun _ _ _ _ _ => pts_nil) (fun _ _ _ _ _ => (zp_call (z_is_from_to T B) (by exact hg) (by exact hr) (by decide) (by rfl) ps_no (pa_cons (pv 1) (pa_cons pe_int (pa_cons pe_int pa_nil)))))) pa_nil))))))) (pss_one (ps_ret pe_bl)) pss_nil)
      (pss_one (ps_ret (pe_callB (cb_all (by rfl)) (by rfl) T.b_all bb_all (pa_cons (pe_lc (own := [("house", 1), ("other", 2)]) (by rfl) sc_are_houses.nd (pi_zipK (by rfl) T.b_zip (pa_cons (pv 0) (pa_cons (pe_slice sl_z (pv 0) (po_some pe_int) po_none) pa_nil))) (blkOk_by (N := N_are_houses) (sc := defScope st_are_houses) (by decide +kernel)) (fun _ _ _ _ _ => (pg_tup (by rfl) (pgs_cons (pg_name (i := 1) sc_are_houses.nd (by rfl) (by first | exact Or.inl rfl | exact Or.inr rfl)) (pgs_cons (pg_name (i := 2) sc_are_houses.nd (by rfl) (by first | exact Or.inl rfl | exact Or.inr rfl)) pgs_nil)))) (fun _ _ _ _ _ => pts_nil) (fun _ _ _ _ _ => (pe_cmpR (oz_lt (hu_room (by exact hr))) (pv 1) (pv 2) (nomark _)))) pa_nil))))),
    (es_seq (es_if (et_or (et_not (et_B (ev_isa ev_var.w).w)) (et_not (et_B (ev_cb (opn_flat fl_all) (eaw_cons (ev_frzE (el_lcE (vs := [1]) (ei_one ev_var) eg_name (by decide) sk_name et_yes (ev_call (ea_cons ev_var (ea_cons ev_int (ea_cons ev_int ea_nil)))))).w eaw_nil)).w))) (es_ret ev_bl) es_next)
      (es_ret (ev_cb (opn_flat fl_all) (eaw_cons (ev_frzE (el_lcE (vs := [1, 2]) (ei_zip (ea_cons ev_var (ea_cons (ev_sl ev_var.w (eo_some ev_int) eo_none) ea_nil))) (eg_tup (eg_cons eg_name (eg_cons eg_name eg_nil sk_name) sk_name)) (by decide) (sk_tup (sk_cons sk_name (sk_cons sk_name sk_nil))) et_yes (ev_op (op2_flat fl_lt) ev_var.w ev_var.w))).w eaw_nil))))⟩
theorem sc_is_sack : FnScope N_is_sack ps_is_sack (defScope st_is_sack) := ⟨rfl, rfl, rfl, by decide +kernel, rfl, by decide +kernel, by decide +kernel⟩
theorem z_is_sack (T : Txt K mg) (B : Mods base) : FZ P w K mg base Tt 4 "is_sack" 1 m_is_sack := FZ.mk' T.d_is_sack fun f fd F =>
  fnZ' (b := b_is_sack) F sc_is_sack rfl rfl fun cd A out s H E hg hr => by
    exact ⟨_, (pss_cons (ps_if (PW.pt (pw_or (pt_not (pt_val (pe_callB cb_isT (by rfl) T.b_isinstance bb_isinstance (pa_cons (pv 0) (pa_cons (pe_bltn (v := .ty "tuple") (by rfl) T.b_tuple boot_tuple rfl) pa_nil))))) (pw_or1 (pt_not (pt_chain (oz_le (hu_room (by exact hr))) (oz_le (hu_room (by exact hr))) pe_int (pe_callB cb_len (by rfl) T.b_len PySem.boot_len (pa_cons (pv 0) pa_nil)) (zp_const (by rfl) T.c_MOST_HOUSES)))))) (pss_one (ps_ret pe_bl)) pss_nil)
      (pss_cons (ps_for po_cx rfl (pi_seq (pv 0)) (pg_name (i := 1) sc_is_sack.nd (by rfl) (by first | exact Or.inl rfl | exact Or.inr rfl)) (pss_one (ps_if (PW.pt (pw_or (pt_not (pt_val (pe_callB cb_isT (by rfl) T.b_isinstance bb_isinstance (pa_cons (pv 1) (pa_cons (pe_bltn (v := .ty "tuple") (by rfl) T.b_tuple boot_tuple rfl) pa_nil))))) (pw_or (pt_cmpR (oz_ne (hu_room (by exact hr))) (pe_callB cb_len (by rfl) T.b_len PySem.boot_len (pa_cons (pv 1) pa_nil)) pe_int (nomark _)) (pw_or1 (pt_not (pt_val (zp_call (z_is_from_to T B) (by exact hg) (by exact hr) (by decide) (by rfl) ps_cx (pa_cons (pe_ix ix_seq (pv 1) pe_int (fun _ _ => rfl)) (pa_cons pe_int (pa_cons (zp_const (by rfl) T.c_MOST_OUNCES) pa_nil)))))))))) (pss_one (ps_ret pe_bl)) pss_nil)))
      (pss_one (ps_ret (zp_call (z_are_houses T B) (by exact hg) (by exact hr) (by decide) (by rfl) ps_cx (pa_cons (pe_tupleOfS (by rfl) T.b_tuple (pe_lc (own := [("one", 1)]) (by rfl) sc_is_sack.nd (pi_seq (pv 0)) (blkOk_by (N := N_is_sack) (sc := defScope st_is_sack) (by decide +kernel)) (fun _ _ _ _ _ => (pg_name (i := 1) sc_is_sack.nd (by rfl) (by first | exact Or.inl rfl | exact Or.inr rfl))) (fun _ _ _ _ _ => pts_nil) (fun _ _ _ _ _ => (pe_ix ix_seq (pv 1) pe_int (fun _ _ => rfl))))) pa_nil)))))),
    (es_seq (es_if (et_or (et_not (et_B (ev_isa ev_var.w).w)) (et_not (et_test (ev_chain (op2_flat fl_le) (op2_flat fl_le) ev_int.w (ev_CG fLen_at (eaw_cons ev_var.w eaw_nil)).w ev_int.w).w))) (es_ret ev_bl) es_next)
      (es_seq (es_for (ks := [1]) (ei_one ev_var) egn (es_if (et_or (et_not (et_B (ev_isa ev_var.w).w)) (et_or (et_test (ev_op (op2_flat fl_ne) (ev_CG fLen_at (eaw_cons ev_var.w eaw_nil)).w ev_int.w).w) (et_not (et_B (ev_call (ea_cons (ev_opG fIx_at ev_var.w ev_int.w) (ea_cons ev_int (ea_cons ev_int ea_nil)))).w)))) (es_ret ev_bl) es_next))
      (es_ret (ev_call (ea_cons (ev_tupOf (ev_frzE (el_lcE (vs := [1]) (ei_one ev_var) eg_name (by decide) sk_name et_yes (ev_opG fIx_at ev_var.w ev_int.w))).w) ea_nil)))))⟩
theorem sc_need_sack : FnScope N_need_sack ps_need_sack (defScope st_need_sack) := ⟨rfl, rfl, rfl, by decide +kernel, rfl, by decide +kernel, by decide +kernel⟩
theorem z_need_sack (T : Txt K mg) (B : Mods base) : FZ P w K mg base Tt 5 "need_sack" 1 m_need_sack := FZ.mk' T.d_need_sack fun f fd F =>
  fnZ' (b := b_need_sack) F sc_need_sack rfl rfl fun cd A out s H E hg hr => by
    exact ⟨_, (pss_one (ps_if (pt_not (pt_val (zp_call (z_is_sack T B) (by exact hg) (by exact hr) (by decide) (by rfl) ps_cx (pa_cons (pv 0) pa_nil)))) (pss_one (zs_raise T.x_NoSack (by rfl) tk_cx (by rfl))) pss_nil)),
    (es_if (et_not (et_B (ev_call (ea_cons ev_var ea_nil)).w)) (es_raiseX T.x_NoSack) es_next)⟩
theorem sc_grain_of : FnScope N_grain_of ps_grain_of (defScope st_grain_of) := ⟨rfl, rfl, rfl, by decide +kernel, rfl, by decide +kernel, by decide +kernel⟩
theorem z_grain_of (T : Txt K mg) (B : Mods base) : FZ P w K mg base Tt 6 "grain_of" 1 m_grain_of := FZ.mk' T.d_grain_of fun f fd F =>
  fnZ' (b := b_grain_of) F sc_grain_of rfl rfl fun cd A out s H E hg hr => by
    exact ⟨_, (pss_cons (ps_expr (zp_call (z_need_sack T B) (by exact hg) (by exact hr) (by decide) (by rfl) ps_cx (pa_cons (pv 0) pa_nil)))
      (pss_one (ps_ret (zp_call (z_grain_in T B) (by exact hg) (by exact hr) (by decide) (by rfl) ps_cx (pa_cons (pv 0) pa_nil))))),
    (es_seq (es_drop (ev_call (ea_cons ev_var ea_nil)))
      (es_ret (ev_call (ea_cons ev_var ea_nil))))⟩
theorem sc_l_take : FnScope N_l_take ps_l_take (defScope st_l_take) := ⟨rfl, rfl, rfl, by decide +kernel, rfl, by decide +kernel, by decide +kernel⟩
theorem z_l_take (T : Txt K mg) (B : Mods base) : FZ P w K mg base Tt 1 "_law_take" 2 m_l_take := FZ.mk' T.d_l_take fun f fd F =>
  fnZ' (b := b_l_take) F sc_l_take rfl rfl fun cd A out s H E hg hr => by
    exact ⟨_, (pss_cons (ps_if (pt_cmpR (oz_gt (hu_room (by exact hr))) (pe_ix ix_seq (pv 0) pe_int (fun _ _ => rfl)) pe_int (nomark _)) (pss_cons (ps_asg (pe_callB call_divmodW (by rfl) T.b_divmod bb_divmod (pa_cons (pe_ix ix_seq (pv 0) pe_int (fun _ _ => rfl)) (pa_cons (pv 1) pa_nil))) (pg_tup (by rfl) (pgs_cons (pg_sub (pv 0) pe_int set_list) (pgs_cons (pg_name (i := 3) sc_l_take.nd (by rfl) (by first | exact Or.inl rfl | exact Or.inr rfl)) pgs_nil))))
      (pss_one (ps_ret (pv 3)))) pss_nil)
      (pss_cons (ps_asg (pe_op oz_mod (pe_op oz_add (pe_op oz_mulI (pe_ix ix_seq (pv 0) pe_int (fun _ _ => rfl)) pe_int) pe_int) pe_int) (pg_sub (pv 0) pe_int set_list))
      (pss_cons (ps_set (i := 2) sc_l_take.nd rfl (by first | exact Or.inl rfl | exact Or.inr rfl) (pe_op oz_add (pe_op oz_div (pe_ix ix_seq (pv 0) pe_int (fun _ _ => rfl)) pe_int) pe_int))
      (pss_one (ps_ret (pe_op oz_mod (pe_op oz_div (pe_op oz_mod (pe_op oz_mulI (pe_op oz_mulI (pv 2) (pv 2)) (pv 2)) pe_int) pe_int) (pv 1))))))),
    (es_seq (es_if (et_test (ev_op (op2_flat fl_gt) (ev_opG fIx_at ev_var.w ev_int.w).w ev_int.w).w) (es_seq (es_asg (ev_CG fDivmod_at (eaw_cons (ev_opG fIx_at ev_var.w ev_int.w).w (eaw_cons ev_var.w eaw_nil))) (eg_tupG (egt_cons (eg_sub ev_var ev_int) (egt_cons egn egt_nil))))
      (es_ret ev_var)) es_next)
      (es_seq (es_asg (ev_op (op2_flat fl_mod) (ev_op op2_add (ev_op (op2_flat fl_mulI) (ev_opG fIx_at ev_var.w ev_int.w).w ev_int.w).w ev_int.w).w ev_int.w) (eg_sub ev_var ev_int))
      (es_seq (es_asg (ev_op op2_add (ev_op (op2_flat fl_div) (ev_opG fIx_at ev_var.w ev_int.w).w ev_int.w).w ev_int.w) egn)
      (es_ret (ev_op (op2_flat fl_mod) (ev_op (op2_flat fl_div) (ev_op (op2_flat fl_mod) (ev_op (op2_flat fl_mulI) (ev_op (op2_flat fl_mulI) ev_var.w ev_var.w).w ev_var.w).w ev_int.w).w ev_int.w).w ev_var.w)))))⟩
theorem sc_l_box : FnScope N_l_box ps_l_box (defScope st_l_box) := ⟨rfl, rfl, rfl, by decide +kernel, rfl, by decide +kernel, by decide +kernel⟩
theorem z_l_box (T : Txt K mg) (B : Mods base) : FZ P w K mg base Tt 1 "_law_box" 2 m_l_box := FZ.mk' T.d_l_box fun f fd F =>
  fnZ' (b := b_l_box) F sc_l_box rfl rfl fun cd A out s H E hg hr => by
    exact ⟨_, (pss_cons (ps_set (i := 2) sc_l_box.nd rfl (by first | exact Or.inl rfl | exact Or.inr rfl) (pe_op oz_add (pe_op oz_mulI pe_int (pv 1)) pe_int))
      (pss_cons (ps_if (pt_cmpR (oz_lt (hu_room (by exact hr))) (pv 1) (pe_callB cb_len (by rfl) T.b_len PySem.boot_len (pa_cons (pv 0) pa_nil)) (nomark _)) (pss_one (ps_set (i := 2) sc_l_box.nd rfl (by first | exact Or.inl rfl | exact Or.inr rfl) (pe_ix ix_seq (pv 0) (pv 1) (fun _ _ => rfl)))) pss_nil)
      (pss_cons (ps_if (pt_cmpR (oz_eq (hu_room (by exact hr))) (pe_op oz_mod (pv 2) pe_int) pe_int (nomark _)) (pss_one (ps_ret (pe_lst (pa_cons (pe_op oz_div (pe_callB cb_abs (by rfl) T.b_abs bb_abs (pa_cons (pv 2) pa_nil)) pe_int) (pa_cons (pe_op oz_add (pe_op oz_add (pe_op oz_mod (pv 2) pe_int) (pe_op oz_mulI pe_int (pv 1))) pe_int) pa_nil))))) pss_nil)
      (pss_one (ps_ret (pe_lst (pa_cons pe_int (pa_cons (pe_op oz_add (pe_op oz_add (pe_op oz_mod (pv 2) pe_int) (pe_op oz_mulI pe_int (pv 1))) pe_int) pa_nil)))))))),
    (es_seq (es_asg (ev_op op2_add (ev_op (op2_flat fl_mulI) ev_int.w ev_var.w).w ev_int.w) egn)
      (es_seq (es_if (et_test (ev_op (op2_flat fl_lt) ev_var.w (ev_CG fLen_at (eaw_cons ev_var.w eaw_nil)).w).w) (es_asg (ev_opG fIx_at ev_var.w ev_var.w) egn) es_next)
      (es_seq (es_if (et_test (ev_op (op2_flat fl_eq) (ev_op (op2_flat fl_mod) ev_var.w ev_int.w).w ev_int.w).w) (es_ret (ev_layE (el_lstE (ea_cons (ev_op (op2_flat fl_div) (ev_cb (opn_flat fl_abs) (eaw_cons ev_var.w eaw_nil)).w ev_int.w) (ea_cons (ev_op op2_add (ev_op op2_add (ev_op (op2_flat fl_mod) ev_var.w ev_int.w).w (ev_op (op2_flat fl_mulI) ev_int.w ev_var.w).w).w ev_int.w) ea_nil))))) es_next)
      (es_ret (ev_layE (el_lstE (ea_cons ev_int (ea_cons (ev_op op2_add (ev_op op2_add (ev_op (op2_flat fl_mod) ev_var.w ev_int.w).w (ev_op (op2_flat fl_mulI) ev_int.w ev_var.w).w).w ev_int.w) ea_nil))))))))⟩
theorem sc_law : FnScope N_law ps_law (defScope st_law) := ⟨rfl, rfl, rfl, by decide +kernel, rfl, by decide +kernel, by decide +kernel⟩
theorem z_law {c0 p0 : Addr} (T : Txt K mg) (B : Mods base) (DL : DefL K mg "law" st_law ps_law c0) (TB : LamX.TabB base mg c0 p0) : FZ P w K mg base [(p0, "law.<locals>.<lambda>")] 9 "law" 1 m_law :=
  FZ.mkL (b := b_law) DL sc_law rfl rfl fun f A out s H E hg hr => by
    obtain ⟨B0, TF⟩ := clsT T.err T.ten
    have y0 := T.x_NoRule.cl (j := 0) rfl
    have y1 := T.x_NoSack.cl (j := 1) rfl
    have y2 := T.x_NoRights.cl (j := 2) rfl
    have y3 := T.x_NoSpeeds.cl (j := 3) rfl
    have y4 := T.x_NoWater.cl (j := 4) rfl
    have y5 := T.x_NoMoment.cl (j := 5) rfl
    have y6 := T.x_NoBook.cl (j := 6) rfl
    have y7 := T.x_NoNumber.cl (j := 7) rfl
    have y8 := T.x_NoWeights.cl (j := 8) rfl
    have y9 := T.x_NoHouses.cl (j := 9) rfl
    have y10 := T.x_NoDeed.cl (j := 10) rfl
    have y11 := T.x_NoText.cl (j := 11) rfl
    have y12 := T.x_NoWord.cl (j := 12) rfl
    have y13 := T.x_TooMuch.cl (j := 13) rfl
    have y14 := T.x_TooMany.cl (j := 14) rfl
    have yB := T.x_MillError.clB TF.mB
    exact ⟨_, (pss_cons (ps_set (i := 1) sc_law.nd rfl (by first | exact Or.inl rfl | exact Or.inr rfl) pe_str)
      (pss_cons (ps_set (i := 2) sc_law.nd rfl (by first | exact Or.inl rfl | exact Or.inr rfl) (pe_lst (pa_cons pe_str (pa_cons pe_str (pa_cons pe_str (pa_cons pe_str (pa_cons pe_str (pa_cons pe_str (pa_cons pe_str (pa_cons pe_str (pa_cons pe_str (pa_cons pe_str (pa_cons pe_str pa_nil)))))))))))))
      (pss_cons (ps_set (i := 2) sc_law.nd rfl (by first | exact Or.inl rfl | exact Or.inr rfl) (pe_op oz_add (pv 2) (pe_lst (pa_cons pe_str (pa_cons pe_str (pa_cons pe_str (pa_cons pe_str pa_nil)))))))
      (pss_cons (ps_for po_cx rfl (pi_range1 (by rfl) T.b_range (pa_cons (pe_callB (cb_max2 (by rfl)) (by rfl) T.b_max bb_max (pa_cons pe_int (pa_cons (pe_callB (cb_min2 (by rfl)) (by rfl) T.b_min bb_min (pa_cons (pe_callB cb_len (by rfl) T.b_len PySem.boot_len (pa_cons (pv 0) pa_nil)) (pa_cons pe_int pa_nil))) pa_nil))) pa_nil)) (pg_name (i := 3) sc_law.nd (by rfl) (by first | exact Or.inl rfl | exact Or.inr rfl)) (pss_cons (ps_set (i := 4) sc_law.nd rfl (by first | exact Or.inl rfl | exact Or.inr rfl) (zp_call (z_l_box T B) (by exact hg) (by exact hr) (by decide) (by rfl) ps_cx (pa_cons (pv 0) (pa_cons (pv 3) pa_nil))))
      (pss_cons (ps_set (i := 5) sc_law.nd rfl (by first | exact Or.inl rfl | exact Or.inr rfl) (pe_bm PySem.F.plainAttrs_str PySem.F.slot_str_join PySem.F.type_str_join mt_joinZ pe_str (pa_cons (pe_lc (own := [("_law_sign", 10)]) (by rfl) sc_law.nd (pi_range1 (by rfl) T.b_range (pa_cons (zp_call (z_l_take T B) (by exact hg) (by exact hr) (by decide) (by rfl) ps_cx (pa_cons (pv 4) (pa_cons pe_int pa_nil))) pa_nil)) (blkOk_by (N := N_law) (sc := defScope st_law) (by decide +kernel)) (fun _ _ _ _ _ => (pg_name (i := 10) sc_law.nd (by rfl) (by first | exact Or.inl rfl | exact Or.inr rfl))) (fun _ _ _ _ _ => pts_nil) (fun _ _ _ _ _ => (pe_ix ix_seq (pv 1) (zp_call (z_l_take T B) (by exact hg) (by exact hr) (by decide) (by rfl) ps_no (pa_cons (pv 4) (pa_cons pe_int pa_nil))) (fun _ _ => rfl)))) pa_nil)))
      (pss_cons (ps_set (i := 6) sc_law.nd rfl (by first | exact Or.inl rfl | exact Or.inr rfl) (pe_lst (pa_cons (pe_exc1 (C := clA mg 0) PySem.F.excBase_ValueError y0.2.1 y0.1 y0.2.2 (by rfl) (pv 5)) (pa_cons (pe_exc1 (C := clA mg 1) PySem.F.excBase_ValueError y1.2.1 y1.1 y1.2.2 (by rfl) (pv 5)) (pa_cons (pe_exc1 (C := clA mg 2) PySem.F.excBase_ValueError y2.2.1 y2.1 y2.2.2 (by rfl) (pv 5)) (pa_cons (pe_exc1 (C := clA mg 3) PySem.F.excBase_ValueError y3.2.1 y3.1 y3.2.2 (by rfl) (pv 5)) (pa_cons (pe_exc1 (C := clA mg 4) PySem.F.excBase_ValueError y4.2.1 y4.1 y4.2.2 (by rfl) (pv 5)) (pa_cons (pe_exc1 (C := clA mg 5) PySem.F.excBase_ValueError y5.2.1 y5.1 y5.2.2 (by rfl) (pv 5)) pa_nil))))))))
      (pss_cons (ps_set (i := 6) sc_law.nd rfl (by first | exact Or.inl rfl | exact Or.inr rfl) (pe_op op_cat (pv 6) (pe_lst (pa_cons (pe_exc1 (C := clA mg 6) PySem.F.excBase_ValueError y6.2.1 y6.1 y6.2.2 (by rfl) (pv 5)) (pa_cons (pe_exc1 (C := clA mg 7) PySem.F.excBase_ValueError y7.2.1 y7.1 y7.2.2 (by rfl) (pv 5)) (pa_cons (pe_exc1 (C := clA mg 8) PySem.F.excBase_ValueError y8.2.1 y8.1 y8.2.2 (by rfl) (pv 5)) (pa_cons (pe_exc1 (C := clA mg 9) PySem.F.excBase_ValueError y9.2.1 y9.1 y9.2.2 (by rfl) (pv 5)) (pa_cons (pe_exc1 (C := clA mg 10) PySem.F.excBase_ValueError y10.2.1 y10.1 y10.2.2 (by rfl) (pv 5)) (pa_cons (pe_exc1 (C := clA mg 11) PySem.F.excBase_ValueError y11.2.1 y11.1 y11.2.2 (by rfl) (pv 5)) pa_nil)))))))))
      (pss_cons (ps_set (i := 6) sc_law.nd rfl (by first | exact Or.inl rfl | exact Or.inr rfl) (pe_op op_cat (pv 6) (pe_lst (pa_cons (pe_exc1 (C := clA mg 12) PySem.F.excBase_ValueError y12.2.1 y12.1 y12.2.2 (by rfl) (pv 5)) (pa_cons (pe_exc1 (C := clA mg 13) PySem.F.excBase_ValueError y13.2.1 y13.1 y13.2.2 (by rfl) (pv 5)) (pa_cons (pe_exc1 (C := clA mg 14) PySem.F.excBase_ValueError y14.2.1 y14.1 y14.2.2 (by rfl) (pv 5)) pa_nil))))))
      (pss_cons (ps_for po_cx rfl (pi_zipK (by rfl) T.b_zip (pa_cons (pv 2) (pa_cons (pv 6) pa_nil))) (pg_tup (by rfl) (pgs_cons (pg_name (i := 8) sc_law.nd (by rfl) (by first | exact Or.inl rfl | exact Or.inr rfl)) (pgs_cons (pg_name (i := 9) sc_law.nd (by rfl) (by first | exact Or.inl rfl | exact Or.inr rfl)) pgs_nil))) (pss_one (ps_if (PW.pt (pw_or (pt_cmpR (oz_ne (hu_room (by exact hr))) (pe_word (z_l_wordX T B) (by exact hg) (by exact hr) (by decide) (by rfl) ps_cx (pa_cons (pv 9) pa_nil)) (pe_op oz_addF pe_str (pv 8)) (nomark _)) (pw_or1 (pt_not (pt_val (pe_isX (by rfl) T.b_isinstance (pv 9) (by rfl) TF.mB)))))) (pss_one (ps_ret pe_bl)) pss_nil)))
      (pss_cons (ps_set (i := 7) sc_law.nd rfl (by first | exact Or.inl rfl | exact Or.inr rfl) (pe_exc1 (C := B0) PySem.F.excBase_ValueError yB.1 TF.mB yB.2 (by rfl) (pv 5)))
      (pss_cons (ps_if (PW.pt (pw_or (pt_cmpR (oz_ne (hu_room (by exact hr))) (pe_word (z_l_wordX T B) (by exact hg) (by exact hr) (by decide) (by rfl) ps_cx (pa_cons (pv 7) pa_nil)) pe_str (nomark _)) (pw_or1 (pt_not (pt_val (pe_isXV (by rfl) T.b_isinstance (pv 7) (by rfl) T.b_ValueError)))))) (pss_one (ps_ret pe_bl)) pss_nil)
      (pss_one (ps_if (pt_cmpR (oz_ne (hu_room (by exact hr))) (pe_said (k := 6) T.said (z_l_word T B) T.err (by rfl) T.b_repr (by exact hg) (hr.mono (by decide)) (by decide) B TB rfl (List.mem_singleton.mpr (by rfl)) (fun p hp _ => by rw [List.mem_singleton.mp hp]; rfl) (LamX.lamS_by (sc := defScope st_law) (by decide +kernel)) (by rfl) (fun _ _ _ _ _ => rfl) (fun A out s H E f c hg hr => (zp_call (z_grain_of T B) (by exact hg) (by exact hr) (by decide) (by rfl) ps_lam (pa_cons (pv 5) pa_nil)))) pe_str (nomark _)) (pss_one (ps_ret pe_bl)) pss_nil)))))))))))
      (pss_one (ps_ret pe_bl)))))),
    (es_seq (es_asg ev_str egn)
      (es_seq (es_asg (ev_frzE (el_lstE (ea_cons ev_str (ea_cons ev_str (ea_cons ev_str (ea_cons ev_str (ea_cons ev_str (ea_cons ev_str (ea_cons ev_str (ea_cons ev_str (ea_cons ev_str (ea_cons ev_str (ea_cons ev_str ea_nil))))))))))))) egn)
      (es_seq (es_asg (ev_op op2_add ev_var.w (ev_frzE (el_lstE (ea_cons ev_str (ea_cons ev_str (ea_cons ev_str (ea_cons ev_str ea_nil)))))).w) egn)
      (es_seq (es_for (ks := [3, 4, 5, 6, 7, 8, 9, 10]) (ei_rng1 (ea_cons (ev_cb (opn_flat fl_max2) (eaw_cons ev_int.w (eaw_cons (ev_cb (opn_flat fl_min2) (eaw_cons (ev_CG fLen_at (eaw_cons ev_var.w eaw_nil)).w (eaw_cons ev_int.w eaw_nil))).w eaw_nil))) ea_nil)) egn (es_seq (es_asg (ev_call (ea_cons ev_var (ea_cons ev_var ea_nil))) egn)
      (es_seq (es_asg (ev_join ev_str (ev_frzE (el_lcE (vs := [10]) (ei_rng1 (ea_cons (ev_call (ea_cons ev_var (ea_cons ev_int ea_nil))) ea_nil)) eg_name (by decide) sk_name et_yes (ev_opG fIx_at ev_var.w (ev_call (ea_cons ev_var (ea_cons ev_int ea_nil))).w))).w) egn)
      (es_blk (it := 5) (iw := 2) (im := 6) (ix := 8) (ie := 9) (ip := 7) TF (es_if (et_test (ev_op (op2_flat fl_ne) (ev_said (fun E => (ev_call (ea_cons ev_var ea_nil)))).w ev_str.w).w) (es_ret ev_bl) es_next) (by decide) (by decide) (by decide) (by decide) (by decide)))))
      (es_ret ev_bl)))))⟩
end
end Z

namespace Z
open PySem PySem.Spec PyProof.Rows L2

def hfa0_0 : List He.Fa := [.free "ValueError", .free "abs", .free "all", .free "bool", .free "divmod", .free "int", .free "isinstance", .free "len", .free "max", .free "min", .free "range", .free "repr", .free "sum", .free "tuple", .free "zip", .int "MOST_HOUSES" 4, .int "MOST_OUNCES" 999, .glo "MillError", .exc "MillError", .glo "NoBook", .exc "NoBook", .glo "NoDeed", .exc "NoDeed", .glo "NoHouses", .exc "NoHouses", .glo "NoMoment", .exc "NoMoment", .glo "NoNumber", .exc "NoNumber", .glo "NoRights"]
def hfa0_1 : List He.Fa := [.exc "NoRights", .glo "NoRule", .exc "NoRule", .glo "NoSack", .exc "NoSack", .glo "NoSpeeds", .exc "NoSpeeds", .glo "NoText", .exc "NoText", .glo "NoWater", .exc "NoWater", .glo "NoWeights", .exc "NoWeights", .glo "NoWord", .exc "NoWord", .glo "TooMany", .exc "TooMany", .glo "TooMuch", .exc "TooMuch"]
def hfa0_ : List He.Fa := hfa0_0 ++ (hfa0_1)
def hfn0_0 : List He.DefD := []
def hfn0_ : List He.DefD := hfn0_0
def hp0 : Part := (hfa0_, hfn0_)
def hfa1_0 : List He.Fa := [.glo "_law_word", .glo "_law_said", .glo "grain_in", .glo "is_whole", .glo "is_from_to", .glo "are_houses", .glo "is_sack", .glo "need_sack", .glo "grain_of", .glo "_law_take", .glo "_law_box", .glo "law"]
def hfa1_ : List He.Fa := hfa1_0
def hfn1_0 : List He.DefD := [dT "_law_word" st_l_word, dT "_law_said" st_l_said, dT "grain_in" st_grain_in, dT "is_whole" st_is_whole, dT "is_from_to" st_is_from_to, dT "are_houses" st_are_houses, dT "is_sack" st_is_sack, dT "need_sack" st_need_sack, dT "grain_of" st_grain_of, dT "_law_take" st_l_take, dT "_law_box" st_l_box, dT "law" st_law]
def hfn1_ : List He.DefD := hfn1_0
def hp1 : Part := (hfa1_, hfn1_)
def loose0 : List Str := ["MillError", "NoRule", "NoSack", "NoRights", "NoSpeeds", "NoWater", "NoMoment", "NoBook", "NoNumber", "NoWeights", "NoHouses", "NoDeed", "NoText", "NoWord", "TooMuch", "TooMany", "MOST_HOUSES", "MOST_OUNCES", "is_whole", "is_from_to", "are_houses", "is_sack", "need_sack", "grain_in", "grain_of", "_law_box", "_law_take", "_law_word", "_law_said"]
def loose : List Str := loose0
def htf : List He.Defn := [("law", none)]
def hps : List Part := [hp0, hp1]
abbrev hR : PySem.W.OpenRow := PySem.W.OpenLaw.row PySem.Challenge.rw_grindturns_k10_classes_of_refusals
abbrev hk : PySem.W.Hook := hookS 1000 htf tenX hps
open HandSHeadRun in
theorem hrun0 (w : World) : RunT hR 30000 w (fun s => (looksF hR.prog (PySem.W.boot_heap w.params) s.abs, HandSHeadRun.seenQ (PySem.W.view hR.prog [32]) loose (importedModules hR.prog.main.body) (fun s => PySem.W.xlAt (PySem.W.view hR.prog [32]) [] s && PySem.W.recOk hR.toRowW.records s) s.abs, obsN 1000 htf tenX (getT s))) (true, PySem.W.openGood (PySem.W.view hR.prog [32]) loose, true) := by
  intro os
  kernel_rfl
theorem hrunP0 (w : World) : RunT hR 30000 w (partO 1000 hp0) (He.valD hp0.2) := by
  intro os
  kernel_rfl
theorem hrunP1 (w : World) : RunT hR 30000 w (partO 1000 hp1) (He.valD hp1.2) := by
  intro os
  kernel_rfl
theorem hrun (w : World) : HandSHeadRun.RunEq hR (PySem.W.view hR.prog [32]) hk (obS 1000 htf tenX hps) 30000 loose w := run_split (hrun0 w) fun p hp => by
  simp only [hps, List.mem_cons, List.mem_nil_iff, or_false] at hp
  rcases hp with rfl | rfl
  · exact hrunP0 w
  · exact hrunP1 w
theorem mkTxt {K : PySem.W.Frag} {mg : Str → Option Value} {h : Heap} (kx : K.In h) (g : h.Ns mainGlobals mg) (c0 : He.SaysD hfa0_ hfn0_ K) (c1 : He.SaysD hfa1_ hfn1_ K) (x : tenX K = true) : Txt K mg ∧ DefL K mg "law" st_law ps_law (He.codeOf K ("law", none)) := by
  exact ⟨⟨He.free_ok kx g (c0.fact 0 (by kernel_rfl)),
   He.free_ok kx g (c0.fact 1 (by kernel_rfl)),
   He.free_ok kx g (c0.fact 2 (by kernel_rfl)),
   He.free_ok kx g (c0.fact 3 (by kernel_rfl)),
   He.free_ok kx g (c0.fact 4 (by kernel_rfl)),
   He.free_ok kx g (c0.fact 5 (by kernel_rfl)),
   He.free_ok kx g (c0.fact 6 (by kernel_rfl)),
   He.free_ok kx g (c0.fact 7 (by kernel_rfl)),
   He.free_ok kx g (c0.fact 8 (by kernel_rfl)),
   He.free_ok kx g (c0.fact 9 (by kernel_rfl)),
   He.free_ok kx g (c0.fact 10 (by kernel_rfl)),
   He.free_ok kx g (c0.fact 11 (by kernel_rfl)),
   He.free_ok kx g (c0.fact 12 (by kernel_rfl)),
   He.free_ok kx g (c0.fact 13 (by kernel_rfl)),
   He.free_ok kx g (c0.fact 14 (by kernel_rfl)),
   hInt kx g (c0.fact 15 (by kernel_rfl)),
   hInt kx g (c0.fact 16 (by kernel_rfl)),
   hExc kx g (c0.fact 17 (by kernel_rfl)) (c0.fact 18 (by kernel_rfl)),
   hExc kx g (c0.fact 19 (by kernel_rfl)) (c0.fact 20 (by kernel_rfl)),
   hExc kx g (c0.fact 21 (by kernel_rfl)) (c0.fact 22 (by kernel_rfl)),
   hExc kx g (c0.fact 23 (by kernel_rfl)) (c0.fact 24 (by kernel_rfl)),
   hExc kx g (c0.fact 25 (by kernel_rfl)) (c0.fact 26 (by kernel_rfl)),
   hExc kx g (c0.fact 27 (by kernel_rfl)) (c0.fact 28 (by kernel_rfl)),
   hExc kx g (c0.fact 29 (by kernel_rfl)) (c0.fact 30 (by kernel_rfl)),
   hExc kx g (c0.fact 31 (by kernel_rfl)) (c0.fact 32 (by kernel_rfl)),
   hExc kx g (c0.fact 33 (by kernel_rfl)) (c0.fact 34 (by kernel_rfl)),
   hExc kx g (c0.fact 35 (by kernel_rfl)) (c0.fact 36 (by kernel_rfl)),
   hExc kx g (c0.fact 37 (by kernel_rfl)) (c0.fact 38 (by kernel_rfl)),
   hExc kx g (c0.fact 39 (by kernel_rfl)) (c0.fact 40 (by kernel_rfl)),
   hExc kx g (c0.fact 41 (by kernel_rfl)) (c0.fact 42 (by kernel_rfl)),
   hExc kx g (c0.fact 43 (by kernel_rfl)) (c0.fact 44 (by kernel_rfl)),
   hExc kx g (c0.fact 45 (by kernel_rfl)) (c0.fact 46 (by kernel_rfl)),
   hExc kx g (c0.fact 47 (by kernel_rfl)) (c0.fact 48 (by kernel_rfl)),
   hDef kx g (c1.fact 0 (by kernel_rfl)) (c1.def_ 0 (by kernel_rfl)) (fun _ _ _ _ _ _ us hl => match us, hl with | [_], _ => rfl),
   hDef kx g (c1.fact 1 (by kernel_rfl)) (c1.def_ 1 (by kernel_rfl)) (fun _ _ _ _ _ _ us hl => match us, hl with | [_], _ => rfl),
   hDef kx g (c1.fact 2 (by kernel_rfl)) (c1.def_ 2 (by kernel_rfl)) (fun _ _ _ _ _ _ us hl => match us, hl with | [_], _ => rfl),
   hDef kx g (c1.fact 3 (by kernel_rfl)) (c1.def_ 3 (by kernel_rfl)) (fun _ _ _ _ _ _ us hl => match us, hl with | [_], _ => rfl),
   hDef kx g (c1.fact 4 (by kernel_rfl)) (c1.def_ 4 (by kernel_rfl)) (fun _ _ _ _ _ _ us hl => match us, hl with | [_, _, _], _ => rfl),
   hDef kx g (c1.fact 5 (by kernel_rfl)) (c1.def_ 5 (by kernel_rfl)) (fun _ _ _ _ _ _ us hl => match us, hl with | [_], _ => rfl),
   hDef kx g (c1.fact 6 (by kernel_rfl)) (c1.def_ 6 (by kernel_rfl)) (fun _ _ _ _ _ _ us hl => match us, hl with | [_], _ => rfl),
   hDef kx g (c1.fact 7 (by kernel_rfl)) (c1.def_ 7 (by kernel_rfl)) (fun _ _ _ _ _ _ us hl => match us, hl with | [_], _ => rfl),
   hDef kx g (c1.fact 8 (by kernel_rfl)) (c1.def_ 8 (by kernel_rfl)) (fun _ _ _ _ _ _ us hl => match us, hl with | [_], _ => rfl),
   hDef kx g (c1.fact 9 (by kernel_rfl)) (c1.def_ 9 (by kernel_rfl)) (fun _ _ _ _ _ _ us hl => match us, hl with | [_, _], _ => rfl),
   hDef kx g (c1.fact 10 (by kernel_rfl)) (c1.def_ 10 (by kernel_rfl)) (fun _ _ _ _ _ _ us hl => match us, hl with | [_, _], _ => rfl),
   (hDefL kx g (c1.fact 11 (by kernel_rfl)) (c1.def_ 11 (by kernel_rfl)) (fun _ _ _ _ _ _ us hl => match us, hl with | [_], _ => rfl)).k,
   saidK (hDef kx g (c1.fact 1 (by kernel_rfl)) (c1.def_ 1 (by kernel_rfl)) (fun _ _ _ _ _ _ us hl => match us, hl with | [_], _ => rfl)) sc_l_said (by decide +kernel) (by decide +kernel) (by decide +kernel) (by decide +kernel) (by decide +kernel) ⟨_, _, _, _, _, _, _, _, _, _, _, _, rfl⟩,
   hErr kx g (tenX_err x),
   hTen kx g x⟩, hDefL kx g (c1.fact 11 (by kernel_rfl)) (c1.def_ 11 (by kernel_rfl)) (fun _ _ _ _ _ _ us hl => match us, hl with | [_], _ => rfl)⟩
end Z

open PySem PySem.W PyProof.Rows in
set_option maxRecDepth 100000 in
set_option maxHeartbeats 0 in
theorem PySem.Challenge.cw_grindturns_k10_classes_of_refusals_holds : PySem.Challenge.rw_grindturns_k10_classes_of_refusals.Holds := by
  w_on; o_law
  refine HandSHeadRun.head_any (r := Z.hR) (q := view Z.hR.prog [32]) (H := Z.hk) (ob := Z.obS 1000 Z.htf Z.tenX Z.hps) (M := 30000) (loose := Z.loose) (d := HandSHeadRun.topDef Z.hR.prog 32) (kwd := []) Z.obS_eq
    (by kernel_rfl) (fun s => by kernel_rfl) Z.hrun (by kernel_rfl) (by kernel_rfl) (by kernel_rfl) (by rfl) (by first | assumption | decide +kernel) (by decide +kernel) ⟨rfl, rfl, rfl, rfl, rfl, by decide +kernel⟩ ?hw ?hc
  case hw => w_witness2
  case hc =>
    refine Z.walkZE (l := PySem.Challenge.rw_grindturns_k10_classes_of_refusals) (k := 9) (ml := Z.m_law) (x := "law") (by decide +kernel) rfl (by decide) (by kernel_rfl) ⟨rfl, by decide, by decide⟩ (by kernel_rfl) ?F Z.law_true
    intro w mg h Y G
    obtain ⟨K, KX, c, cp⟩ := Y
    obtain ⟨T, DL⟩ := Z.mkTxt KX G (cp Z.hp0 (.head _)) (cp Z.hp1 (.tail _ (.head _))) c.more
    have lm : (("law", none) : He.Defn) ∈ Z.htf := List.mem_singleton.mpr rfl
    refine ⟨K, KX, [He.cT K ("law", none)], [((He.cT K ("law", none)).2, "law.<locals>.<lambda>")], fun p hp => ?_, fun p hp => ?_, fun p hp => ?_, fun p hp => ?_, fun base kb gb tbb sm => Z.z_law T sm DL (tbb _ (List.mem_singleton.mpr rfl))⟩
    · rw [List.mem_singleton.mp hp]; exact c.empty _ lm
    · rw [List.mem_singleton.mp hp]; exact c.out _ lm
    · rw [List.mem_singleton.mp hp]; exact PySem.W.codeHd_of_K KX (c.hd _ lm)
    · rw [List.mem_singleton.mp hp]; exact List.mem_singleton.mpr rfl


