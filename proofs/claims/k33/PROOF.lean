import PyProof.Rows.All
import Wide.All
import OpenK.AllK
import Wide.FinOn
import HandS.ForMost
import HandS.ForExc
import HandS.Lambda
import HandS.EndTab
import HandS.Zip
import HandS.Conv
import HandS.SetFor
import HandS.More
import HandS.IsInst
import HandS.Walk
import HandS.StrMore
import HandS.StrSplit
import HandS.CallSlots
import HandS.RevRange
import HandS.SetKeys
import HandS.Flow
import HandS.Style
import KE.SortData
import KE.DataMinMax
import KE.DataEq
import KE.DataFind
import KE.DataIsa
import KE.KDictWalk
import KE.GoesNew
import KE.GoesEnum
import HandS.Iter
import HandS.TupAny
import HandS.TupMul
import PyProof.ReprReads
import PyProof.ReprRoads
import HandS.RaiseMore
import HandS.WideBits
import HandS.ExcCtx
import HandS.HotCalls
import HandS.ExcIs
import KE.KNestM
import KE.KLam
import HandS.Deep
import PyProof.CallFns
import PyProof.StrHeap
import HandS.Strs
import HandS.Small
import HandS.Text
import PyProof.StrOps2
import HandS.ReplaceLit
import KE.SortKeyHeap
import KE.KSortKey
import PyProof.Rows.SeqItemCall
import PyProof.AutoSeq1
import HandS.ListItems
import KE.KDictPairs
import PyProof.Rows.SortWalk
import PyProof.StrLawsRepr
import KE.DatumOrd
import PySem.Challenge.RW_grindturns_k33_whole_accounts_add_up
set_option Elab.async false
set_option linter.all false
set_option maxRecDepth 100000
set_option maxHeartbeats 4000000
/-! Z: deep values over HandS. Part 0: values, store, representation, the state, steps. -/
namespace Z
open PySem PySem.Spec PyProof.Rows L2

inductive Val where
  | d (x : PyData)
  | ref (n : Nat)
  | scr (ns : List Int)
inductive Node where
  | lst (xs : List Val)
  | tup (xs : List Val)
  | dic (kvs : List (Key × Val))
  | obj (c : Str) (fs : List (Str × Val))
  | dead
abbrev Store := List Node
inductive Res (α : Type) where
  | ok (a : α) (M : Store)
  | exn (c : Str) (M : Store)
  | stuck
def Res.bind {α β : Type} (r : Res α) (f : α → Store → Res β) : Res β := match r with
  | .ok a M => f a M
  | .exn c M => .exn c M
  | .stuck => .stuck
@[simp] theorem bind_ok {α β : Type} (a : α) (M : Store) (f : α → Store → Res β) : (Res.ok a M).bind f = f a M := rfl
@[simp] theorem bind_exn {α β : Type} (c : Str) (M : Store) (f : α → Store → Res β) : (Res.exn c M : Res α).bind f = .exn c M := rfl
@[simp] theorem bind_stuck {α β : Type} (f : α → Store → Res β) : (Res.stuck : Res α).bind f = .stuck := rfl
/-! ### representation of pure data in the part S of the heap that never changes -/
def keyD : Key → PyData
  | .inl i => .int i
  | .inr x => .str x
/-- a tuple whose object is known, without a dict of its own -/
def StrT (S : Hp) (a : Addr) (xs : List V) : Prop := ∃ ob : Obj, S a = some (.frz ob (.tup xs)) ∧ ob.dict = none
def pairD : PyData → Bool
  | .tuple [_, _] => true
  | _ => false
/-- pairs, one at least -/
def sackish (ds : List PyData) : Bool := !ds.isEmpty && ds.all pairD
def TupX (K : PySem.W.Frag) (S : Hp) (a : Addr) (xs : List V) (ds : List PyData) : Prop := SqT K S a xs ∧ (sackish ds = true → StrT S a xs)
mutual
inductive Rp (K : PySem.W.Frag) (S : Hp) : V → PyData → Prop
  | non : Rp K S .non .none
  | bl (b : Bool) : Rp K S (.bl b) (.bool b)
  | int (i : Int) : Rp K S (.int i) (.int i)
  | str (x : Str) : Rp K S (.str x) (.str x)
  | lst {a : Addr} {xs : List V} {ds : List PyData} : S a = some (.lst xs) → RpAll K S xs ds → Rp K S (.ref a) (.list ds)
  | tup {a : Addr} {xs : List V} {ds : List PyData} : TupX K S a xs ds → RpAll K S xs ds → Rp K S (.ref a) (.tuple ds)
  | dic {a : Addr} {kvs : List (Key × V)} {ds : List (PyData × PyData)} : S a = some (.dK kvs) → RpKv K S kvs ds → Rp K S (.ref a) (.dict ds)
inductive RpAll (K : PySem.W.Frag) (S : Hp) : List V → List PyData → Prop
  | nil : RpAll K S [] []
  | cons {v : V} {vs : List V} {d : PyData} {ds : List PyData} : Rp K S v d → RpAll K S vs ds → RpAll K S (v :: vs) (d :: ds)
inductive RpKv (K : PySem.W.Frag) (S : Hp) : List (Key × V) → List (PyData × PyData) → Prop
  | nil : RpKv K S [] []
  | cons {k : Key} {v : V} {kvs : List (Key × V)} {d : PyData} {ds : List (PyData × PyData)} : Rp K S v d → RpKv K S kvs ds → RpKv K S ((k, v) :: kvs) ((keyD k, d) :: ds)
end
section
variable {K : PySem.W.Frag} {S S' H H' : Hp}
theorem rdMono {a : Addr} {u : HO} (e : Same S S') (h : Rd S a u) : Rd S' a u := by
  rcases h with h | ⟨o, h⟩
  · exact .inl (e _ _ h)
  · exact .inr ⟨o, e _ _ h⟩
theorem sqlMono {a : Addr} {xs : List V} (e : Same S S') (h : SqL K S a xs) : SqL K S' a xs := by
  rcases h with h | h
  · exact .inl (rdMono e h)
  · exact .inr h
theorem sqtMono {a : Addr} {xs : List V} (e : Same S S') (h : SqT K S a xs) : SqT K S' a xs := by
  rcases h with h | h
  · exact .inl (rdMono e h)
  · exact .inr h
theorem StrT.mono {a : Addr} {xs : List V} (e : Same S S') (h : StrT S a xs) : StrT S' a xs := let ⟨ob, h1, h2⟩ := h; ⟨ob, e _ _ h1, h2⟩
theorem TupX.mono {a : Addr} {xs : List V} {ds : List PyData} (e : Same S S') (h : TupX K S a xs ds) : TupX K S' a xs ds := ⟨sqtMono e h.1, fun z => (h.2 z).mono e⟩
theorem TupX.new {H : Hp} {p : Addr} {ob : Obj} {xs : List V} {ds : List PyData} (h : ob.dict = none) : TupX K (upd H p (.frz ob (.tup xs))) p xs ds := ⟨.inl (.inr ⟨ob, upd_same⟩), fun _ => ⟨ob, upd_same, h⟩⟩
/-- one that holds no pairs alone -/
theorem TupX.weak {H : Hp} {p : Addr} {xs : List V} {ds : List PyData} (h : sackish ds = false) : TupX K (upd H p (.tup xs)) p xs ds := ⟨SqT.of upd_same, fun z => by rw [h] at z; cases z⟩
mutual
theorem Rp.mono (e : Same S S') : ∀ (d : PyData) (v : V), Rp K S v d → Rp K S' v d
  | .none, _, h => by cases h; exact .non
  | .bool b, _, h => by cases h; exact .bl b
  | .int i, _, h => by cases h; exact .int i
  | .str x, _, h => by cases h; exact .str x
  | .list ds, _, h => by
    cases h with
    | lst h1 h2 => exact .lst (e _ _ h1) (RpAll.mono e ds _ h2)
  | .tuple ds, _, h => by
    cases h with
    | tup h1 h2 => exact .tup (h1.mono e) (RpAll.mono e ds _ h2)
  | .dict ds, _, h => by
    cases h with
    | dic h1 h2 => exact .dic (e _ _ h1) (RpKv.mono e ds _ h2)
theorem RpAll.mono (e : Same S S') : ∀ (ds : List PyData) (vs : List V), RpAll K S vs ds → RpAll K S' vs ds
  | [], _, h => by cases h; exact .nil
  | d :: ds, _, h => by
    cases h with
    | cons h1 h2 => exact .cons (Rp.mono e d _ h1) (RpAll.mono e ds _ h2)
theorem RpKv.mono (e : Same S S') : ∀ (ds : List (PyData × PyData)) (vs : List (Key × V)), RpKv K S vs ds → RpKv K S' vs ds
  | [], _, h => by cases h; exact .nil
  | (k, d) :: ds, _, h => by
    cases h with
    | cons h1 h2 => exact .cons (Rp.mono e d _ h1) (RpKv.mono e ds _ h2)
end
theorem RpAll.length : ∀ {ds : List PyData} {vs : List V}, RpAll K S vs ds → vs.length = ds.length
  | [], _, h => by cases h; rfl
  | d :: ds, _, h => by
    cases h with
    | cons h1 h2 => simp [RpAll.length h2]
theorem RpAll.get : ∀ {ds : List PyData} {vs : List V} {i : Nat} {d : PyData}, RpAll K S vs ds → ds[i]? = some d → ∃ v, vs[i]? = some v ∧ Rp K S v d
  | [], _, i, d, h, e => by simp at e
  | d :: ds, _, i, d', h, e => by
    cases h with
    | cons h1 h2 =>
      cases i with
      | zero => simp at e; subst e; exact ⟨_, rfl, h1⟩
      | succ i => simpa using RpAll.get h2 (by simpa using e)
theorem RpAll.append : ∀ {ds es : List PyData} {vs us : List V}, RpAll K S vs ds → RpAll K S us es → RpAll K S (vs ++ us) (ds ++ es)
  | [], _, _, _, h, g => by cases h; exact g
  | d :: ds, _, _, _, h, g => by
    cases h with
    | cons h1 h2 => exact .cons h1 (RpAll.append h2 g)
theorem RpAll.take : ∀ {ds : List PyData} {vs : List V} (n : Nat), RpAll K S vs ds → RpAll K S (vs.take n) (ds.take n)
  | _, _, 0, _ => by simp; exact .nil
  | [], _, n + 1, h => by cases h; simp; exact .nil
  | d :: ds, _, n + 1, h => by
    cases h with
    | cons h1 h2 => simp; exact .cons h1 (RpAll.take n h2)
theorem RpAll.drop : ∀ {ds : List PyData} {vs : List V} (n : Nat), RpAll K S vs ds → RpAll K S (vs.drop n) (ds.drop n)
  | _, _, 0, h => by simpa using h
  | [], _, n + 1, h => by cases h; simp; exact .nil
  | d :: ds, _, n + 1, h => by
    cases h with
    | cons h1 h2 => simpa using RpAll.drop n h2
theorem RpAll.set : ∀ {ds : List PyData} {vs : List V} {d : PyData} {v : V} (i : Nat), RpAll K S vs ds → Rp K S v d → RpAll K S (vs.set i v) (ds.set i d)
  | [], _, _, _, i, h, g => by cases h; simp; exact .nil
  | d :: ds, _, _, _, 0, h, g => by
    cases h with
    | cons h1 h2 => exact .cons g h2
  | d :: ds, _, _, _, i + 1, h, g => by
    cases h with
    | cons h1 h2 => exact .cons h1 (RpAll.set i h2 g)
theorem RpAll.eraseIdx : ∀ {ds : List PyData} {vs : List V} (i : Nat), RpAll K S vs ds → RpAll K S (vs.eraseIdx i) (ds.eraseIdx i)
  | [], _, i, h => by cases h; simp; exact .nil
  | d :: ds, _, 0, h => by
    cases h with
    | cons h1 h2 => simpa using h2
  | d :: ds, _, i + 1, h => by
    cases h with
    | cons h1 h2 => exact .cons h1 (RpAll.eraseIdx i h2)

/-! ### down to the library's Reads -/
section
variable {X : Cx} {pins : List (Addr × Obj)} {σ : L2.St} {s : Shared}
/-- what is tracked -/
abbrev Trk (H : Hp) (as : List Addr) : Prop := ∀ a ∈ as, ∃ o, H a = some o
theorem Trk.nil {H : Hp} : Trk H [] := fun _ h => nomatch h
theorem Trk.app {H : Hp} {as bs : List Addr} (h : Trk H as) (g : Trk H bs) : Trk H (as ++ bs) := fun a m => (List.mem_append.mp m).elim (h a) (g a)
theorem Trk.cons {H : Hp} {a : Addr} {as : List Addr} {o : HO} (e : H a = some o) (g : Trk H as) : Trk H (a :: as) := fun b m => (List.mem_cons.mp m).elim (fun z => ⟨o, by rw [z]; exact e⟩) (g b)
theorem keys_reads {h : Heap} {H : Hp} : ∀ (kvs : List (Key × V)) (ds : List (PyData × PyData)) (vs : List (Key × Value)) (es : List DictEntry), RpKv K S kvs ds → KV kvs vs →
    (∀ (i : Nat) (e : DictEntry) (k : Key) (v : Value), es[i]? = some e → vs[i]? = some (k, v) → keyIs k e.key = true ∧ e.val = v) → es.length = vs.length → ∃ as, ReadsAll h (es.map (·.key)) (ds.map (·.1)) as ∧ Trk H as
  | [], _, _, es, r, q, _, hl => by
    cases r; cases q
    have e0 : es = [] := List.length_eq_zero_iff.mp (by simpa using hl)
    subst e0
    exact ⟨_, .nil, Trk.nil⟩
  | (k, v) :: kvs, _, _, es, r, q, hk, hl => by
    cases r with
    | cons r1 r2 =>
      cases q with
      | @cons _ p _ vs' q1 q2 =>
        cases es with
        | nil => simp at hl
        | cons e es =>
          obtain ⟨as, ih, tr⟩ := keys_reads (h := h) (H := H) kvs _ _ es r2 q2 (fun i e' k' v' h1 h2 => hk (i + 1) e' k' v' (by simpa using h1) (by simpa using h2)) (by simpa using hl)
          obtain ⟨pk, pv⟩ := p
          have e0 := (hk 0 e pk pv rfl rfl).1
          obtain ⟨q1a, q1b⟩ := q1
          simp only at q1a
          subst q1a
          have : Reads h e.key (keyD k) [] := by
            rcases keyIs_shape e0 with ⟨i, t, rfl, e1⟩ | ⟨x, t, rfl, e1⟩
            · rw [e1]; exact Reads.int i t
            · rw [e1]; exact Reads.str x t
          exact ⟨_, .cons this ih, tr⟩
mutual
theorem Rp.readsT (I : Inv X pins σ H s) (sm : Same S H) : ∀ (d : PyData) (v : V) (u : Value), Rp X.K S v d → RelV v u → ∃ as, Reads s.heap u d as ∧ Trk H as
  | .none, _, _, h, r => by
    cases h; cases r
    exact ⟨_, Reads.none, Trk.nil⟩
  | .bool b, _, _, h, r => by
    cases h; cases r
    exact ⟨_, Reads.bool b, Trk.nil⟩
  | .int i, _, _, h, r => by
    cases h
    obtain ⟨t, rfl⟩ := r
    exact ⟨_, Reads.int i t, Trk.nil⟩
  | .str x, _, _, h, r => by
    cases h
    obtain ⟨t, rfl⟩ := r
    exact ⟨_, Reads.str x t, Trk.nil⟩
  | .list ds, _, _, h, r => by
    cases h with
    | lst hs ha =>
      cases r
      obtain ⟨its, rv, ⟨o, n, ho, hc, _, hd⟩, _⟩ := I.list (SqL.of (sm _ _ hs))
      obtain ⟨as, hr, tr⟩ := Rp.readsAllT I sm ds _ its ha rv
      exact ⟨_, Reads.list ho hc hd hr, Trk.cons (sm _ _ hs) tr⟩
  | .tuple ds, _, _, h, r => by
    cases h with
    | tup hs ha =>
      cases r
      obtain ⟨its, rv, ⟨o, ho, hc, n, hd⟩, _⟩ := I.tuple (sqtMono sm hs.1)
      obtain ⟨as, hr, tr⟩ := Rp.readsAllT I sm ds _ its ha rv
      exact ⟨_, Reads.tuple ho hc hd hr, tr⟩
  | .dict ds, _, _, h, r => by
    cases h with
    | @dic a kvs _ hs ha =>
      cases r
      obtain ⟨z, hd, vs, rel, dd⟩ := dk_of I.hok (sm _ _ hs)
      obtain ⟨es, ep, ⟨o, ho, hc, hdd⟩, hsz, hi⟩ := PySem.Heap.DictOf.raw dd
      have hl : es.toList.length = vs.length := by simpa using hsz
      obtain ⟨as, h1, tr1⟩ := keys_reads (h := s.heap) (H := H) kvs ds vs es.toList ha rel (fun i e k v h1 h2 => by
        have hlt : i < es.size := by
          have := (List.getElem?_eq_some_iff.mp h1).1
          simpa using this
        have e1 : es[i] = e := by
          have := (List.getElem?_eq_some_iff.mp h1).2
          simpa using this
        have := hi i hlt k v h2
        rw [e1] at this
        exact this) hl
      have hv : es.toList.map (·.val) = vs.map (·.2) := by
        apply List.ext_getElem
        · simpa using hl
        · intro i h1 h2
          have hlt : i < es.size := by simpa using h1
          have hlt2 : i < vs.length := by simpa using h2
          have := (hi i hlt vs[i].1 vs[i].2 (by simp [hlt2])).2
          simpa using this
      obtain ⟨bs, h2, tr2⟩ := Rp.readsKvT I sm ds kvs vs ha rel
      rw [← hv] at h2
      exact ⟨_, Reads.dict ho hc.1 hdd h1 h2, Trk.cons (sm _ _ hs) (tr1.app tr2)⟩
theorem Rp.readsAllT (I : Inv X pins σ H s) (sm : Same S H) : ∀ (ds : List PyData) (vs : List V) (us : List Value), RpAll X.K S vs ds → Vals vs us → ∃ as, ReadsAll s.heap us ds as ∧ Trk H as
  | [], _, _, h, r => by
    cases h; cases r
    exact ⟨_, ReadsAll.nil, Trk.nil⟩
  | d :: ds, _, _, h, r => by
    cases h with
    | cons h1 h2 =>
      cases r with
      | cons r1 r2 =>
        obtain ⟨as, q1, t1⟩ := Rp.readsT I sm d _ _ h1 r1
        obtain ⟨bs, q2, t2⟩ := Rp.readsAllT I sm ds _ _ h2 r2
        exact ⟨_, ReadsAll.cons q1 q2, t1.app t2⟩
theorem Rp.readsKvT (I : Inv X pins σ H s) (sm : Same S H) : ∀ (ds : List (PyData × PyData)) (kvs : List (Key × V)) (vs : List (Key × Value)), RpKv X.K S kvs ds → KV kvs vs → ∃ as, ReadsAll s.heap (vs.map (·.2)) (ds.map (·.2)) as ∧ Trk H as
  | [], _, _, h, r => by
    cases h; cases r
    exact ⟨_, ReadsAll.nil, Trk.nil⟩
  | (_, d) :: ds, _, _, h, r => by
    cases h with
    | cons h1 h2 =>
      cases r with
      | cons r1 r2 =>
        obtain ⟨as, q1, t1⟩ := Rp.readsT I sm d _ _ h1 r1.2
        obtain ⟨bs, q2, t2⟩ := Rp.readsKvT I sm ds _ _ h2 r2
        exact ⟨_, ReadsAll.cons q1 q2, t1.app t2⟩
end
theorem Rp.reads (I : Inv X pins σ H s) (sm : Same S H) (d : PyData) (v : V) (u : Value) (h : Rp X.K S v d) (r : RelV v u) : ∃ as, Reads s.heap u d as :=
  let ⟨as, q, _⟩ := Rp.readsT I sm d v u h r; ⟨as, q⟩
theorem Rp.readsAll (I : Inv X pins σ H s) (sm : Same S H) (ds : List PyData) (vs : List V) (us : List Value) (h : RpAll X.K S vs ds) (r : Vals vs us) : ∃ as, ReadsAll s.heap us ds as :=
  let ⟨as, q, _⟩ := Rp.readsAllT I sm ds vs us h r; ⟨as, q⟩
end
end

/-! ### the ghost state -/
structure G where
  phi : List Addr
  S : Hp
structure Ctx where
  K : PySem.W.Frag
  mg : Str → Option Value
  T : List (Addr × Str)
def Rep (C : Ctx) (g : G) (v : V) : Val → Prop
  | .d x => Rp C.K g.S v x
  | .ref n => ∃ a, g.phi[n]? = some a ∧ v = .ref a
  | .scr ns => ∃ a, v = .ref a ∧ SqL C.K g.S a (ns.map V.int)
abbrev Reps (C : Ctx) (g : G) : List V → List Val → Prop := Paired (Rep C g)
abbrev PReps (C : Ctx) (g : G) {κ : Type} : List (κ × V) → List (κ × Val) → Prop := Paired fun p q => p.1 = q.1 ∧ Rep C g p.2 q.2
def NodeOk (C : Ctx) (g : G) (H : Hp) (a : Addr) : Node → Prop
  | .lst xs => ∃ vs, H a = some (.lst vs) ∧ Reps C g vs xs
  | .tup xs => ∃ vs, Rd H a (.tup vs) ∧ Reps C g vs xs
  | .dic kvs => ∃ kv, H a = some (.dK kv) ∧ PReps C g kv kvs
  | .obj c fs => ∃ A dx vf, H a = some (.ins A dx vf) ∧ C.mg c = some (.ref A) ∧ PReps C g vf fs
  | .dead => False
structure Ok (C : Ctx) (g : G) (M : Store) (H : Hp) : Prop where
  ex : Same g.S H
  len : g.phi.length = M.length
  nd : g.phi.Nodup
  sep : ∀ a ∈ g.phi, g.S a = none
  node : ∀ (n : Nat) (a : Addr) (nd : Node), g.phi[n]? = some a → M[n]? = some nd → NodeOk C g H a nd
  tabs : LamX.Tabs C.T H
  nt : ∀ b ps, g.S b ≠ some (.tbl ps)
structure Step (g : G) (H : Hp) (g' : G) (H' : Hp) : Prop where
  pre : ∃ r, g'.phi = g.phi ++ r
  ex : Same g.S g'.S
  fr : ∀ b o, b ∉ g.phi → (∀ ps, o ≠ .tbl ps) → H b = some o → H' b = some o
  fresh : ∀ b, H' b = none → H b = none
  nphi : ∀ b ∈ g'.phi, b ∈ g.phi ∨ H b = none
  nS : ∀ b o, g'.S b = some o → g.S b = some o ∨ H b = none
section
variable {C : Ctx} {g g' g'' : G} {M M' : Store} {H H' H'' H0 : Hp}
theorem Step.refl (g : G) (H : Hp) : Step g H g H := ⟨⟨[], by simp⟩, Same.refl _, fun _ _ _ _ h => h, fun _ h => h, fun _ h => .inl h, fun _ _ h => .inl h⟩
theorem Step.trans (a : Step g H g' H') (b : Step g' H' g'' H'') : Step g H g'' H'' where
  pre := by
    obtain ⟨r, e⟩ := a.pre; obtain ⟨q, f⟩ := b.pre
    exact ⟨r ++ q, by rw [f, e, List.append_assoc]⟩
  ex := a.ex.trans b.ex
  fr := fun c o h1 h2 h3 => b.fr c o (fun z => (a.nphi c z).elim h1 fun n => by rw [h3] at n; cases n) h2 (a.fr c o h1 h2 h3)
  fresh := fun c h => a.fresh c (b.fresh c h)
  nphi := fun c h => (b.nphi c h).elim (fun z => a.nphi c z) fun z => .inr (a.fresh c z)
  nS := fun c o h => (b.nS c o h).elim (fun z => a.nS c o z) fun z => .inr (a.fresh c z)
theorem Step.get (s : Step g H g' H') {n : Nat} {a : Addr} (h : g.phi[n]? = some a) : g'.phi[n]? = some a := by
  obtain ⟨r, e⟩ := s.pre
  rw [e, List.getElem?_append_left (List.getElem?_eq_some_iff.mp h).1]
  exact h
theorem Rep.step (s : Step g H g' H') {v : V} : ∀ {x : Val}, Rep C g v x → Rep C g' v x
  | .d x, h => Rp.mono s.ex x v h
  | .ref n, ⟨a, h1, h2⟩ => ⟨a, s.get h1, h2⟩
  | .scr ns, ⟨a, h1, h2⟩ => ⟨a, h1, sqlMono s.ex h2⟩
theorem Reps.step (s : Step g H g' H') {vs : List V} {xs : List Val} (h : Reps C g vs xs) : Reps C g' vs xs := Paired.mapP h fun _ _ r => r.step s
theorem PReps.step (s : Step g H g' H') {κ : Type} {vs : List (κ × V)} {xs : List (κ × Val)} (h : PReps C g vs xs) : PReps C g' vs xs := Paired.mapP h fun _ _ r => ⟨r.1, r.2.step s⟩

/-! ### slots -/
inductive Slot where
  | sh (v : Val)
  | ol (xs : List PyData)
  | od (kvs : List (Key × PyData))
abbrev Rho := List (Option Slot)
def isOwn : Option (Option Slot) → Prop
  | some (some (.ol _)) => True
  | some (some (.od _)) => True
  | _ => False
abbrev KvD (C : Ctx) (S : Hp) : List (Key × V) → List (Key × PyData) → Prop := Paired fun p q => p.1 = q.1 ∧ Rp C.K S p.2 q.2
structure RSt (C : Ctx) (H0 : Hp) (g : G) (H : Hp) (σ : L2.St) (ρ : Rho) : Prop where
  len : ρ.length = σ.length
  sh : ∀ (i : Nat) (x : Val), ρ[i]? = some (some (.sh x)) → ∃ v, σ[i]? = some (some v) ∧ Rep C g v x
  ol : ∀ (i : Nat) (xs : List PyData), ρ[i]? = some (some (.ol xs)) → ∃ a vs, σ[i]? = some (some (.ref a)) ∧ H a = some (.lst vs) ∧ RpAll C.K g.S vs xs ∧ g.S a = none ∧ a ∉ g.phi ∧ H0 a = none
  od : ∀ (i : Nat) (kvs : List (Key × PyData)), ρ[i]? = some (some (.od kvs)) → ∃ a vs, σ[i]? = some (some (.ref a)) ∧ H a = some (.dK vs) ∧ KvD C g.S vs kvs ∧ g.S a = none ∧ a ∉ g.phi ∧ H0 a = none
  ne : ∀ (i j : Nat) (a : Addr), i ≠ j → isOwn ρ[i]? → isOwn ρ[j]? → σ[i]? = some (some (.ref a)) → σ[j]? = some (some (.ref a)) → False
theorem own_keep (s : Step g H g' H') {a : Addr} {o : HO} (h1 : H a = some o) (nt : ∀ ps, o ≠ .tbl ps) (h2 : g.S a = none) (h3 : a ∉ g.phi) : H' a = some o ∧ g'.S a = none ∧ a ∉ g'.phi := by
  refine ⟨s.fr a o h3 nt h1, ?_, fun z => ?_⟩
  · cases e : g'.S a with
    | none => rfl
    | some u =>
      rcases s.nS a u e with z | z
      · rw [h2] at z; cases z
      · rw [h1] at z; cases z
  · rcases s.nphi a z with z | z
    · exact h3 z
    · rw [h1] at z; cases z
theorem KvD.mono {C : Ctx} {S S' : Hp} {vs : List (Key × V)} {kvs : List (Key × PyData)} (e : Same S S') (h : KvD C S vs kvs) : KvD C S' vs kvs := Paired.mapP h fun _ _ r => ⟨r.1, Rp.mono e _ _ r.2⟩
theorem RSt.step {σ : L2.St} {ρ : Rho} (r : RSt C H0 g H σ ρ) (s : Step g H g' H') : RSt C H0 g' H' σ ρ where
  len := r.len
  sh := fun i x h => by
    obtain ⟨v, h1, h2⟩ := r.sh i x h
    exact ⟨v, h1, h2.step s⟩
  ol := fun i xs h => by
    obtain ⟨a, vs, h1, h2, h3, h4, h5, h6⟩ := r.ol i xs h
    obtain ⟨k1, k2, k3⟩ := own_keep s h2 (fun _ z => by cases z) h4 h5
    exact ⟨a, vs, h1, k1, RpAll.mono s.ex _ _ h3, k2, k3, h6⟩
  od := fun i xs h => by
    obtain ⟨a, vs, h1, h2, h3, h4, h5, h6⟩ := r.od i xs h
    obtain ⟨k1, k2, k3⟩ := own_keep s h2 (fun _ z => by cases z) h4 h5
    exact ⟨a, vs, h1, k1, KvD.mono s.ex h3, k2, k3, h6⟩
  ne := r.ne

/-! ### changes of the heap -/
theorem tabs_upd {T : List (Addr × Str)} {a : Addr} {o : HO} (t : LamX.Tabs T H) (h : H a = none ∨ (∃ xs, H a = some (.lst xs)) ∨ (∃ xs, H a = some (.dK xs)) ∨ (∃ C dx fs, H a = some (.ins C dx fs)) ∨ (∃ b, H a = some (.own b))) : LamX.Tabs T (upd H a o) := by
  have hne : ∀ b u, H b = some u → ((∃ ps, u = .tbl ps) ∨ ∃ φ, u = .ext φ) → b ≠ a := fun b u hb hu z => by
    subst z
    rw [hb] at h
    rcases hu with ⟨ps, rfl⟩ | ⟨φ, rfl⟩ <;> rcases h with h | ⟨_, h⟩ | ⟨_, h⟩ | ⟨_, _, _, h⟩ | ⟨_, h⟩ <;> cases h
  intro p hp
  obtain ⟨ps, h1, h2, h3⟩ := t p hp
  refine ⟨ps, by rw [upd_ne (hne _ _ h1 (.inl ⟨_, rfl⟩))]; exact h1, h2, fun pos cv hc => ?_⟩
  obtain ⟨c, e1, e2⟩ := h3 pos cv hc
  exact ⟨c, e1, by rw [upd_ne (hne _ _ e2 (.inr ⟨_, rfl⟩))]; exact e2⟩
theorem same_new {S : Hp} {p : Addr} {o : HO} (h : S p = none) : Same S (upd S p o) := fun b u e => by
  rw [upd_ne (ne_of_none e h)]; exact e
theorem Ok.free (k : Ok C g M H) {p : Addr} (h : H p = none) : g.S p = none ∧ p ∉ g.phi := by
  refine ⟨?_, fun z => ?_⟩
  · cases e : g.S p with
    | none => rfl
    | some o => have := k.ex _ _ e; rw [h] at this; cases this
  · obtain ⟨n, hn⟩ := List.getElem?_of_mem z
    have hl : n < M.length := by rw [← k.len]; exact (List.getElem?_eq_some_iff.mp hn).1
    have := k.node n p M[n] hn (by simp [hl])
    cases hm : M[n] with
    | lst xs => rw [hm] at this; obtain ⟨_, e, _⟩ := this; rw [h] at e; cases e
    | tup xs => rw [hm] at this; obtain ⟨_, e | ⟨_, e⟩, _⟩ := this <;> (rw [h] at e; cases e)
    | dic xs => rw [hm] at this; obtain ⟨_, e, _⟩ := this; rw [h] at e; cases e
    | obj c xs => rw [hm] at this; obtain ⟨_, _, _, e, _⟩ := this; rw [h] at e; cases e
    | dead => rw [hm] at this; exact this.elim
theorem NodeOk.keep {a : Addr} {nd : Node} (e : H' a = H a) (hr : ∀ v x, Rep C g v x → Rep C g' v x) (h : NodeOk C g H a nd) : NodeOk C g' H' a nd := by
  cases nd with
  | lst xs => obtain ⟨vs, h1, h2⟩ := h; exact ⟨vs, by rw [e]; exact h1, Paired.mapP h2 hr⟩
  | tup xs => obtain ⟨vs, h1, h2⟩ := h; exact ⟨vs, by unfold Rd at h1 ⊢; rw [e]; exact h1, Paired.mapP h2 hr⟩
  | dic xs => obtain ⟨vs, h1, h2⟩ := h; exact ⟨vs, by rw [e]; exact h1, Paired.mapP h2 fun _ _ r => ⟨r.1, hr _ _ r.2⟩⟩
  | obj c xs => obtain ⟨A, dx, vf, h1, h2, h3⟩ := h; exact ⟨A, dx, vf, by rw [e]; exact h1, h2, Paired.mapP h3 fun _ _ r => ⟨r.1, hr _ _ r.2⟩⟩
  | dead => exact h
/-- a new object that never changes -/
theorem Ok.newS (k : Ok C g M H) {p : Addr} {o : HO} (h : H p = none) (no : ∀ ps, o ≠ .tbl ps := by intro ps z; cases z) : Ok C ⟨g.phi, upd g.S p o⟩ M (upd H p o) ∧ Step g H ⟨g.phi, upd g.S p o⟩ (upd H p o) := by
  obtain ⟨hS, hp⟩ := k.free h
  have st : Step g H ⟨g.phi, upd g.S p o⟩ (upd H p o) := ⟨⟨[], by simp⟩, same_new hS, fun b u h1 h2 h3 => by rw [upd_ne (ne_of_none h3 h)]; exact h3, fun b hb => by
      by_cases e : b = p
      · subst e; exact h
      · rwa [upd_ne e] at hb, fun b hb => .inl hb, fun b u hb => by
      by_cases e : b = p
      · subst e; exact .inr h
      · have hb : upd g.S p o b = some u := hb
        rw [upd_ne e] at hb; exact .inl hb⟩
  refine ⟨⟨fun b u hb => ?_, k.len, k.nd, fun a ha => ?_, fun n a nd h1 h2 => ?_, tabs_upd k.tabs (.inl h), fun b ps e => ?_⟩, st⟩
  · have hb : upd g.S p o b = some u := hb
    by_cases e : b = p
    · subst e; rw [upd_same] at hb ⊢; exact hb
    · rw [upd_ne e] at hb ⊢; exact k.ex _ _ hb
  · have : a ≠ p := fun z => hp (by rw [← z]; exact ha)
    show upd g.S p o a = none
    rw [upd_ne this]; exact k.sep a ha
  · have ha : a ≠ p := fun z => hp (by rw [← z]; exact List.mem_of_getElem? h1)
    exact (k.node n a nd h1 h2).keep (upd_ne ha) fun v x r => r.step st
  · have e : upd g.S p o b = some (.tbl ps) := e
    by_cases z : b = p
    · subst z; rw [upd_same] at e; exact no ps (Option.some.inj e)
    · rw [upd_ne z] at e; exact k.nt b ps e
/-- a new place of the store -/
theorem Ok.newM (k : Ok C g M H) {p : Addr} {o : HO} {nd : Node} (h : H p = none) (hn : ∀ g', (∀ v x, Rep C g v x → Rep C g' v x) → g'.phi = g.phi ++ [p] → NodeOk C g' (upd H p o) p nd) :
    Ok C ⟨g.phi ++ [p], g.S⟩ (M ++ [nd]) (upd H p o) ∧ Step g H ⟨g.phi ++ [p], g.S⟩ (upd H p o) := by
  obtain ⟨hS, hp⟩ := k.free h
  have st : Step g H ⟨g.phi ++ [p], g.S⟩ (upd H p o) := ⟨⟨[p], rfl⟩, Same.refl _, fun b u h1 h2 h3 => by rw [upd_ne (ne_of_none h3 h)]; exact h3, fun b hb => by
      by_cases e : b = p
      · subst e; exact h
      · rwa [upd_ne e] at hb, fun b hb => by
      rcases List.mem_append.mp hb with hb | hb
      · exact .inl hb
      · rw [List.mem_singleton.mp hb]; exact .inr h, fun b u hb => .inl hb⟩
  refine ⟨⟨fun b u hb => ?_, by simp [k.len], ?_, fun a ha => ?_, fun n a nd' h1 h2 => ?_, tabs_upd k.tabs (.inl h), k.nt⟩, st⟩
  · rw [upd_ne (ne_of_none hb hS)]; exact k.ex _ _ hb
  · rw [List.nodup_append]
    exact ⟨k.nd, by simp, fun a ha b hb => by rw [List.mem_singleton.mp hb]; exact fun z => hp (z ▸ ha)⟩
  · rcases List.mem_append.mp ha with ha | ha
    · exact k.sep a ha
    · rw [List.mem_singleton.mp ha]; exact hS
  · by_cases hlt : n < M.length
    · have h1' : g.phi[n]? = some a := by
        have h1 : (g.phi ++ [p])[n]? = some a := h1
        rwa [List.getElem?_append_left (by rw [k.len]; exact hlt)] at h1
      have h2' : M[n]? = some nd' := by rwa [List.getElem?_append_left hlt] at h2
      have ha : a ≠ p := fun z => hp (by rw [← z]; exact List.mem_of_getElem? h1')
      exact (k.node n a nd' h1' h2').keep (upd_ne ha) fun v x r => r.step st
    · rw [List.getElem?_append_right (by omega)] at h2
      have hn0 : n - M.length = 0 := by
        have := (List.getElem?_eq_some_iff.mp h2).1
        simp at this; omega
      rw [hn0] at h2
      simp at h2
      subst h2
      have h1 : (g.phi ++ [p])[n]? = some a := h1
      rw [List.getElem?_append_right (by rw [k.len]; omega)] at h1
      rw [k.len, hn0] at h1
      simp at h1
      subst h1
      exact hn _ (fun v x r => r.step st) rfl
/-- what may stand at a place that is written -/
def Wr (H : Hp) (a : Addr) : Prop := (∃ xs, H a = some (.lst xs)) ∨ (∃ xs, H a = some (.dK xs)) ∨ ∃ C dx fs, H a = some (.ins C dx fs)
theorem Wr.some {a : Addr} (h : Wr H a) : H a ≠ none := by
  rcases h with ⟨_, h⟩ | ⟨_, h⟩ | ⟨_, _, _, h⟩ <;> rw [h] <;> exact fun z => by cases z
theorem Wr.tabs {T : List (Addr × Str)} {a : Addr} {o : HO} (t : LamX.Tabs T H) (h : Wr H a) : LamX.Tabs T (upd H a o) :=
  tabs_upd t (by
    rcases h with h | h | h
    · exact .inr (.inl h)
    · exact .inr (.inr (.inl h))
    · exact .inr (.inr (.inr (.inl h))))
/-- a place of the store is written -/
theorem Ok.setM (k : Ok C g M H) {a : Addr} {n : Nat} {o : HO} {nd : Node} (h : g.phi[n]? = some a) (w : Wr H a) (hn : NodeOk C g (upd H a o) a nd) :
    Ok C g (M.set n nd) (upd H a o) ∧ Step g H g (upd H a o) := by
  have ha := List.mem_of_getElem? h
  have hS := k.sep a ha
  refine ⟨⟨fun b u hb => ?_, by simp [k.len], k.nd, k.sep, fun m b nd' h1 h2 => ?_, w.tabs k.tabs, k.nt⟩, ⟨⟨[], by simp⟩, Same.refl _, fun b u h1 h2 h3 => by rw [upd_ne (fun z => h1 (by rw [z]; exact ha))]; exact h3, fun b hb => ?_, fun b hb => .inl hb, fun b u hb => .inl hb⟩⟩
  · rw [upd_ne (ne_of_none hb hS)]; exact k.ex _ _ hb
  · by_cases e : m = n
    · subst e
      have : b = a := Option.some.inj (h1.symm.trans h)
      subst this
      have hl : m < M.length := by rw [← k.len]; exact (List.getElem?_eq_some_iff.mp h).1
      rw [List.getElem?_set_self hl] at h2
      cases h2
      exact hn
    · rw [List.getElem?_set_ne (Ne.symm e)] at h2
      have : b ≠ a := fun z => e (by
        subst z
        exact nd_ix k.nd h1 h)
      exact (k.node m b nd' h1 h2).keep (upd_ne this) fun _ _ r => r
  · by_cases e : b = a
    · subst e; rw [upd_same] at hb; cases hb
    · rwa [upd_ne e] at hb
/-- an object of one's own is written -/
theorem Ok.setO (k : Ok C g M H) {a : Addr} {o : HO} (h1 : g.S a = none) (h2 : a ∉ g.phi) (w : Wr H a) : Ok C g M (upd H a o) := by
  refine ⟨fun b u hb => ?_, k.len, k.nd, k.sep, fun m b nd' e1 e2 => ?_, w.tabs k.tabs, k.nt⟩
  · rw [upd_ne (ne_of_none hb h1)]; exact k.ex _ _ hb
  · exact (k.node m b nd' e1 e2).keep (upd_ne fun z => h2 (z ▸ List.mem_of_getElem? e1)) fun _ _ r => r
theorem Step.setO {g0 : G} (s : Step g0 H0 g H) {a : Addr} {o : HO} (h : H0 a = none) (w : H a ≠ none) : Step g0 H0 g (upd H a o) :=
  ⟨s.pre, s.ex, fun b u h1 h2 h3 => by rw [upd_ne (ne_of_none h3 h)]; exact s.fr b u h1 h2 h3, fun b hb => by
    by_cases e : b = a
    · subst e; exact h
    · rw [upd_ne e] at hb; exact s.fresh b hb, s.nphi, s.nS⟩
/-- a new object of one's own -/
theorem Ok.newO (k : Ok C g M H) {p : Addr} {o : HO} (h : H p = none) : Ok C g M (upd H p o) ∧ Step g H g (upd H p o) := by
  obtain ⟨hS, hp⟩ := k.free h
  refine ⟨⟨fun b u hb => ?_, k.len, k.nd, k.sep, fun m b nd' e1 e2 => ?_, tabs_upd k.tabs (.inl h), k.nt⟩, ⟨⟨[], by simp⟩, Same.refl _, fun b u h1 h2 h3 => by rw [upd_ne (ne_of_none h3 h)]; exact h3, fun b hb => ?_, fun b hb => .inl hb, fun b u hb => .inl hb⟩⟩
  · rw [upd_ne (ne_of_none hb hS)]; exact k.ex _ _ hb
  · exact (k.node m b nd' e1 e2).keep (upd_ne fun z => hp (z ▸ List.mem_of_getElem? e1)) fun _ _ r => r
  · by_cases e : b = p
    · subst e; exact h
    · rwa [upd_ne e] at hb
end
end Z

/-! Z, part 1: judgements. -/
namespace Z
open PySem PySem.Spec PyProof.Rows L2

def Post (C : Ctx) (E : XK) (g : G) (H : Hp) {α : Type} (r : Res α) (k : α → G → Store → Hp → Prop) : Prop := match r with
  | .ok x M' => ∀ g' H', Ok C g' M' H' → Step g H g' H' → k x g' M' H'
  | .exn c M' => ∀ g' H' A, Ok C g' M' H' → Step g H g' H' → C.mg c = some (.ref A) → E (.ref A) none H'
  | .stuck => False
section
variable {C : Ctx} {E : XK} {g g' : G} {H H' H0 : Hp} {M M' : Store} {α β : Type}
theorem Post.back {r : Res α} {k : α → G → Store → Hp → Prop} (h : Post C E g H r k) (s : Step g H g' H') : Post C E g' H' r k := by
  cases r with
  | ok x M => exact fun g2 H2 o st => h g2 H2 o (s.trans st)
  | exn c M => exact fun g2 H2 A o st => h g2 H2 A o (s.trans st)
  | stuck => exact h
theorem Post.bind {r : Res α} {f : α → Store → Res β} {k : β → G → Store → Hp → Prop} (h : Post C E g H (r.bind f) k) : Post C E g H r fun x g' M' H' => Post C E g' H' (f x M') k := by
  cases r with
  | ok x M => exact fun g2 H2 o st => Post.back (r := f x M) h st
  | exn c M => exact h
  | stuck => exact h
theorem Post.bind0 {r : Res α} {f : α → Store → Res β} {k : β → G → Store → Hp → Prop} (h : Post C E g H (r.bind f) k) : Post C E g H r fun x _ M' _ => Post C E g H (f x M') k := by
  cases r with
  | ok x M => exact fun _ _ _ _ => h
  | exn c M => exact h
  | stuck => exact h
theorem Post.imp {r : Res α} {k k' : α → G → Store → Hp → Prop} (h : Post C E g H r k) (i : ∀ x g' M' H', Ok C g' M' H' → Step g H g' H' → k x g' M' H' → k' x g' M' H') : Post C E g H r k' := by
  cases r with
  | ok x M => exact fun g2 H2 o st => i _ _ _ _ o st (h g2 H2 o st)
  | exn c M => exact h
  | stuck => exact h
theorem Post.here {x : α} {k : α → G → Store → Hp → Prop} (h : Post C E g H (.ok x M) k) (o : Ok C g M H) : k x g M H := h g H o (Step.refl _ _)
theorem Post.at {x : α} {k : α → G → Store → Hp → Prop} (h : Post C E g H (.ok x M) k) (o : Ok C g' M H' ∧ Step g H g' H') : k x g' M H' := h g' H' o.1 o.2

/-! ### weak representation: what is read at once -/
inductive RpC (K : PySem.W.Frag) (S H : Hp) : V → PyData → Prop
  | of {v : V} {d : PyData} : Rp K S v d → RpC K S H v d
  | lst {a : Addr} {xs : List V} {ds : List PyData} : H a = some (.lst xs) → RpAll K S xs ds → RpC K S H (.ref a) (.list ds)
  | dic {a : Addr} {kvs : List (Key × V)} {ds : List (PyData × PyData)} : H a = some (.dK kvs) → RpKv K S kvs ds → RpC K S H (.ref a) (.dict ds)
theorem RpC.rp {K : PySem.W.Frag} {S H : Hp} {v : V} {d : PyData} (s : Same S H) (h : RpC K S H v d) : Rp K H v d := by
  cases h with
  | of h => exact Rp.mono s _ _ h
  | lst h1 h2 => exact .lst h1 (RpAll.mono s _ _ h2)
  | dic h1 h2 => exact .dic h1 (RpKv.mono s _ _ h2)
theorem RpC.list {K : PySem.W.Frag} {S H : Hp} {v : V} {ds : List PyData} (s : Same S H) (h : RpC K S H v (.list ds)) : ∃ a xs, v = .ref a ∧ H a = some (.lst xs) ∧ RpAll K S xs ds := by
  cases h with
  | of h => cases h with
    | lst h1 h2 => exact ⟨_, _, rfl, s _ _ h1, h2⟩
  | lst h1 h2 => exact ⟨_, _, rfl, h1, h2⟩
theorem RpC.tupS {K : PySem.W.Frag} {S H : Hp} {v : V} {ds : List PyData} (h : RpC K S H v (.tuple ds)) : Rp K S v (.tuple ds) := by
  cases h with
  | of h => exact h
theorem RpC.tuple {K : PySem.W.Frag} {S H : Hp} {v : V} {ds : List PyData} (s : Same S H) (h : RpC K S H v (.tuple ds)) : ∃ a xs, v = .ref a ∧ SqT K H a xs ∧ RpAll K S xs ds := by
  cases h with
  | of h => cases h with
    | tup h1 h2 => exact ⟨_, _, rfl, sqtMono s h1.1, h2⟩
theorem RpC.dict {K : PySem.W.Frag} {S H : Hp} {v : V} {ds : List (PyData × PyData)} (s : Same S H) (h : RpC K S H v (.dict ds)) : ∃ a xs, v = .ref a ∧ H a = some (.dK xs) ∧ RpKv K S xs ds := by
  cases h with
  | of h => cases h with
    | dic h1 h2 => exact ⟨_, _, rfl, s _ _ h1, h2⟩
  | dic h1 h2 => exact ⟨_, _, rfl, h1, h2⟩
theorem RpC.int {K : PySem.W.Frag} {S H : Hp} {v : V} {i : Int} (h : RpC K S H v (.int i)) : v = .int i := by
  cases h with
  | of h => cases h; rfl
theorem RpC.bool {K : PySem.W.Frag} {S H : Hp} {v : V} {i : Bool} (h : RpC K S H v (.bool i)) : v = .bl i := by
  cases h with
  | of h => cases h; rfl
theorem RpC.str {K : PySem.W.Frag} {S H : Hp} {v : V} {i : Str} (h : RpC K S H v (.str i)) : v = .str i := by
  cases h with
  | of h => cases h; rfl
theorem RpC.none {K : PySem.W.Frag} {S H : Hp} {v : V} (h : RpC K S H v .none) : v = .non := by
  cases h with
  | of h => cases h; rfl
def RepX (C : Ctx) (g : G) (H : Hp) (v : V) : Val → Prop
  | .d x => RpC C.K g.S H v x
  | .ref n => Rep C g v (.ref n)
  | .scr n => Rep C g v (.scr n)
def RepW (C : Ctx) (g : G) (H : Hp) (v : V) (x : Val) : Prop := ∀ g' M' H', Ok C g' M' H' → Step g H g' H' → RepX C g' H' v x
theorem Rep.x {v : V} : ∀ {x : Val}, Rep C g v x → RepX C g H v x
  | .d x, h => .of h
  | .ref n, h => h
  | .scr n, h => h
theorem Rep.w {v : V} {x : Val} (h : Rep C g v x) : RepW C g H v x := fun _ _ _ _ s => (h.step s).x
theorem RepW.step {v : V} {x : Val} (h : RepW C g H v x) (s : Step g H g' H') : RepW C g' H' v x := fun g2 M2 H2 o st => h g2 M2 H2 o (s.trans st)
theorem RepW.here {v : V} {x : Val} (h : RepW C g H v x) (o : Ok C g M H) : RepX C g H v x := h g M H o (Step.refl _ _)
def pures : List Val → Option (List PyData)
  | [] => some []
  | .d x :: r => (pures r).map (x :: ·)
  | _ :: _ => none
def pureKv : List (Key × Val) → Option (List (PyData × PyData))
  | [] => some []
  | (k, .d x) :: r => (pureKv r).map ((keyD k, x) :: ·)
  | _ :: _ => none
@[simp] theorem pures_map (xs : List PyData) : pures (xs.map Val.d) = some xs := by
  induction xs with
  | nil => rfl
  | cons x r ih => simp [pures, ih]
@[simp] theorem pures_nil : pures [] = some [] := rfl
@[simp] theorem pures_cons (x : PyData) (r : List Val) : pures (.d x :: r) = (pures r).map (x :: ·) := rfl
theorem pures_eq : ∀ {xs : List Val} {ds : List PyData}, pures xs = some ds → xs = ds.map Val.d
  | [], ds, h => by simp [pures] at h; subst h; rfl
  | .d x :: r, ds, h => by
    simp [pures] at h
    obtain ⟨es, h1, rfl⟩ := h
    simp [pures_eq h1]
  | .ref n :: r, ds, h => by simp [pures] at h
  | .scr n :: r, ds, h => by simp [pures] at h
def load (M : Store) : Val → Option PyData
  | .d x => some x
  | .ref n => match M[n]? with
    | some (.lst xs) => (pures xs).map .list
    | some (.dic kvs) => (pureKv kvs).map .dict
    | _ => none
  | .scr _ => none
@[simp] theorem load_d (M : Store) (x : PyData) : load M (.d x) = some x := rfl
theorem repAll_of {vs : List V} : ∀ {xs : List Val} {ds : List PyData}, Reps C g vs xs → pures xs = some ds → RpAll C.K g.S vs ds := by
  intro xs ds h e
  have := pures_eq e
  subst this
  clear e
  induction ds generalizing vs with
  | nil => cases h; exact .nil
  | cons x r ih =>
    cases h with
    | cons h1 h2 => exact .cons h1 (ih h2)
theorem reps_of {vs : List V} {ds : List PyData} (h : RpAll C.K g.S vs ds) : Reps C g vs (ds.map Val.d) := by
  induction ds generalizing vs with
  | nil => cases h; exact .nil
  | cons x r ih =>
    cases h with
    | cons h1 h2 => exact .cons h1 (ih h2)
theorem repKv_of : ∀ {vs : List (Key × V)} {xs : List (Key × Val)} {ds : List (PyData × PyData)}, PReps C g vs xs → pureKv xs = some ds → RpKv C.K g.S vs ds
  | _, [], ds, h, e => by
    simp [pureKv] at e; subst e; cases h; exact .nil
  | _, (k, .d x) :: r, ds, h, e => by
    simp [pureKv] at e
    obtain ⟨es, e1, rfl⟩ := e
    cases h with
    | @cons p _ vs' _ h1 h2 =>
      obtain ⟨pk, pv⟩ := p
      obtain ⟨h1a, h1b⟩ := h1
      simp only at h1a
      subst h1a
      exact .cons h1b (repKv_of h2 e1)
  | _, (k, .ref n) :: r, ds, h, e => by simp [pureKv] at e
  | _, (k, .scr n) :: r, ds, h, e => by simp [pureKv] at e
theorem RepX.load {v : V} {d : PyData} (o : Ok C g M H) : ∀ {x : Val}, RepX C g H v x → load M x = some d → RpC C.K g.S H v d
  | .d x, h, e => by simp at e; subst e; exact h
  | .ref n, h, e => by
    obtain ⟨a, h1, rfl⟩ := h
    have e : (match M[n]? with
      | some (.lst xs) => (pures xs).map PyData.list
      | some (.dic kvs) => (pureKv kvs).map PyData.dict
      | _ => none) = some d := e
    cases hm : M[n]? with
    | none => rw [hm] at e; simp at e
    | some nd =>
      rw [hm] at e
      have := o.node n a nd h1 hm
      cases nd with
      | lst xs =>
        simp at e
        obtain ⟨ds, e1, rfl⟩ := e
        obtain ⟨vs, k1, k2⟩ := this
        exact .lst k1 (repAll_of k2 e1)
      | tup xs => simp at e
      | dic kvs =>
        simp at e
        obtain ⟨ds, e1, rfl⟩ := e
        obtain ⟨vs, k1, k2⟩ := this
        exact .dic k1 (repKv_of k2 e1)
      | obj c fs => simp at e
      | dead => simp at e
  | .scr n, h, e => by cases e

/-! ### judgements on readings -/
abbrev Sm (α : Type) := Rho → Store → Res α
def EvE (C : Ctx) (E : XK) (te : TE) (m : Sm Val) : Prop := ∀ (H0 : Hp) (g : G) (M : Store) (H : Hp) (σ : L2.St) (ρ : Rho) (Q : VK), Ok C g M H → RSt C H0 g H σ ρ →
  Post C E g H (m ρ M) (fun x g' _ H' => ∀ v, Rep C g' v x → Q v H') → te σ H Q
def EvW (C : Ctx) (E : XK) (te : TE) (m : Sm Val) : Prop := ∀ (H0 : Hp) (g : G) (M : Store) (H : Hp) (σ : L2.St) (ρ : Rho) (Q : VK), Ok C g M H → RSt C H0 g H σ ρ →
  Post C E g H (m ρ M) (fun x g' _ H' => ∀ v, RepW C g' H' v x → Q v H') → te σ H Q
def EvT (C : Ctx) (E : XK) (tt : TT) (m : Sm Bool) : Prop := ∀ (H0 : Hp) (g : G) (M : Store) (H : Hp) (σ : L2.St) (ρ : Rho) (Q : Bool → Hp → Prop), Ok C g M H → RSt C H0 g H σ ρ →
  Post C E g H (m ρ M) (fun x _ _ H' => Q x H') → tt σ H Q
/-- arguments, each strong -/
def EvA (C : Ctx) (E : XK) (ta : TA) (m : Sm (List Val)) : Prop := ∀ (H0 : Hp) (g : G) (M : Store) (H : Hp) (σ : L2.St) (ρ : Rho) (Q : List V → Hp → Prop), Ok C g M H → RSt C H0 g H σ ρ →
  Post C E g H (m ρ M) (fun xs g' _ H' => ∀ vs, Reps C g' vs xs → Q vs H') → ta σ H Q
/-- arguments, each weak -/
def EvAW (C : Ctx) (E : XK) (ta : TA) (m : Sm (List Val)) : Prop := ∀ (H0 : Hp) (g : G) (M : Store) (H : Hp) (σ : L2.St) (ρ : Rho) (Q : List V → Hp → Prop), Ok C g M H → RSt C H0 g H σ ρ →
  Post C E g H (m ρ M) (fun xs g' _ H' => ∀ vs, Paired (RepW C g' H') vs xs → Q vs H') → ta σ H Q
/-- a new list that nothing else holds -/
def EvL (C : Ctx) (E : XK) (te : TE) (m : Sm (List Val)) : Prop := ∀ (H0 : Hp) (g : G) (M : Store) (H : Hp) (σ : L2.St) (ρ : Rho) (Q : VK), Ok C g M H → RSt C H0 g H σ ρ →
  Post C E g H (m ρ M) (fun xs g' _ H' => ∀ p vs, H' p = some (.lst vs) → Reps C g' vs xs → g'.S p = none → p ∉ g'.phi → H p = none → Q (.ref p) H') → te σ H Q
/-- a new dict -/
def EvD (C : Ctx) (E : XK) (te : TE) (m : Sm (List (Key × Val))) : Prop := ∀ (H0 : Hp) (g : G) (M : Store) (H : Hp) (σ : L2.St) (ρ : Rho) (Q : VK), Ok C g M H → RSt C H0 g H σ ρ →
  Post C E g H (m ρ M) (fun xs g' _ H' => ∀ p vs, H' p = some (.dK vs) → PReps C g' vs xs → g'.S p = none → p ∉ g'.phi → H p = none → Q (.ref p) H') → te σ H Q
theorem EvE.w {te : TE} {m : Sm Val} (h : EvE C E te m) : EvW C E te m := fun H0 g M H σ ρ Q o r p =>
  h H0 g M H σ ρ Q o r (p.imp fun x g' M' H' _ _ k v rv => k v rv.w)

/-! freezing, laying in the store -/
theorem Ok.freeze (k : Ok C g M H) {p : Addr} {o : HO} (h : H p = some o) (h2 : p ∉ g.phi) (no : ∀ ps, o ≠ .tbl ps := by intro ps z; cases z) : Ok C ⟨g.phi, upd g.S p o⟩ M H := by
  refine ⟨fun b u hb => ?_, k.len, k.nd, fun a ha => ?_, fun n a nd h1 h2' => ?_, k.tabs, fun b ps e => ?_⟩
  · have hb : upd g.S p o b = some u := hb
    by_cases e : b = p
    · subst e; rw [upd_same] at hb; rw [h]; exact hb
    · rw [upd_ne e] at hb; exact k.ex _ _ hb
  · have : a ≠ p := fun z => h2 (by rw [← z]; exact ha)
    show upd g.S p o a = none
    rw [upd_ne this]; exact k.sep a ha
  · have hn := k.node n a nd h1 h2'
    cases hp : g.S p with
    | none =>
      refine NodeOk.keep (g := g) rfl (fun v x r => ?_) hn
      cases x with
      | d x => exact Rp.mono (same_new hp) _ _ r
      | ref n => exact r
      | scr n =>
        obtain ⟨b, e1, e2⟩ := r
        exact ⟨b, e1, sqlMono (same_new hp) e2⟩
    | some u =>
      have hu : u = o := by
        have := k.ex _ _ hp
        rw [h] at this; exact (Option.some.inj this).symm
      refine NodeOk.keep (g := g) rfl (fun v x r => ?_) hn
      cases x with
      | d x =>
        refine Rp.mono (fun b u' hb => ?_) _ _ r
        by_cases e : b = p
        · subst e; rw [hp] at hb; show upd g.S b o b = _; rw [upd_same, ← hb, hu]
        · show upd g.S p o b = _; rw [upd_ne e]; exact hb
      | ref n => exact r
      | scr n =>
        obtain ⟨b, e1, e2⟩ := r
        refine ⟨b, e1, sqlMono (fun b u' hb => ?_) e2⟩
        by_cases e : b = p
        · subst e; rw [hp] at hb; show upd g.S b o b = _; rw [upd_same, ← hb, hu]
        · show upd g.S p o b = _; rw [upd_ne e]; exact hb
  · have e : upd g.S p o b = some (.tbl ps) := e
    by_cases z : b = p
    · subst z; rw [upd_same] at e; exact no ps (Option.some.inj e)
    · rw [upd_ne z] at e; exact k.nt b ps e
theorem Step.freeze (s : Step g H g' H') {p : Addr} {o : HO} (hS : g'.S p = none) (h : H p = none) : Step g H ⟨g'.phi, upd g'.S p o⟩ H' :=
  ⟨s.pre, s.ex.trans (same_new hS), s.fr, s.fresh, s.nphi, fun b u hb => by
    have hb : upd g'.S p o b = some u := hb
    by_cases e : b = p
    · subst e; exact .inr h
    · rw [upd_ne e] at hb; exact s.nS b u hb⟩
theorem Ok.enter (k : Ok C g M H) {p : Addr} {nd : Node} (h1 : g.S p = none) (h2 : p ∉ g.phi) (hn : NodeOk C ⟨g.phi ++ [p], g.S⟩ H p nd) : Ok C ⟨g.phi ++ [p], g.S⟩ (M ++ [nd]) H := by
  have up : ∀ v x, Rep C g v x → Rep C ⟨g.phi ++ [p], g.S⟩ v x := fun v x r => by
    cases x with
    | d x => exact r
    | ref n =>
      obtain ⟨a, e1, e2⟩ := r
      exact ⟨a, by show (g.phi ++ [p])[n]? = _; rw [List.getElem?_append_left (List.getElem?_eq_some_iff.mp e1).1]; exact e1, e2⟩
    | scr n => exact r
  refine ⟨k.ex, by simp [k.len], ?_, fun a ha => ?_, fun n a nd' e1 e2 => ?_, k.tabs, k.nt⟩
  · rw [List.nodup_append]
    exact ⟨k.nd, by simp, fun a ha b hb => by rw [List.mem_singleton.mp hb]; exact fun z => h2 (z ▸ ha)⟩
  · rcases List.mem_append.mp ha with ha | ha
    · exact k.sep a ha
    · rw [List.mem_singleton.mp ha]; exact h1
  · have e1 : (g.phi ++ [p])[n]? = some a := e1
    by_cases hlt : n < M.length
    · rw [List.getElem?_append_left (by rw [k.len]; exact hlt)] at e1
      rw [List.getElem?_append_left hlt] at e2
      exact (k.node n a nd' e1 e2).keep rfl up
    · rw [List.getElem?_append_right (by omega)] at e2
      have hn0 : n - M.length = 0 := by
        have := (List.getElem?_eq_some_iff.mp e2).1
        simp at this; omega
      rw [hn0] at e2
      simp at e2
      subst e2
      rw [List.getElem?_append_right (by rw [k.len]; omega)] at e1
      rw [k.len, hn0] at e1
      simp at e1
      subst e1
      exact hn
theorem Step.enter (s : Step g H g' H') {p : Addr} (h : H p = none) : Step g H ⟨g'.phi ++ [p], g'.S⟩ H' := by
  obtain ⟨r, e⟩ := s.pre
  exact ⟨⟨r ++ [p], by show g'.phi ++ [p] = _; rw [e, List.append_assoc]⟩, s.ex, s.fr, s.fresh, fun b hb => by
    rcases List.mem_append.mp hb with hb | hb
    · exact s.nphi b hb
    · rw [List.mem_singleton.mp hb]; exact .inr h, s.nS⟩
def frz (xs : List Val) (M : Store) : Res Val := match pures xs with
  | some ds => .ok (.d (.list ds)) M
  | none => .stuck
def lay (xs : List Val) (M : Store) : Res Val := .ok (.ref M.length) (M ++ [.lst xs])
@[simp] theorem frz_map (xs : List PyData) (M : Store) : frz (xs.map Val.d) M = .ok (.d (.list xs)) M := by simp [frz]
theorem EvL.frz {te : TE} {m : Sm (List Val)} (h : EvL C E te m) : EvE C E te fun ρ M => (m ρ M).bind Z.frz := fun H0 g M H σ ρ Q o r p =>
  h H0 g M H σ ρ Q o r (p.bind0.imp fun xs g' M' H' o' st k q vs h1 h2 h3 h4 h5 => by
    unfold Z.frz at k
    cases e : pures xs with
    | none => rw [e] at k; exact k.elim
    | some ds =>
      rw [e] at k
      exact k.at ⟨o'.freeze h1 h4, st.freeze h3 h5⟩ _ (.lst upd_same (RpAll.mono (same_new h3) _ _ (repAll_of h2 e))))
theorem Rep.enter {v : V} {p : Addr} : ∀ {x : Val}, Rep C g v x → Rep C ⟨g.phi ++ [p], g.S⟩ v x
  | .d x, r => r
  | .ref n, ⟨a, e1, e2⟩ => ⟨a, by show (g.phi ++ [p])[n]? = _; rw [List.getElem?_append_left (List.getElem?_eq_some_iff.mp e1).1]; exact e1, e2⟩
  | .scr n, r => r
theorem rep_new {p : Addr} (o : Ok C g M H) : Rep C ⟨g.phi ++ [p], g.S⟩ (.ref p) (.ref M.length) := ⟨p, by show (g.phi ++ [p])[M.length]? = _; rw [← o.len]; simp, rfl⟩
theorem EvL.lay {te : TE} {m : Sm (List Val)} (h : EvL C E te m) : EvE C E te fun ρ M => (m ρ M).bind Z.lay := fun H0 g M H σ ρ Q o r p =>
  h H0 g M H σ ρ Q o r (p.bind0.imp fun xs g' M' H' o' st k q vs h1 h2 h3 h4 h5 => by
    exact k.at ⟨o'.enter h3 h4 ⟨vs, h1, Paired.mapP h2 fun _ _ r => r.enter⟩, st.enter h5⟩ _ (rep_new o'))
def layD (xs : List (Key × Val)) (M : Store) : Res Val := .ok (.ref M.length) (M ++ [.dic xs])
def frzD (xs : List (Key × Val)) (M : Store) : Res Val := match pureKv xs with
  | some ds => .ok (.d (.dict ds)) M
  | none => .stuck
theorem EvD.lay {te : TE} {m : Sm (List (Key × Val))} (h : EvD C E te m) : EvE C E te fun ρ M => (m ρ M).bind Z.layD := fun H0 g M H σ ρ Q o r p =>
  h H0 g M H σ ρ Q o r (p.bind0.imp fun xs g' M' H' o' st k q vs h1 h2 h3 h4 h5 => by
    exact k.at ⟨o'.enter h3 h4 ⟨vs, h1, Paired.mapP h2 fun _ _ r => ⟨r.1, r.2.enter⟩⟩, st.enter h5⟩ _ (rep_new o'))
theorem EvD.frz {te : TE} {m : Sm (List (Key × Val))} (h : EvD C E te m) : EvE C E te fun ρ M => (m ρ M).bind Z.frzD := fun H0 g M H σ ρ Q o r p =>
  h H0 g M H σ ρ Q o r (p.bind0.imp fun xs g' M' H' o' st k q vs h1 h2 h3 h4 h5 => by
    unfold Z.frzD at k
    cases e : pureKv xs with
    | none => rw [e] at k; exact k.elim
    | some ds =>
      rw [e] at k
      exact k.at ⟨o'.freeze h1 h4, st.freeze h3 h5⟩ _ (.dic upd_same (RpKv.mono (same_new h3) _ _ (repKv_of h2 e))))

/-! ### expressions -/
section
variable {ta tb tc te : TE} {ma mb mc m : Sm Val} {tt tu : TT} {mt mu : Sm Bool} {tA : TA} {mA : Sm (List Val)}
/-! names and constants -/
def eVar (i : Nat) : Sm Val := fun ρ M => match ρ[i]? with
  | some (some (.sh v)) => .ok v M
  | _ => .stuck
theorem ev_var {i : Nat} : EvE C E (tVar i) (eVar i) := fun H0 g M H σ ρ Q o r p => by
  unfold eVar at p
  cases h : ρ[i]? with
  | none => rw [h] at p; exact p.elim
  | some s =>
    rw [h] at p
    cases s with
    | none => exact p.elim
    | some s =>
      cases s with
      | sh v =>
        obtain ⟨u, h1, h2⟩ := r.sh i v h
        exact ⟨u, h1, p.here o u h2⟩
      | ol xs => exact p.elim
      | od xs => exact p.elim
/-- what one's own list or dict holds, read at once -/
def kvD : List (Key × PyData) → List (PyData × PyData) := List.map fun p => (keyD p.1, p.2)
def wVar (i : Nat) : Sm Val := fun ρ M => match ρ[i]? with
  | some (some (.sh v)) => .ok v M
  | some (some (.ol xs)) => .ok (.d (.list xs)) M
  | some (some (.od xs)) => .ok (.d (.dict (kvD xs))) M
  | _ => .stuck
theorem kvD_rp {S : Hp} : ∀ {vs : List (Key × V)} {xs : List (Key × PyData)}, KvD C S vs xs → RpKv C.K S vs (kvD xs)
  | _, _, .nil => .nil
  | (k, v) :: vs, (k', x) :: xs, .cons ⟨h1, h2⟩ t => by
    simp only at h1
    subst h1
    exact .cons h2 (kvD_rp t)
theorem ev_wvar {i : Nat} : EvW C E (tVar i) (wVar i) := fun H0 g M H σ ρ Q o r p => by
  unfold wVar at p
  cases h : ρ[i]? with
  | none => rw [h] at p; exact p.elim
  | some s =>
    rw [h] at p
    cases s with
    | none => exact p.elim
    | some s =>
      cases s with
      | sh v =>
        obtain ⟨u, h1, h2⟩ := r.sh i v h
        exact ⟨u, h1, p.here o u h2.w⟩
      | ol xs =>
        obtain ⟨a, vs, h1, h2, h3, h4, h5, h6⟩ := r.ol i xs h
        refine ⟨_, h1, p.here o _ fun g' M' H' o' st => ?_⟩
        obtain ⟨k1, k2, k3⟩ := own_keep st h2 (fun _ z => by cases z) h4 h5
        exact .lst k1 (RpAll.mono st.ex _ _ h3)
      | od xs =>
        obtain ⟨a, vs, h1, h2, h3, h4, h5, h6⟩ := r.od i xs h
        refine ⟨_, h1, p.here o _ fun g' M' H' o' st => ?_⟩
        obtain ⟨k1, k2, k3⟩ := own_keep st h2 (fun _ z => by cases z) h4 h5
        exact .dic k1 (kvD_rp (KvD.mono st.ex h3))
def eC (x : PyData) : Sm Val := fun _ M => .ok (.d x) M
theorem ev_c {v : V} {x : PyData} (h : ∀ K S, Rp K S v x) : EvE C E (tC v) (eC x) := fun H0 g M H σ ρ Q o r p => p.here o v (h _ _)
theorem ev_int {i : Int} : EvE C E (tC (.int i)) (eC (.int i)) := ev_c fun _ _ => .int i
theorem ev_bl {b : Bool} : EvE C E (tC (.bl b)) (eC (.bool b)) := ev_c fun _ _ => .bl b
theorem ev_str {x : Str} : EvE C E (tC (.str x)) (eC (.str x)) := ev_c fun _ _ => .str x

def Op2 (C : Ctx) (E : XK) (r : R2) (f : PyData → PyData → Option PyData) : Prop := ∀ (g : G) (M : Store) (H : Hp) (v u : V) (x y z : PyData) (Q : VK), Ok C g M H → RpC C.K g.S H v x → RpC C.K g.S H u y → f x y = some z →
  Post C E g H (.ok (.d z) M) (fun z g' _ H' => ∀ u, Rep C g' u z → Q u H') → r v u H Q
def lift1 (f : PyData → Option PyData) (x : Val) (M : Store) : Res Val := match load M x with
  | some a => match f a with
    | some b => .ok (.d b) M
    | none => .stuck
  | none => .stuck
def lift2 (f : PyData → PyData → Option PyData) (x y : Val) (M : Store) : Res Val := match load M x, load M y with
  | some a, some b => match f a b with
    | some c => .ok (.d c) M
    | none => .stuck
  | _, _ => .stuck
def e1 (f : PyData → Option PyData) (ma : Sm Val) : Sm Val := fun ρ M => (ma ρ M).bind (lift1 f)
def e2 (f : PyData → PyData → Option PyData) (ma mb : Sm Val) : Sm Val := fun ρ M => (ma ρ M).bind fun x M1 => (mb ρ M1).bind fun y M2 => lift2 f x y M2
theorem ev_op {r : R2} {f : PyData → PyData → Option PyData} (op : Op2 C E r f) (ha : EvW C E ta ma) (hb : EvW C E tb mb) : EvE C E (tOp r ta tb) (e2 f ma mb) := fun H0 g M H σ ρ Q o r p =>
  ha H0 g M H σ ρ _ o r (p.bind.imp fun x g' M' H' o' st k v rv => hb H0 g' M' H' σ ρ _ o' (r.step st) (k.bind.imp fun y g2 M2 H2 o2 st2 k2 u ru => by
    unfold lift2 at k2
    cases e : load M2 x with
    | none => rw [e] at k2; exact k2.elim
    | some a =>
      cases e' : load M2 y with
      | none => rw [e, e'] at k2; exact k2.elim
      | some b =>
        rw [e, e'] at k2
        simp only at k2
        cases e3 : f a b with
        | none => rw [e3] at k2; exact k2.elim
        | some c =>
          rw [e3] at k2
          exact op g2 M2 H2 v u a b c Q o2 (((rv.step st2).here o2).load o2 e) ((ru.here o2).load o2 e') e3 k2))
end
end
end Z

/-! Z, part 2: operators with flat answers. -/
namespace Z
open PySem PySem.Spec PyProof.Rows L2

/-- room on the stack: what a rule over data asks -/
def Hu (X : Cx) : Prop := X.A.units + 180 < cLine
theorem hu_room {X : Cx} {k : Nat} (r : Room k X.A) : Hu X := by have := r.un; unfold Hu; omega

def flat : PyData → Option V
  | .none => some .non
  | .bool b => some (.bl b)
  | .int i => some (.int i)
  | .str x => some (.str x)
  | _ => none
theorem flat_rp {K : PySem.W.Frag} {S : Hp} : ∀ {d : PyData} {v : V}, flat d = some v → Rp K S v d
  | .none, _, h => by cases h; exact .non
  | .bool b, _, h => by cases h; exact .bl b
  | .int i, _, h => by cases h; exact .int i
  | .str x, _, h => by cases h; exact .str x
  | .list _, _, h => by cases h
  | .tuple _, _, h => by cases h
  | .dict _, _, h => by cases h
def rF2 (K : PySem.W.Frag) (f : PyData → PyData → Option PyData) : R2 := fun x y H Q => ∃ a b z v, Rp K H x a ∧ Rp K H y b ∧ f a b = some z ∧ flat z = some v ∧ Q v H
def rFn (K : PySem.W.Frag) (f : List PyData → Option PyData) : List V → Hp → VK → Prop := fun xs H Q => ∃ as z v, RpAll K H xs as ∧ f as = some z ∧ flat z = some v ∧ Q v H
section
variable {C : Ctx} {E : XK} {ta tb te : TE} {ma mb m : Sm Val} {tA : TA} {mA : Sm (List Val)}
theorem op2_flat {f : PyData → PyData → Option PyData} (hf : ∀ a b z, f a b = some z → (flat z).isSome = true) : Op2 C E (rF2 C.K f) f := fun g M H v u x y z Q o rx ry e p => by
  obtain ⟨w, hw⟩ := Option.isSome_iff_exists.mp (hf _ _ _ e)
  exact ⟨x, y, z, w, rx.rp o.ex, ry.rp o.ex, e, hw, p.here o w (flat_rp hw)⟩
end

/-! the operators on data -/
def cMul (i j : Int) : Bool := (decide (-(2 ^ 64) < i) && decide (i < 2 ^ 64)) || (decide (-(2 ^ 64) < j) && decide (j < 2 ^ 64))
def fSub : PyData → PyData → Option PyData
  | .int i, .int j => some (.int (i - j))
  | _, _ => none
def fMulI : PyData → PyData → Option PyData
  | .int i, .int j => if cMul i j = true then some (.int (i * j)) else none
  | _, _ => none
def fDiv : PyData → PyData → Option PyData
  | .int i, .int j => if 0 < j ∧ j < 1073741824 then some (.int (i / j)) else none
  | _, _ => none
def fMod : PyData → PyData → Option PyData
  | .int i, .int j => if 0 < j then some (.int (i % j)) else none
  | _, _ => none
def fAddF : PyData → PyData → Option PyData
  | .int i, .int j => some (.int (i + j))
  | .str a, .str b => if a.length + b.length ≤ sizeLine then some (.str (a ++ b)) else none
  | _, _ => none
def okEq (a b : PyData) : Bool := a.plain && b.plain && decide (min a.depth b.depth ≤ 90)
def fEq (a b : PyData) : Option PyData := if okEq a b = true then some (.bool (PyData.eqv a b)) else none
def fNe (a b : PyData) : Option PyData := if okEq a b = true then some (.bool (!PyData.eqv a b)) else none
def isNone : PyData → Bool
  | .none => true
  | _ => false
def okLt (a b : PyData) : Bool := PySem.W.alike a b && !isNone a && decide (min a.depth b.depth ≤ 90)
def fLt (a b : PyData) : Option PyData := if okLt a b = true then some (.bool (PySem.W.dataLt a b)) else none
def fLe (a b : PyData) : Option PyData := if okLt a b = true then some (.bool (!PySem.W.dataLt b a)) else none
def fGt (a b : PyData) : Option PyData := if okLt a b = true then some (.bool (PySem.W.dataLt b a)) else none
def fGe (a b : PyData) : Option PyData := if okLt a b = true then some (.bool (!PySem.W.dataLt a b)) else none
def okIn (x : PyData) (ys : List PyData) : Bool := PyData.plainAll ys && x.plain && decide (min (PyData.depthAll ys) x.depth ≤ 90)
def inD (x : PyData) (ys : List PyData) : Bool := ys.any fun y => PyData.eqv y x
def fIn : PyData → PyData → Option PyData
  | x, .list ys => if okIn x ys = true then some (.bool (inD x ys)) else none
  | x, .tuple ys => if okIn x ys = true then some (.bool (inD x ys)) else none
  | .str ⟨c⟩, .str z => match c.toList with
    | [k] => some (.bool (decide (k ∈ z.cps.toList)))
    | _ => none
  | _, _ => none
def fNotIn : PyData → PyData → Option PyData
  | x, .list ys => if okIn x ys = true then some (.bool (!inD x ys)) else none
  | x, .tuple ys => if okIn x ys = true then some (.bool (!inD x ys)) else none
  | _, _ => none
theorem fl_if {c : Bool} {y z : PyData} (h : (if c = true then some y else none) = some z) : c = true ∧ z = y := by
  cases c with
  | true => exact ⟨rfl, (Option.some.inj (by simpa using h)).symm⟩
  | false => simp at h
section
variable {X : Cx} {C : Ctx} {E : XK}
theorem rint {K : PySem.W.Frag} {S : Hp} {v : V} {i : Int} (h : Rp K S v (.int i)) : v = .int i := by cases h; rfl
theorem rstr {K : PySem.W.Frag} {S : Hp} {v : V} {i : Str} (h : Rp K S v (.str i)) : v = .str i := by cases h; rfl
theorem rbl {K : PySem.W.Frag} {S : Hp} {v : V} {i : Bool} (h : Rp K S v (.bool i)) : v = .bl i := by cases h; rfl
theorem OpR.of {f : Value → Value → Sem Value} {r r' : R2} (h : OpR X f r) (i : ∀ x y H Q, r' x y H Q → r x y H Q) : OpR X f r' := fun pins s σ H x y v u Q I rx ry q => h pins s σ H x y v u Q I rx ry (i _ _ _ _ q)
theorem oz_sub : OpR X (binaryOp .Sub) (rF2 X.K fSub) := OpR.of op_sub fun x y H Q ⟨a, b, z, v, h1, h2, h3, h4, q⟩ => by
  unfold fSub at h3
  split at h3
  · cases h3; cases h4; exact ⟨_, _, rint h1, rint h2, q⟩
  · cases h3
theorem oz_mulI : OpR X (binaryOp .Mult) (rF2 X.K fMulI) := OpR.of op_mul fun x y H Q ⟨a, b, z, v, h1, h2, h3, h4, q⟩ => by
  unfold fMulI at h3
  split at h3
  · obtain ⟨hc, rfl⟩ := fl_if h3
    cases h4
    refine ⟨_, _, rint h1, rint h2, ?_, q⟩
    simpa [cMul, CMul] using hc
  · cases h3
theorem oz_div : OpR X (binaryOp .FloorDiv) (rF2 X.K fDiv) := OpR.of op_fdiv fun x y H Q ⟨a, b, z, v, h1, h2, h3, h4, q⟩ => by
  unfold fDiv at h3
  split at h3
  · split at h3
    · rename_i hc
      cases h3; cases h4; exact ⟨_, _, rint h1, rint h2, hc, q⟩
    · cases h3
  · cases h3
theorem oz_mod : OpR X (binaryOp .Mod) (rF2 X.K fMod) := OpR.of op_mod fun x y H Q ⟨a, b, z, v, h1, h2, h3, h4, q⟩ => by
  unfold fMod at h3
  split at h3
  · split at h3
    · rename_i hc
      cases h3; cases h4; exact ⟨_, _, rint h1, rint h2, hc, q⟩
    · cases h3
  · cases h3
theorem oz_eq (hu : Hu X) : OpR X (compareOp .Eq) (rF2 X.K fEq) := fun pins s σ H x y v u Q I rx ry ⟨a, b, z, w, h1, h2, h3, h4, q⟩ => by
  obtain ⟨hc, rfl⟩ := fl_if h3
  cases h4
  simp [okEq] at hc
  obtain ⟨as, r1⟩ := Rp.reads I (Same.refl H) a x v h1 rx
  obtain ⟨bs, r2⟩ := Rp.reads I (Same.refl H) b y u h2 ry
  exact PySem.SeqAt.eq_plain r1 r2 hc.1.1 hc.1.2 (by unfold Hu at hu; omega) ⟨.bl _, H, I, rfl, q⟩
theorem oz_ne (hu : Hu X) : OpR X (compareOp .NotEq) (rF2 X.K fNe) := fun pins s σ H x y v u Q I rx ry ⟨a, b, z, w, h1, h2, h3, h4, q⟩ => by
  obtain ⟨hc, rfl⟩ := fl_if h3
  cases h4
  simp [okEq] at hc
  obtain ⟨as, r1⟩ := Rp.reads I (Same.refl H) a x v h1 rx
  obtain ⟨bs, r2⟩ := Rp.reads I (Same.refl H) b y u h2 ry
  exact PySem.SeqAt.ne_plain r1 r2 hc.1.1 hc.1.2 (by unfold Hu at hu; omega) ⟨.bl _, H, I, rfl, q⟩
theorem nn {a : PyData} (h : (!isNone a) = true) : a ≠ .none := fun z => by subst z; simp [isNone] at h
theorem oz_lt (hu : Hu X) : OpR X (compareOp .Lt) (rF2 X.K fLt) := fun pins s σ H x y v u Q I rx ry ⟨a, b, z, w, h1, h2, h3, h4, q⟩ => by
  obtain ⟨hc, rfl⟩ := fl_if h3
  cases h4
  simp only [okLt, Bool.and_eq_true, decide_eq_true_eq] at hc
  obtain ⟨as, r1⟩ := Rp.reads I (Same.refl H) a x v h1 rx
  obtain ⟨bs, r2⟩ := Rp.reads I (Same.refl H) b y u h2 ry
  exact PySem.W.lt_data r1 r2 hc.1.1 (nn hc.1.2) (by unfold Hu at hu; omega) ⟨.bl _, H, I, rfl, q⟩
theorem oz_le (hu : Hu X) : OpR X (compareOp .LtE) (rF2 X.K fLe) := fun pins s σ H x y v u Q I rx ry ⟨a, b, z, w, h1, h2, h3, h4, q⟩ => by
  obtain ⟨hc, rfl⟩ := fl_if h3
  cases h4
  simp only [okLt, Bool.and_eq_true, decide_eq_true_eq] at hc
  obtain ⟨as, r1⟩ := Rp.reads I (Same.refl H) a x v h1 rx
  obtain ⟨bs, r2⟩ := Rp.reads I (Same.refl H) b y u h2 ry
  exact PySem.W.le_data r1 r2 hc.1.1 (nn hc.1.2) (by unfold Hu at hu; omega) ⟨.bl _, H, I, rfl, q⟩
theorem oz_gt (hu : Hu X) : OpR X (compareOp .Gt) (rF2 X.K fGt) := fun pins s σ H x y v u Q I rx ry ⟨a, b, z, w, h1, h2, h3, h4, q⟩ => by
  obtain ⟨hc, rfl⟩ := fl_if h3
  cases h4
  simp only [okLt, Bool.and_eq_true, decide_eq_true_eq] at hc
  obtain ⟨as, r1⟩ := Rp.reads I (Same.refl H) a x v h1 rx
  obtain ⟨bs, r2⟩ := Rp.reads I (Same.refl H) b y u h2 ry
  exact PySem.W.gt_data r1 r2 hc.1.1 (nn hc.1.2) (by unfold Hu at hu; omega) ⟨.bl _, H, I, rfl, q⟩
theorem oz_in (hu : Hu X) : OpR X (compareOp .In) (rF2 X.K fIn) := fun pins s σ H x y v u Q I rx ry ⟨a, b, z, w, h1, h2, h3, h4, q⟩ => by
  unfold fIn at h3
  split at h3
  · obtain ⟨hc, rfl⟩ := fl_if h3
    cases h4
    simp only [okIn, Bool.and_eq_true, decide_eq_true_eq] at hc
    obtain ⟨as, r1⟩ := Rp.reads I (Same.refl H) _ x v h1 rx
    obtain ⟨bs, r2⟩ := Rp.reads I (Same.refl H) _ y u h2 ry
    exact PySem.SeqAt.in_list_data r2 r1 hc.1.1 hc.1.2 (by unfold Hu at hu; omega) ⟨.bl _, H, I, rfl, q⟩
  · obtain ⟨hc, rfl⟩ := fl_if h3
    cases h4
    simp only [okIn, Bool.and_eq_true, decide_eq_true_eq] at hc
    obtain ⟨as, r1⟩ := Rp.reads I (Same.refl H) _ x v h1 rx
    obtain ⟨bs, r2⟩ := Rp.reads I (Same.refl H) _ y u h2 ry
    exact PySem.SeqAt.in_tuple_data r2 r1 hc.1.1 hc.1.2 (by unfold Hu at hu; omega) ⟨.bl _, H, I, rfl, q⟩
  · rename_i c zz
    split at h3
    · rename_i k hk
      cases h3; cases h4
      have e : c = #[k] := by
        cases c with
        | mk l => simp at hk; simp [hk]
      subst e
      exact op_in_sign pins s σ H x y v u Q I rx ry ⟨k, zz, rstr h1, rstr h2, q⟩
    · cases h3
  · cases h3
theorem oz_notin (hu : Hu X) : OpR X (compareOp .NotIn) (rF2 X.K fNotIn) := fun pins s σ H x y v u Q I rx ry ⟨a, b, z, w, h1, h2, h3, h4, q⟩ => by
  unfold fNotIn at h3
  split at h3
  · obtain ⟨hc, rfl⟩ := fl_if h3
    cases h4
    simp only [okIn, Bool.and_eq_true, decide_eq_true_eq] at hc
    obtain ⟨as, r1⟩ := Rp.reads I (Same.refl H) _ x v h1 rx
    obtain ⟨bs, r2⟩ := Rp.reads I (Same.refl H) _ y u h2 ry
    exact PySem.SeqAt.notIn_list_data r2 r1 hc.1.1 hc.1.2 (by unfold Hu at hu; omega) ⟨.bl _, H, I, rfl, q⟩
  · obtain ⟨hc, rfl⟩ := fl_if h3
    cases h4
    simp only [okIn, Bool.and_eq_true, decide_eq_true_eq] at hc
    obtain ⟨as, r1⟩ := Rp.reads I (Same.refl H) _ x v h1 rx
    obtain ⟨bs, r2⟩ := Rp.reads I (Same.refl H) _ y u h2 ry
    exact PySem.SeqAt.notIn_tuple_data r2 r1 hc.1.1 hc.1.2 (by unfold Hu at hu; omega) ⟨.bl _, H, I, rfl, q⟩
  · cases h3
theorem fl_sub : ∀ a b z, fSub a b = some z → (flat z).isSome = true := fun a b z h => by unfold fSub at h; split at h <;> cases h; rfl
theorem fl_mulI : ∀ a b z, fMulI a b = some z → (flat z).isSome = true := fun a b z h => by
  unfold fMulI at h; split at h
  · obtain ⟨_, rfl⟩ := fl_if h; rfl
  · cases h
theorem fl_div : ∀ a b z, fDiv a b = some z → (flat z).isSome = true := fun a b z h => by
  unfold fDiv at h; split at h
  · split at h <;> cases h; rfl
  · cases h
theorem fl_mod : ∀ a b z, fMod a b = some z → (flat z).isSome = true := fun a b z h => by
  unfold fMod at h; split at h
  · split at h <;> cases h; rfl
  · cases h
theorem fl_eq : ∀ a b z, fEq a b = some z → (flat z).isSome = true := fun a b z h => by obtain ⟨_, rfl⟩ := fl_if h; rfl
theorem fl_ne : ∀ a b z, fNe a b = some z → (flat z).isSome = true := fun a b z h => by obtain ⟨_, rfl⟩ := fl_if h; rfl
theorem fl_lt : ∀ a b z, fLt a b = some z → (flat z).isSome = true := fun a b z h => by obtain ⟨_, rfl⟩ := fl_if h; rfl
theorem fl_le : ∀ a b z, fLe a b = some z → (flat z).isSome = true := fun a b z h => by obtain ⟨_, rfl⟩ := fl_if h; rfl
theorem fl_gt : ∀ a b z, fGt a b = some z → (flat z).isSome = true := fun a b z h => by obtain ⟨_, rfl⟩ := fl_if h; rfl
theorem fl_in : ∀ a b z, fIn a b = some z → (flat z).isSome = true := fun a b z h => by
  unfold fIn at h
  split at h
  · obtain ⟨_, rfl⟩ := fl_if h; rfl
  · obtain ⟨_, rfl⟩ := fl_if h; rfl
  · split at h <;> cases h; rfl
  · cases h
theorem fl_notin : ∀ a b z, fNotIn a b = some z → (flat z).isSome = true := fun a b z h => by
  unfold fNotIn at h
  split at h
  · obtain ⟨_, rfl⟩ := fl_if h; rfl
  · obtain ⟨_, rfl⟩ := fl_if h; rfl
  · cases h
end
end Z

/-! Z, part 3: expressions. -/
namespace Z
open PySem PySem.Spec PyProof.Rows L2
section
variable {C : Ctx} {E : XK} {g g' : G} {H H' H0 : Hp} {M M' : Store}
variable {ta tb tc te : TE} {ma mb mc m : Sm Val} {tt tu : TT} {mt mu : Sm Bool} {tA tB : TA} {mA mB : Sm (List Val)}

/-! ### truth values -/
def asB (x : Val) (M : Store) : Res Bool := match x with
  | .d (.bool b) => .ok b M
  | _ => .stuck
@[simp] theorem asB_bool (b : Bool) (M : Store) : asB (.d (.bool b)) M = .ok b M := rfl
theorem asB_inv {C : Ctx} {E : XK} {g : G} {H : Hp} {M : Store} {x : Val} {v : V} {k : Bool → G → Store → Hp → Prop} (h : Post C E g H (asB x M) k) (r : RepX C g H v x) : ∃ b, x = .d (.bool b) ∧ v = .bl b ∧ Post C E g H (.ok b M) k := by
  cases x with
  | d x =>
    cases x with
    | bool b => exact ⟨b, rfl, RpC.bool r, h⟩
    | none => exact h.elim
    | int i => exact h.elim
    | str i => exact h.elim
    | list i => exact h.elim
    | tuple i => exact h.elim
    | dict i => exact h.elim
  | ref n => exact h.elim
  | scr n => exact h.elim
def eAnd (ma mb : Sm Val) : Sm Val := fun ρ M => (ma ρ M).bind fun x M1 => (asB x M1).bind fun b M2 => if b = true then mb ρ M2 else .ok (.d (.bool false)) M2
def eOr (ma mb : Sm Val) : Sm Val := fun ρ M => (ma ρ M).bind fun x M1 => (asB x M1).bind fun b M2 => if b = true then .ok (.d (.bool true)) M2 else mb ρ M2
def eNot (ma : Sm Val) : Sm Val := fun ρ M => (ma ρ M).bind fun x M1 => (asB x M1).bind fun b M2 => .ok (.d (.bool (!b))) M2
theorem ev_and (ha : EvW C E ta ma) (hb : EvE C E tb mb) : EvE C E (tAndV ta tb) (eAnd ma mb) := fun H0 g M H σ ρ Q o r p =>
  ha H0 g M H σ ρ _ o r (p.bind.imp fun x g' M' H' o' st k v rv => by
    have k : Post C E g' H' ((asB x M').bind _) _ := k
    obtain ⟨b, rfl, rfl, k⟩ := asB_inv k.bind (rv.here o')
    have k := k.here o'
    refine ⟨b, rfl, ?_⟩
    cases b with
    | true => exact hb H0 g' M' H' σ ρ _ o' (r.step st) k
    | false => exact k.here o' _ (.bl false))
theorem ev_not (ha : EvW C E ta ma) : EvE C E (tNotV ta) (eNot ma) := fun H0 g M H σ ρ Q o r p =>
  ha H0 g M H σ ρ _ o r (p.bind.imp fun x g' M' H' o' st k v rv => by
    have k : Post C E g' H' ((asB x M').bind _) _ := k
    obtain ⟨b, rfl, rfl, k⟩ := asB_inv k.bind (rv.here o')
    have k := k.here o'
    exact ⟨b, rfl, k.here o' _ (.bl _)⟩)
/-! tests -/
def tVal (m : Sm Val) : Sm Bool := fun ρ M => (m ρ M).bind asB
theorem et_B (h : EvW C E te m) : EvT C E (L2.tB te) (tVal m) := fun H0 g M H σ ρ Q o r p =>
  h H0 g M H σ ρ _ o r (p.bind.imp fun x g' M' H' o' st k v rv => by
    obtain ⟨b, rfl, rfl, k⟩ := asB_inv k (rv.here o')
    exact ⟨b, rfl, k.here o'⟩)
theorem et_test (h : EvW C E te m) : EvT C E (tTest te) (tVal m) := fun H0 g M H σ ρ Q o r p =>
  h H0 g M H σ ρ _ o r (p.bind.imp fun x g' M' H' o' st k v rv => by
    obtain ⟨b, rfl, rfl, k⟩ := asB_inv k (rv.here o')
    exact ⟨b, rfl, k.here o'⟩)
def tAndM (mt mu : Sm Bool) : Sm Bool := fun ρ M => (mt ρ M).bind fun b M1 => if b = true then mu ρ M1 else .ok false M1
def tOrM (mt mu : Sm Bool) : Sm Bool := fun ρ M => (mt ρ M).bind fun b M1 => if b = true then .ok true M1 else mu ρ M1
def tNotM (mt : Sm Bool) : Sm Bool := fun ρ M => (mt ρ M).bind fun b M1 => .ok (!b) M1
theorem et_or (h1 : EvT C E tt mt) (h2 : EvT C E tu mu) : EvT C E (tOr tt tu) (tOrM mt mu) := fun H0 g M H σ ρ Q o r p =>
  h1 H0 g M H σ ρ _ o r (p.bind.imp fun b g' M' H' o' st k => by
    cases b with
    | false => exact h2 H0 g' M' H' σ ρ _ o' (r.step st) k
    | true => exact k.here o')
theorem et_not (h1 : EvT C E tt mt) : EvT C E (tNot tt) (tNotM mt) := fun H0 g M H σ ρ Q o r p =>
  h1 H0 g M H σ ρ _ o r (p.bind.imp fun b g' M' H' o' st k => k.here o')
def eIf (mt : Sm Bool) (ma mb : Sm Val) : Sm Val := fun ρ M => (mt ρ M).bind fun b M1 => if b = true then ma ρ M1 else mb ρ M1
theorem ev_if (h : EvT C E tt mt) (ha : EvE C E ta ma) (hb : EvE C E tb mb) : EvE C E (tIf tt ta tb) (eIf mt ma mb) := fun H0 g M H σ ρ Q o r p =>
  h H0 g M H σ ρ _ o r (p.bind.imp fun b g' M' H' o' st k => by
    cases b with
    | true => exact ha H0 g' M' H' σ ρ _ o' (r.step st) k
    | false => exact hb H0 g' M' H' σ ρ _ o' (r.step st) k)
/-! a chain of two comparisons -/
def eChain (f f' : PyData → PyData → Option PyData) (ma mb mc : Sm Val) : Sm Val := fun ρ M => (ma ρ M).bind fun x M1 => (mb ρ M1).bind fun y M2 => (lift2 f x y M2).bind fun z M3 => (asB z M3).bind fun b M4 =>
  if b = true then (mc ρ M4).bind fun w M5 => lift2 f' y w M5 else .ok (.d (.bool false)) M4
theorem lift2_at {f : PyData → PyData → Option PyData} {r : R2} (op : Op2 C E r f) {x y : Val} {v u : V} {Q : VK} {M : Store} {g : G} {H : Hp} (o : Ok C g M H) (rx : RepX C g H v x) (ry : RepX C g H u y)
    (k : Post C E g H (lift2 f x y M) (fun z g' _ H' => ∀ u, Rep C g' u z → Q u H')) : r v u H Q := by
  unfold lift2 at k
  cases e : load M x with
  | none => rw [e] at k; exact k.elim
  | some a =>
    cases e' : load M y with
    | none => rw [e, e'] at k; exact k.elim
    | some b =>
      rw [e, e'] at k
      simp only at k
      cases e3 : f a b with
      | none => rw [e3] at k; exact k.elim
      | some c =>
        rw [e3] at k
        exact op g M H v u a b c Q o (rx.load o e) (ry.load o e') e3 k
theorem ev_chain {r r' : R2} {f f' : PyData → PyData → Option PyData} (op : Op2 C E r f) (op' : Op2 C E r' f') (ha : EvW C E ta ma) (hb : EvW C E tb mb) (hc : EvW C E tc mc) : EvE C E (tChain r r' ta tb tc) (eChain f f' ma mb mc) := fun H0 g M H σ ρ Q o r p =>
  ha H0 g M H σ ρ _ o r (p.bind.imp fun x g' M' H' o' st k v rv => hb H0 g' M' H' σ ρ _ o' (r.step st) (k.bind.imp fun y g2 M2 H2 o2 st2 k2 u ru => by
    refine lift2_at op o2 ((rv.step st2).here o2) (ru.here o2) (k2.bind.imp fun z g3 M3 H3 o3 st3 k3 d rd => ?_)
    have k3 : Post C E g3 H3 ((asB z M3).bind _) _ := k3
    obtain ⟨b, rfl, rfl, k4⟩ := asB_inv k3.bind rd.x
    have k4 := k4.here o3
    refine ⟨b, rfl, ?_⟩
    cases b with
    | true => exact hc H0 g3 M3 H3 σ ρ _ o3 (((r.step st).step st2).step st3) (k4.bind.imp fun w g5 M5 H5 o5 st5 k5 d' rd' => lift2_at op' o5 (((ru.step st3).step st5).here o5) (rd'.here o5) k5)
    | false => exact k4.here o3 _ (.bl false)))

/-! ### arguments -/
def aNil : Sm (List Val) := fun _ M => .ok [] M
def aCons (m : Sm Val) (mA : Sm (List Val)) : Sm (List Val) := fun ρ M => (m ρ M).bind fun x M1 => (mA ρ M1).bind fun xs M2 => .ok (x :: xs) M2
theorem ea_nil : EvA C E tNil aNil := fun H0 g M H σ ρ Q o r p => p.here o [] .nil
theorem ea_cons (h : EvE C E te m) (hr : EvA C E tA mA) : EvA C E (tCons te tA) (aCons m mA) := fun H0 g M H σ ρ Q o r p =>
  h H0 g M H σ ρ _ o r (p.bind.imp fun x g' M' H' o' st k v rv => hr H0 g' M' H' σ ρ _ o' (r.step st) (k.bind.imp fun xs g2 M2 H2 o2 st2 k2 vs rs => k2.here o2 _ (.cons (rv.step st2) rs)))
theorem eaw_nil : EvAW C E tNil aNil := fun H0 g M H σ ρ Q o r p => p.here o [] .nil
theorem eaw_cons (h : EvW C E te m) (hr : EvAW C E tA mA) : EvAW C E (tCons te tA) (aCons m mA) := fun H0 g M H σ ρ Q o r p =>
  h H0 g M H σ ρ _ o r (p.bind.imp fun x g' M' H' o' st k v rv => hr H0 g' M' H' σ ρ _ o' (r.step st) (k.bind.imp fun xs g2 M2 H2 o2 st2 k2 vs rs => k2.here o2 _ (.cons (rv.step st2) rs)))
/-! displays -/
/-- a new tuple, its object known -/
def NewT (H : Hp) (xs : List V) (Q : VK) : Prop := ∀ (p : Addr) (ob : Obj), H p = none → ob.dict = none → Q (.ref p) (upd H p (.frz ob (.tup xs)))
theorem newT_go {X : Cx} {pins : List (Addr × Obj)} {s : Shared} {xs : List V} {its : List Value} {Q : VK} (I : Inv X pins σ H s) (r : Vals xs its) (z : xs.length ≤ sizeLine) (q : NewT H xs Q) :
    EP X pins σ Q (.ref s.heap.objs.size) { s with heap := s.heap.push { cls := .type "tuple", data := .seq its.toArray } } := by
  refine ⟨.ref _, _, I.laid (t' := s.toks) (o := .frz { cls := .type "tuple", data := .seq its.toArray } (.tup xs)) (fun _ _ e => Heap.get?_push_of_some _ e) (Nat.le_refl _) ?_, rfl, q _ _ (I.hok.fresh (Nat.le_refl _)) rfl⟩
  exact ⟨Heap.get?_push_size _ rfl, z, its, r, IsTup.new _ _⟩
def tTupS (t : TA) : TE := fun σ H Q => t σ H fun xs H1 => xs.length ≤ sizeLine ∧ NewT H1 xs Q
theorem pe_tupS {X : Cx} {es : List Expr} {t : TA} {k : Nat} {pos : Pos} (h : PA X es t) : PE X (.Tuple es k pos) (tTupS t) := by
  constructor
  intro pins s σ H Q I hq
  apply wpAny_Tuple_spliced
  refine thn (h.run pos pins s σ H _ I hq) ?_
  rintro us s1 ⟨xs, H1, I1, r, z, q⟩
  exact ⟨by rw [← r.length]; exact z, newT_go I1 r z q⟩
def mkTup (xs : List Val) (M : Store) : Res Val := match pures xs with
  | some ds => .ok (.d (.tuple ds)) M
  | none => .ok (.ref M.length) (M ++ [.tup xs])
@[simp] theorem mkTup_map (xs : List PyData) (M : Store) : mkTup (xs.map Val.d) M = .ok (.d (.tuple xs)) M := by simp [mkTup]
def sz (xs : List Val) (M : Store) : Res (List Val) := if xs.length ≤ 100000 then .ok xs M else .stuck
theorem ev_tup (h : EvA C E tA mA) : EvE C E (tTupS tA) (fun ρ M => ((mA ρ M).bind sz).bind mkTup) := fun H0 g M H σ ρ Q o r p =>
  h H0 g M H σ ρ _ o r (p.bind.bind.imp fun xs g' M' H' o' st k vs rs => by
    have hl := Paired.length rs
    unfold sz at k
    by_cases hz : xs.length ≤ 100000
    · rw [if_pos hz] at k
      have k := k.here o'
      refine ⟨by rw [hl, sizeLine_eq]; omega, fun q ob hq hd => ?_⟩
      unfold mkTup at k
      cases e : pures xs with
      | some ds =>
        rw [e] at k
        refine k.at (o'.newS (o := .frz ob (.tup vs)) hq) _ (.tup (.new hd) (RpAll.mono (same_new (o'.free hq).1) _ _ (repAll_of rs e)))
      | none =>
        rw [e] at k
        exact k.at (o'.newM (o := .frz ob (.tup vs)) (nd := .tup xs) hq fun g2 up _ => ⟨vs, .inr ⟨ob, upd_same⟩, Paired.mapP rs up⟩) _ (rep_new o')
    · rw [if_neg hz] at k; exact k.elim)
theorem el_lst (h : EvA C E tA mA) : EvL C E (tLst tA) (fun ρ M => (mA ρ M).bind sz) := fun H0 g M H σ ρ Q o r p =>
  h H0 g M H σ ρ _ o r (p.bind0.imp fun xs g' M' H' o' st k vs rs => by
    have hl := Paired.length rs
    unfold sz at k
    by_cases hz : xs.length ≤ 100000
    · rw [if_pos hz] at k
      refine ⟨by rw [hl, sizeLine_eq]; omega, fun q hq => ?_⟩
      have nw := o'.newO (o := .lst vs) hq
      exact k g' (upd H' q (.lst vs)) nw.1 (st.trans nw.2) q vs upd_same rs (o'.free hq).1 (o'.free hq).2 (st.fresh q hq)
    · rw [if_neg hz] at k; exact k.elim)

/-! ### built-in functions with a flat answer -/
def loads (M : Store) : List Val → Option (List PyData)
  | [] => some []
  | x :: xs => match load M x, loads M xs with
    | some a, some r => some (a :: r)
    | _, _ => none
@[simp] theorem loads_nil (M : Store) : loads M [] = some [] := rfl
theorem loads_cons {M : Store} {x : Val} {xs : List Val} {ds : List PyData} (h : loads M (x :: xs) = some ds) : ∃ a r, load M x = some a ∧ loads M xs = some r ∧ ds = a :: r := by
  unfold loads at h
  cases e : load M x with
  | none => rw [e] at h; cases h
  | some a =>
    cases e2 : loads M xs with
    | none => rw [e, e2] at h; cases h
    | some r => rw [e, e2] at h; exact ⟨a, r, rfl, rfl, (Option.some.inj h).symm⟩
inductive RpCs (K : PySem.W.Frag) (S H : Hp) : List V → List PyData → Prop
  | nil : RpCs K S H [] []
  | cons {v : V} {vs : List V} {d : PyData} {ds : List PyData} : RpC K S H v d → RpCs K S H vs ds → RpCs K S H (v :: vs) (d :: ds)
theorem RpCs.rp {K : PySem.W.Frag} {S H : Hp} (s : Same S H) : ∀ {vs : List V} {ds : List PyData}, RpCs K S H vs ds → RpAll K H vs ds
  | _, _, .nil => .nil
  | _, _, .cons h t => .cons (h.rp s) (t.rp s)
theorem loads_rp {vs : List V} : ∀ {xs : List Val} {ds : List PyData}, Ok C g M H → Paired (RepW C g H) vs xs → loads M xs = some ds → RpCs C.K g.S H vs ds := by
  intro xs ds o h e
  induction h generalizing ds with
  | nil => simp at e; subst e; exact .nil
  | cons h1 h2 ih =>
    obtain ⟨a, r, e1, e2, rfl⟩ := loads_cons e
    exact .cons ((h1.here o).load o e1) (ih e2)
def Opn (C : Ctx) (E : XK) (r : List V → Hp → VK → Prop) (f : List PyData → Option PyData) : Prop := ∀ (g : G) (M : Store) (H : Hp) (vs : List V) (xs : List PyData) (y : PyData) (Q : VK), Ok C g M H → RpCs C.K g.S H vs xs → f xs = some y →
  Post C E g H (.ok (.d y) M) (fun z g' _ H' => ∀ u, Rep C g' u z → Q u H') → r vs H Q
theorem opn_flat {f : List PyData → Option PyData} (hf : ∀ a z, f a = some z → (flat z).isSome = true) : Opn C E (rFn C.K f) f := fun g M H v x y Q o rx e p => by
  obtain ⟨w, hw⟩ := Option.isSome_iff_exists.mp (hf _ _ e)
  exact ⟨x, y, w, rx.rp o.ex, e, hw, p.here o w (flat_rp hw)⟩
def liftn (f : List PyData → Option PyData) (xs : List Val) (M : Store) : Res Val := match loads M xs with
  | some as => match f as with
    | some b => .ok (.d b) M
    | none => .stuck
  | none => .stuck
def eCB (f : List PyData → Option PyData) (mA : Sm (List Val)) : Sm Val := fun ρ M => (mA ρ M).bind (liftn f)
theorem liftn_at {f : List PyData → Option PyData} {r : List V → Hp → VK → Prop} (op : Opn C E r f) {xs : List Val} {vs : List V} {Q : VK} {M : Store} {g : G} {H : Hp} (o : Ok C g M H) (rx : Paired (RepW C g H) vs xs)
    (k : Post C E g H (liftn f xs M) (fun z g' _ H' => ∀ u, Rep C g' u z → Q u H')) : r vs H Q := by
  unfold liftn at k
  cases e : loads M xs with
  | none => rw [e] at k; exact k.elim
  | some a =>
    rw [e] at k
    simp only at k
    cases e3 : f a with
    | none => rw [e3] at k; exact k.elim
    | some c =>
      rw [e3] at k
      exact op g M H vs a c Q o (loads_rp o rx e) e3 k
theorem ev_cb {f : List PyData → Option PyData} {r : List V → Hp → VK → Prop} (op : Opn C E r f) (ha : EvAW C E tA mA) : EvE C E (tCB r tA) (eCB f mA) := fun H0 g M H σ ρ Q o r p =>
  ha H0 g M H σ ρ _ o r (p.bind.imp fun xs g' M' H' o' st k vs rs => liftn_at op o' rs k)
end
end Z

/-! Z, part 4: a def's promise where it is known which guards stand on the stack (none), and calls by it. -/
namespace Z
open PySem PySem.Spec PyProof.Rows L2

structure FnG (P : Program) (w : World) (K : PySem.W.Frag) (mg : Str → Option Value) (base : Heap) (k : Nat) (f : Addr) (fd : FuncData) (ps : List Str) (sp : Sp) : Prop where
  len : ∀ vs H Q E, sp vs H Q E → vs.length = ps.length
  go : ∀ (A : Around) (out : List Env) (s : Shared) (H : Hp) (args : Args) (us : List Value) (vs : List V) (Q : VK) (E : XK), A.guards = some [] → Room k A → Env0 P w K mg base A out s H →
    BindsTo s fd args (ps.zip us) → Vals vs us → sp vs H Q E → codeAny (model P w) A (.call (.ref f) args) (CR (L2N.CX P w) out P w H s Q E) s
theorem FnG.up {P : Program} {w : World} {K : PySem.W.Frag} {mg : Str → Option Value} {base : Heap} {j k : Nat} {f : Addr} {fd : FuncData} {ps : List Str} {sp : Sp} (F : FnG P w K mg base j f fd ps sp) (h : j ≤ k) : FnG P w K mg base k f fd ps sp :=
  ⟨F.len, fun A out s H args us vs Q E hg hr => F.go A out s H args us vs Q E hg (hr.mono h)⟩

section
variable {P : Program} {w : World} {K : PySem.W.Frag} {mg : Str → Option Value} {base : Heap}
/-- a def's body keeps the promise -/
theorem fnG_ofC {x qual : Str} {st : Stmt} {f : Addr} {fd : FuncData} {N ps : List Str} {k : Nat} {sp : Sp} (F : Fun K x qual st f fd) (S : FnScope N ps (defScope st)) (hlen : ∀ vs H Q E, sp vs H Q E → vs.length = ps.length)
    (body : ∀ (cd : Value) (A : Around) (out : List Env) (s : Shared) (H : Hp) (vs : List V) (Q : VK) (E : XK), fd.code = cd → A.guards = some [] → Room k (A.deeper (envOfC qual (defScope st) s.heap.objs.size f cd)) → sp vs H Q E →
      ∃ t, PSs (cxOf (L2N.CX P w) P w K mg base N qual (defScope st) f cd A out s H E) (defBody st) t ∧ t { nx := fun _ H' => Q .non H', rt := Q } (L2.start N vs) H) :
    FnG P w K mg base (k + 1) f fd ps sp := by
  obtain ⟨oc, od, kV, doc, pm, an, cd, ct, osl, e, look, code⟩ := F.ex
  subst e
  constructor
  · exact hlen
  intro A out s H args us vs Q E hg room en bd rv hp
  have hl := hlen _ _ _ _ hp
  have old : ∀ b o, base.get? b = some o → s.heap.get? b = some o := fun b o q => (en.bs b o q).1
  have kinds : ∀ y ∈ ps.zip us, (defScope st).names.lookup y.1 = some .local ∨ ((defScope st).names.lookup y.1 = some .cell ∧ ((cellsFrom (s.heap.objs.size + 1) (defScope st).names []).lookup y.1).isSome = true) := by
    rintro ⟨n, v⟩ hy
    rcases S.par n (List.of_mem_zip hy).1 with q | q
    · left; exact q
    · right; exact ⟨q, PySem.W.cellsFrom_some _ _ _ (.inl q)⟩
  refine codeAny_call_function room.depth ((en.mod.kin.keeps old) _ _ look) rfl S.co S.gen rfl (PySem.W.codeRec_of (en.mod.kin.keeps old) code) (bd _ _ _ _ ?_)
  refine wpAny_newFunctionEnv_cells S.kind kinds fun env ee s1 xx => ?_
  subst ee
  refine ⟨(en.mod.nolimit.keeps old).keeps xx.toInCall.keep, codeAny_func ?_⟩
  obtain ⟨t, ht, hq⟩ := body cd A out s H vs Q E rfl hg (room.deeper _) hp
  have J0 := inv_start (CX := L2N.CX P w) (E := E) S room.hd en hl rv xx
  refine wpAny_mono (ht.run [] s1 _ H _ J0 hq) ?_ (fun _ _ z => z)
  intro fl s' z
  cases fl with
  | ret u => obtain ⟨v, _, H', J, r, q⟩ := z; exact ⟨v, H', J.os, J.bare, J.base, J.hok, r, q⟩
  | next => obtain ⟨_, H', J, q⟩ := z; exact ⟨.non, H', J.os, J.bare, J.base, J.hok, rfl, q⟩
  | brk => obtain ⟨_, _, _, q⟩ := z; exact q.elim
  | cont => obtain ⟨_, _, _, q⟩ := z; exact q.elim
end

section
variable {X : Cx} {k : Nat} {f Cl : Addr} {fd : FuncData} {ps : List Str} {sp : Sp} {E : XK} {x m : Str} {p pos apos : Pos} {e o : Expr} {es : List Expr} {ta : TE} {t : TA}
abbrev Ps (X : Cx) (E : XK) : Prop := Passes (L2N.CX X.prog X.w) X E
theorem runG {pins : List (Addr × Obj)} {σ : L2.St} {H : Hp} {s : Shared} {Q : VK} {us : List Value} {vs : List V} (F : FnG X.prog X.w X.K X.mg X.base k f fd ps sp) (hg : X.A.guards = some []) (hr : Room k X.A) (hb : Binds X.K fd ps []) (hx : Ps X E)
    (I : Inv X pins σ H s) (r : Vals vs us) (h : sp vs H Q E) : wpAny (model X.prog X.w) X.A (call (.ref f) us) (EP X pins σ Q) X.xe s := by
  have n1 : us.length = ps.length := r.length.symm.trans (F.len _ _ _ _ h)
  have bb : BindsTo s fd ⟨us, []⟩ (ps.zip us) := by
    have := hb s us I.kIn (by simpa using n1)
    simpa using this
  refine wpAny_call (codeAny_mono (F.go _ _ _ _ _ _ _ _ _ hg hr I.env0 bb r h) ?_)
  intro res s' hq
  match res, hq with
  | .error ex, hq => exact hx pins σ H s ex s' I hq
  | .ok (.ret u), hq => exact I.after hq
theorem pe_callG (F : FnG X.prog X.w X.K X.mg X.base k f fd ps sp) (hgd : X.A.guards = some []) (hr : Room k X.A) (hg : Gl X x) (hm : X.mg x = some (.ref f)) (hk : PySem.W.keepIn X.K (.ref f) = true) (hb : Binds X.K fd ps []) (hx : Ps X E)
    (ha : PA X (e :: es) t) (hdb : (x == ("__debug__" : Str)) = false := by decide) (he : starEach (e :: es) X.env = (false, eval e X.env) :: starEach es X.env := by rfl)
    (hpl : (backTo pos (starEach es X.env)).any (·.1) = false := by rfl) : PE X (.Call (.Name x p) (e :: es) [] pos) (tCall sp [] E t) := by
  constructor
  intro pins s σ H Q I h
  refine wpAny_Call_Name_kw (ld_glob I hg hm (PySem.W.callWith_K (h₀ := X.base) I.ok.mod.kin hk (thn (ha.run pos pins s σ H _ I h) ?_) he hpl) hdb)
  rintro us s1 ⟨vs, H1, I1, r, q⟩
  refine ⟨I1.kIn, runG F hgd hr hb hx I1 r ?_⟩
  simpa using q
end
end Z

/-! Z, part 5: what is walked: a list or a tuple, by itself, under enumerate, two of them under zip. -/
namespace Z
open PySem PySem.Spec PyProof.Rows L2

/-- true: a list; false: a tuple -/
def sqK (k : Bool) (K : PySem.W.Frag) (H : Hp) (a : Addr) (xs : List V) : Prop := if k then SqL K H a xs else SqT K H a xs
def isK (k : Bool) (h : Heap) (a : Addr) (its : Array Value) : Prop := if k then h.IsList a its else h.IsTuple a its
def itK (k : Bool) (h : Heap) (it a : Addr) (i : Nat) : Prop := if k then h.IsListIter it a i else h.IsTupleIter it a i
theorem sqK_at {X : Cx} {pins : List (Addr × Obj)} {σ : L2.St} {H : Hp} {s : Shared} {k : Bool} {a : Addr} {xs : List V} (I : Inv X pins σ H s) (h : sqK k X.K H a xs) : ∃ its : List Value, Vals xs its ∧ isK k s.heap a its.toArray ∧ a < s.heap.objs.size := by
  cases k with
  | true =>
    obtain ⟨its, r, p, _⟩ := I.list h
    exact ⟨its, r, p.isList, p.lt⟩
  | false =>
    obtain ⟨its, r, p, _⟩ := I.tuple h
    exact ⟨its, r, p, p.lt⟩
theorem sqK_one {X : Cx} {pins : List (Addr × Obj)} {σ : L2.St} {H : Hp} {s : Shared} {k : Bool} {a : Addr} {xs ys : List V} (I : Inv X pins σ H s) (h : sqK k X.K H a xs) (h' : sqK k X.K H a ys) : xs = ys := by
  cases k with
  | true => exact I.list_inj h h'
  | false => exact I.tuple_inj h h'
theorem drawK {prog : Program} {w : World} {A : Around} (hh : A.handled = none) (k : Bool) (it a : Addr) (ne : a ≠ it) (items : Array Value) :
    Draws prog w A it [it, a] items.size (fun i v => items[i]? = some v) (fun i h => itK k h it a i ∧ isK k h a items) := by
  cases k with
  | true => exact Draws.list hh it a ne items
  | false => exact Draws.tuple hh it a ne items
theorem itK_obj {k : Bool} {h : Heap} {it a : Addr} {i : Nat} (x : itK k h it a i) : ∃ o, h.get? it = some o ∧ ∀ v, o.data ≠ .cell v := by
  cases k with
  | true => obtain ⟨o, e, _, d⟩ := x; exact ⟨o, e, fun v z => by rw [d] at z; cases z⟩
  | false => obtain ⟨o, e, _, d⟩ := x; exact ⟨o, e, fun v z => by rw [d] at z; cases z⟩
theorem itK_keep {k : Bool} {h h' : Heap} {it a : Addr} {i : Nat} (x : itK k h it a i) (e : ∀ o, h.get? it = some o → h'.get? it = some o) : itK k h' it a i := by
  cases k with
  | true => exact Heap.IsListIter.at x e
  | false => exact Heap.IsTupleIter.at x e
/-! zip(a, b) -/
def ItZ (K : PySem.W.Frag) (k1 k2 : Bool) (a b : Addr) : It where
  go := fun i H => ∃ xs ys x y, sqK k1 K H a xs ∧ sqK k2 K H b ys ∧ xs[i]? = some x ∧ ys[i]? = some y
  yld := fun i H v H' => ∃ T x y ob, v = .ref T ∧ H T = none ∧ H' = upd H T (.frz ob (.tup [x, y])) ∧ Obj.dict ob = none ∧ (∀ xs, sqK k1 K H a xs → xs[i]? = some x) ∧ ∀ ys, sqK k2 K H b ys → ys[i]? = some y
  stop := fun i H => ∃ xs ys, sqK k1 K H a xs ∧ sqK k2 K H b ys ∧ i = min xs.length ys.length
theorem isTuple_tup {h : Heap} {T : Addr} {x y : Value} (e : h.IsTuple T #[x, y]) : IsTup h T [x, y].toArray := by
  obtain ⟨o, h1, h2, n, h3⟩ := e
  exact ⟨o, h1, h2, n, h3⟩
/-- a turn of zip: the pair's object told -/
theorem zip_turn {prog : Program} {w : World} {A : Around} {elts : List Expr} {kk : Nat} {pos : Pos} {z TI TO i1 i2 : Addr} {fp1 fp2 : List Addr} {n1 n2 i : Nat} {P1 P2 : Nat → Value → Prop} {St1 St2 : Nat → Heap → Prop}
    (S : ZipSep2 z TI TO i1 i2 fp1 fp2) (D1 : Draws prog w A.in1 i1 fp1 n1 P1 St1) (D2 : Draws prog w A.in1 i2 fp2 n2 P2 St2) {s : Shared} {Q : Value → Shared → Prop} {E : Value → Shared → Prop} (l1 : i < n1) (l2 : i < n2)
    (hz : IsZip s.heap z TI TO .none) (hTI : IsTupOf2 s.heap TI (.ref i1) (.ref i2)) (hTO : ∃ a1 a2, IsTupOf2 s.heap TO a1 a2) (st1 : St1 i s.heap) (st2 : St2 i s.heap)
    (go : ∀ x y h' tk, P1 i x → P2 i y → IsTupOf2 h' s.heap.objs.size x y → IsZip h' z TI TO .none → IsTupOf2 h' TI (.ref i1) (.ref i2) → IsTupOf2 h' TO x y → St1 (i + 1) h' → St2 (i + 1) h' →
      (∀ b o, b ≠ z → b ≠ TO → b ≠ i1 → b ≠ i2 → s.heap.get? b = some o → h'.get? b = some o) → Q (.ref s.heap.objs.size) { s with heap := h', toks := tk }) :
    wpAny (model prog w) A (pyNext (.ref z)) (fun r s₁ => ∃ v, r = some v ∧ wpAny (model prog w) A (letOwnedTupleGo (.Tuple elts kk pos) (.ref z) v) (fun _ s₂ => Q v s₂) E s₁) E s := by
  obtain ⟨a1, a2, hTO⟩ := hTO
  refine wpAny_pyNext_zipD2_item S D1 D2 hz hTI hTO st1 st2 l1 l2 ?_
  intro x y h' tk px py gz gT s1 s2 gn _ hk
  refine ⟨_, rfl, wpAny_letOwnedTupleGo_zip gz ?_⟩
  intro h₂ z₂ k₂
  have ne : s.heap.objs.size ≠ z := Nat.ne_of_gt (Heap.lt_size hz)
  exact go x y h₂ tk px py (k₂.extBut _ _ ne gn) z₂ (k₂.extBut _ _ S.TIz (hk _ _ S.TIz S.TITO S.TIi1 S.TIi2 hTI)) (k₂.extBut _ _ S.TOz gT) (D1.over s1 k₂ S.zf1) (D2.over s2 k₂ S.zf2)
    fun b o b1 b2 b3 b4 e => k₂.extBut _ _ b1 (hk b o b1 b2 b3 b4 e)
theorem turnZ {P : Program} {w : World} {K : PySem.W.Frag} {elts : List Expr} {kk : Nat} {tpos : Pos} {k1 k2 : Bool} {a b z TI TO i1 i2 : Addr} (D : ZipSep2 z TI TO i1 i2 [i1, a] [i2, b]) (n1 : a ≠ i1) (n2 : b ≠ i2) :
    Turn P w K (.Tuple elts kk tpos) (ItZ K k1 k2 a b) [z, TI, TO, i1, i2] z
      (fun i h => IsZip h z TI TO .none ∧ IsTupOf2 h TI (.ref i1) (.ref i2) ∧ (∃ x y, IsTupOf2 h TO x y) ∧ itK k1 h i1 a i ∧ itK k2 h i2 b i) where
  mem := by simp
  obj := by
    rintro i h ⟨hz, q1, ⟨x, y, q2⟩, h1, h2⟩ c hc
    simp only [List.mem_cons, List.not_mem_nil, or_false] at hc
    rcases hc with rfl | rfl | rfl | rfl | rfl
    · exact ⟨_, hz, fun v q => nomatch q⟩
    · exact ⟨_, q1, fun v q => nomatch q⟩
    · exact ⟨_, q2, fun v q => nomatch q⟩
    · exact itK_obj h1
    · exact itK_obj h2
  keep := by
    rintro i h h' ⟨hz, hTI, ⟨x, y, hTO⟩, h1, h2⟩ kp
    exact ⟨kp z (by simp) _ hz, kp TI (by simp) _ hTI, ⟨x, y, kp TO (by simp) _ hTO⟩, itK_keep h1 (kp i1 (by simp)), itK_keep h2 (kp i2 (by simp))⟩
  item := by
    intro X eP ew eK hc i pins s σ H E I hf st hg
    subst eP ew eK
    obtain ⟨hz, hTI, hTO, h1, h2⟩ := st
    obtain ⟨xs, ys, x, y, sx, sy, ex, ey⟩ := hg
    obtain ⟨its, rv, p1, _⟩ := sqK_at I sx
    obtain ⟨jts, rw', p2, _⟩ := sqK_at I sy
    have hh : X.A.in1.handled = none := I.ok.hd hc
    have l1 : i < its.toArray.size := by
      have := (List.getElem?_eq_some_iff.mp ex).1
      rw [rv.length] at this; simpa using this
    have l2 : i < jts.toArray.size := by
      have := (List.getElem?_eq_some_iff.mp ey).1
      rw [rw'.length] at this; simpa using this
    refine zip_turn (i := i) D (drawK hh k1 i1 a n1 its.toArray) (drawK hh k2 i2 b n2 jts.toArray) l1 l2 hz hTI hTO ⟨h1, p1⟩ ⟨h2, p2⟩ ?_
    rintro u u' h' tk e1 e2 tup z' TI' TO' ⟨h1', _⟩ ⟨h2', _⟩ keep
    generalize hT : s.heap.objs.size = T at tup
    obtain ⟨w1, g1, r1⟩ := rv.get ex
    obtain ⟨w2, g2, r2⟩ := rw'.get ey
    have q1 : w1 = u := by rw [List.getElem?_toArray, g1] at e1; exact Option.some.inj e1
    have q2 : w2 = u' := by rw [List.getElem?_toArray, g2] at e2; exact Option.some.inj e2
    subst q1 q2
    have new : ObjOk X.prog X.w (upd H T (.frz { cls := .type "tuple", data := .seq #[w1, w2] } (.tup [x, y]))) h' T (.frz { cls := .type "tuple", data := .seq #[w1, w2] } (.tup [x, y])) := ⟨tup, by show 2 ≤ sizeLine; decide, [w1, w2], .cons r1 (.cons r2 .nil), ⟨_, tup, rfl, _, rfl⟩⟩
    have bigT : s.heap.objs.size ≤ T := by rw [hT]; exact Nat.le_refl _
    have J := I.turnedNew (t' := tk) (ch := [z, TI, TO, i1, i2]) (fun c o hb q => keep c o (fun m => hb (by simp [m])) (fun m => hb (by simp [m])) (fun m => hb (by simp [m])) (fun m => hb (by simp [m])) q) hf bigT new
    refine ⟨.ref T, _, J, rfl, ⟨T, x, y, _, rfl, I.hok.fresh bigT, rfl, rfl, fun l hl => by rw [sqK_one I hl sx]; exact ex, fun l hl => by rw [sqK_one I hl sy]; exact ey⟩, ⟨z', TI', ⟨_, _, TO'⟩, h1', h2'⟩, fun c hcm => ?_⟩
    have hlt : c < s.heap.objs.size := by
      have hcm' := hcm
      simp only [List.mem_cons, List.not_mem_nil, or_false] at hcm'
      rcases hcm' with rfl | rfl | rfl | rfl | rfl
      · exact Heap.lt_size hz
      · exact Heap.lt_size hTI
      · obtain ⟨_, _, q⟩ := hTO; exact Heap.lt_size q
      · obtain ⟨_, q, _⟩ := itK_obj h1; exact Heap.lt_size q
      · obtain ⟨_, q, _⟩ := itK_obj h2; exact Heap.lt_size q
    rw [upd_ne (Nat.ne_of_lt (Nat.lt_of_lt_of_le hlt bigT))]
    exact (hf c hcm).1
  done := by
    intro X eP ew eK hc i pins s σ H E I hf st hg
    subst eP ew eK
    obtain ⟨hz, hTI, hTO, h1, h2⟩ := st
    obtain ⟨xs, ys, sx, sy, ei⟩ := hg
    obtain ⟨its, rv, p1, _⟩ := sqK_at I sx
    obtain ⟨jts, rw', p2, _⟩ := sqK_at I sy
    have hh : X.A.in1.handled = none := I.ok.hd hc
    have W := GoesN.zip2 (prog := X.prog) (w := X.w) (A := X.A) (elts := elts) (x1 := kk) (pos := tpos) D (drawK hh k1 i1 a n1 its.toArray) (drawK hh k2 i2 b n2 jts.toArray)
    have en : i = min its.toArray.size jts.toArray.size := by
      rw [ei, rv.length, rw'.length]; simp
    rw [en] at h1 h2
    refine W.stops s _ E ⟨hz, hTI, hTO, ⟨h1, p1⟩, ⟨h2, p2⟩⟩ fun h' tk keep _ => ?_
    exact I.turnedL (t' := tk) (ch := [z, TI, TO, i1, i2]) (fun c o hb q => keep c o (fun m => hb (by
      simp only [List.mem_cons, List.not_mem_nil, or_false] at m ⊢
      rcases m with m | m | m | m <;> simp [m])) q) hf
  self := fun A i s Q E st h => wpAny_pyIter_zip st.1 h
def iZipK (K : PySem.W.Frag) (ta : TA) : TI := fun σ H R => ta σ H fun vs H1 => ∃ k1 k2 a b xs ys, vs = [.ref a, .ref b] ∧ sqK k1 K H1 a xs ∧ sqK k2 K H1 b ys ∧ R (ItZ K k1 k2 a b) H1
theorem begK (k : Bool) (a : Addr) (its : Array Value) : ∃ o : Obj, Begins (.ref a) o (fun h => isK k h a its) ∧ ∀ (h : Heap) (it : Addr), h.get? it = some o → itK k h it a 0 := by
  cases k with
  | true => exact ⟨_, begins_list a its, fun h it e => ⟨_, e, rfl, rfl⟩⟩
  | false => exact ⟨_, begins_tuple a its, fun h it e => ⟨_, e, rfl, rfl⟩⟩
theorem pi_zipK {X : Cx} {e e2 : Expr} {ta : TA} {p pos tpos : Pos} {elts : List Expr} {kk : Nat} (hg : Gl X "zip") (hm : X.mg "zip" = none) (ha : PA X [e, e2] ta)
    (hs : starEach [e, e2] X.env = (false, eval e X.env) :: starEach [e2] X.env := by rfl) (hpl : (backTo pos (starEach [e2] X.env)).any (·.1) = false := by rfl) :
    PI X (.Tuple elts kk tpos) (.Call (.Name "zip" p) [e, e2] [] pos) (iZipK X.K ta) := by
  constructor
  intro pins s σ H R I h
  refine Call_ (ld_blt I hg hm PyProof.Rows.boot_zip (PyProof.Rows.callWith_type1 (thn (ha.run pos pins s σ H _ I h) ?_) hs hpl))
  rintro us s1 ⟨vs, H1, I1, r, k1, k2, a, b, xs, ys, rfl, sx, sy, q⟩
  match us, r with
  | [_, _], .cons ra (.cons rb .nil) =>
  cases ra; cases rb
  obtain ⟨its, rv, p1, la⟩ := sqK_at I1 sx
  obtain ⟨jts, rw', p2, lb⟩ := sqK_at I1 sy
  obtain ⟨o1, B1, b1⟩ := begK k1 a its.toArray
  obtain ⟨o2, B2, b2⟩ := begK k2 b jts.toArray
  refine zip_begins2 B1 B2 p1 p2 fun h' hz hTI hTO h1 h2 hsz hk => wpAny_pyIter_zip hz ?_
  have D : ZipSep2 (s1.heap.objs.size + 4) (s1.heap.objs.size + 2) (s1.heap.objs.size + 3) s1.heap.objs.size (s1.heap.objs.size + 1) [s1.heap.objs.size, a] [s1.heap.objs.size + 1, b] :=
    zip_sep2 (fp1 := [a]) (fp2 := [b]) (by simpa using la) (by simpa using lb)
  refine ⟨s1.heap.objs.size + 4, [s1.heap.objs.size + 4, s1.heap.objs.size + 2, s1.heap.objs.size + 3, s1.heap.objs.size, s1.heap.objs.size + 1], _, _, H1, rfl, I1.kept (t' := s1.toks) hk, turnZ D (Nat.ne_of_lt la) (Nat.ne_of_lt (Nat.lt_succ_of_lt lb)),
    ⟨hz, hTI, ⟨_, _, hTO⟩, b1 _ _ h1, b2 _ _ h2⟩, fun c hcm => ?_, q⟩
  have hle : s1.heap.objs.size ≤ c := by
    simp only [List.mem_cons, List.not_mem_nil, or_false] at hcm
    rcases hcm with rfl | rfl | rfl | rfl | rfl
    · exact Nat.le_add_right _ _
    · exact Nat.le_add_right _ _
    · exact Nat.le_add_right _ _
    · exact Nat.le_refl _
    · exact Nat.le_add_right _ _
  exact I1.fpOk hle (I1.hok.fresh hle)

/-! enumerate(a) -/
theorem meets_enum1 {v : Value} {o : Obj} {Hh : Heap → Prop} (B : Begins v o Hh) :
    Meets (Builtin.«enumerate.__new__» ⟨[.type "enumerate", v], []⟩) (fun _ R s => Hh s.heap ∧
      R (.ok (.ret (.ref (s.heap.push o).objs.size))) { s with heap := (s.heap.push o).push { cls := .type "enumerate", data := .fields #[.none, .bool false, .ref s.heap.objs.size, rawInt 0, .none, .none] } }) := by
  refine .of_wp ?_
  intro prog w A R s h
  obtain ⟨hp, g, d, tk, os⟩ := s
  obtain ⟨h1, h⟩ := h
  have hsub := sub_enumerate
  have go : ∀ {A' : Around} {E : Value → Shared → Prop} {Q : Value → Shared → Prop}, Q (.ref hp.objs.size) ⟨hp.push o, g, d, tk, os⟩ → wpAny (model prog w) A' (pyIter v) Q E ⟨hp, g, d, tk, os⟩ :=
    fun q => B.iter prog w _ _ ⟨hp, g, d, tk, os⟩ _ h1 q
  wp_walk using go
  refine wpAny_stack_any fun st => wpAny_pure ?_
  split
  · rename_i c _ _ _ _ _
    cases (c == Value.type "enumerate") <;> (wp_walk using go; exact ⟨_, rfl, h⟩)
  · wp_walk using go
    exact ⟨_, rfl, h⟩
theorem enum1 {prog : Program} {w : World} {A : Around} {E : Value → Shared → Prop} {s : Shared} {v : Value} {o : Obj} {Hh : Heap → Prop} {Q : Value → Shared → Prop} (B : Begins v o Hh) (h1 : Hh s.heap)
    (h : ∀ h', IsEnum h' (s.heap.objs.size + 1) s.heap.objs.size 0 .none → h'.get? s.heap.objs.size = some o → (∀ b o, s.heap.get? b = some o → h'.get? b = some o) → Q (.ref (s.heap.objs.size + 1)) { s with heap := h' }) :
    wpAny (model prog w) A (call (.type "enumerate") [v]) Q E s := by
  refine callType_new F.called_enumerate (by decide) (F.typeCall_enumerate_1 _) (F.newCall_enumerate_1 _) (fun obj => F.args_object_init_2 obj _) F.entry_enumerate_new (meets_enum1 B) ⟨h1, ?_⟩
  have hz : (s.heap.push o).objs.size = s.heap.objs.size + 1 := Heap.size_push ..
  show _ ∧ _
  rw [hz]
  have he := Heap.get?_push_size (s.heap.push o) (o := { cls := .type "enumerate", data := .fields #[.none, .bool false, .ref s.heap.objs.size, rawInt 0, .none, .none] }) rfl
  rw [hz] at he
  exact ⟨⟨_, he, rfl⟩, h _ he (Heap.get?_push_of_some _ (Heap.get?_push_size _ B.free)) fun b o x => Heap.get?_push_of_some _ (Heap.get?_push_of_some _ x)⟩
def ItE (K : PySem.W.Frag) (k : Bool) (a : Addr) : It where
  go := fun i H => ∃ xs x, sqK k K H a xs ∧ xs[i]? = some x
  yld := fun i H v H' => ∃ T x, v = .ref T ∧ H T = none ∧ H' = upd H T (.tup [.int (i : Nat), x]) ∧ ∀ xs, sqK k K H a xs → xs[i]? = some x
  stop := fun i H => ∃ xs, sqK k K H a xs ∧ i = xs.length
theorem turnE {P : Program} {w : World} {K : PySem.W.Frag} {elts : List Expr} {kk : Nat} {tpos : Pos} {k : Bool} {a e it : Addr} (n1 : a ≠ it) (n2 : e ≠ it) (n3 : e ≠ a) :
    Turn P w K (.Tuple elts kk tpos) (ItE K k a) [e, it] e (fun i h => (∃ old, IsEnum h e it (0 + ((i : Nat) : Int)) old) ∧ itK k h it a i) where
  mem := by simp
  obj := by
    rintro i h ⟨⟨old, he⟩, h1⟩ c hc
    simp only [List.mem_cons, List.not_mem_nil, or_false] at hc
    rcases hc with rfl | rfl
    · exact ⟨_, he, fun v q => nomatch q⟩
    · exact itK_obj h1
  keep := by
    rintro i h h' ⟨⟨old, he⟩, h1⟩ kp
    exact ⟨⟨old, kp e (by simp) _ he⟩, itK_keep h1 (kp it (by simp))⟩
  item := by
    intro X eP ew eK hc i pins s σ H E I hf st hg
    subst eP ew eK
    obtain ⟨he, h1⟩ := st
    obtain ⟨xs, x, sx, ex⟩ := hg
    obtain ⟨its, rv, p1, _⟩ := sqK_at I sx
    have hh : X.A.in1.handled = none := I.ok.hd hc
    have W := GoesN.enumFrom (prog := X.prog) (w := X.w) (A := X.A) (elts := elts) (x1 := kk) (pos := tpos) 0 (drawK hh k it a n1 its.toArray) e n2 (by simp [n2, n3]) (by simp)
    have l1 : i < its.toArray.size := by
      have := (List.getElem?_eq_some_iff.mp ex).1
      rw [rv.length] at this; simpa using this
    refine W.goes i s _ E l1 ⟨he, ⟨h1, p1⟩⟩ ?_
    rintro v h' tk ⟨T, t, u, rfl, big, e1, tup⟩ ⟨he', ⟨h1', _⟩⟩ keep _
    obtain ⟨w1, g1, r1⟩ := rv.get ex
    have q1 : w1 = u := by rw [List.getElem?_toArray, g1] at e1; exact Option.some.inj e1
    subst q1
    have z0 : (0 : Int) + ((i : Nat) : Int) = ((i : Nat) : Int) := Int.zero_add _
    rw [z0] at tup
    have new : ObjOk X.prog X.w (upd H T (.tup [.int (i : Nat), x])) h' T (.tup [.int (i : Nat), x]) := ⟨by show 2 ≤ sizeLine; decide, [.int (i : Nat) t, w1], .cons ⟨_, rfl⟩ (.cons r1 .nil), isTuple_tup tup⟩
    have J := I.turnedNew (t' := tk) (ch := [e, it]) (fun c o hb q => keep c o hb q) hf big new
    refine ⟨.ref T, _, J, rfl, ⟨T, x, rfl, I.hok.fresh big, rfl, fun l hl => by rw [sqK_one I hl sx]; exact ex⟩, ⟨he', h1'⟩, fun c hcm => ?_⟩
    have hlt : c < s.heap.objs.size := by
      have hcm' := hcm
      simp only [List.mem_cons, List.not_mem_nil, or_false] at hcm'
      rcases hcm' with rfl | rfl
      · obtain ⟨_, q⟩ := he; exact Heap.lt_size q
      · obtain ⟨_, q, _⟩ := itK_obj h1; exact Heap.lt_size q
    rw [upd_ne (Nat.ne_of_lt (Nat.lt_of_lt_of_le hlt big))]
    exact (hf c hcm).1
  done := by
    intro X eP ew eK hc i pins s σ H E I hf st hg
    subst eP ew eK
    obtain ⟨he, h1⟩ := st
    obtain ⟨xs, sx, ei⟩ := hg
    obtain ⟨its, rv, p1, _⟩ := sqK_at I sx
    have hh : X.A.in1.handled = none := I.ok.hd hc
    have W := GoesN.enumFrom (prog := X.prog) (w := X.w) (A := X.A) (elts := elts) (x1 := kk) (pos := tpos) 0 (drawK hh k it a n1 its.toArray) e n2 (by simp [n2, n3]) (by simp)
    have en : i = its.toArray.size := by rw [ei, rv.length]; simp
    rw [en] at h1 he
    exact W.stops s _ E ⟨he, ⟨h1, p1⟩⟩ fun h' tk keep _ => I.turnedL (t' := tk) (ch := [e, it]) (fun c o hb q => keep c o hb q) hf
  self := fun A i s Q E st h => let ⟨⟨_, he⟩, _⟩ := st; wpAny_pyIter_enum he h
def iEnumK (K : PySem.W.Frag) (ta : TA) : TI := fun σ H R => ta σ H fun vs H1 => ∃ k a xs, vs = [.ref a] ∧ sqK k K H1 a xs ∧ R (ItE K k a) H1
theorem pi_enumK {X : Cx} {e : Expr} {ta : TA} {p pos tpos : Pos} {elts : List Expr} {kk : Nat} (hg : Gl X "enumerate") (hm : X.mg "enumerate" = none) (ha : PA X [e] ta) (hs : starEach [e] X.env = [(false, eval e X.env)] := by rfl) :
    PI X (.Tuple elts kk tpos) (.Call (.Name "enumerate" p) [e] [] pos) (iEnumK X.K ta) := by
  constructor
  intro pins s σ H R I h
  refine Call_ (ld_blt I hg hm boot_enumerate (PyProof.Rows.callWith_type1 (thn (ha.run pos pins s σ H _ I h) ?_) hs rfl))
  rintro us s1 ⟨vs, H1, I1, r, k, a, xs, rfl, sx, q⟩
  match us, r with
  | [_], .cons ra .nil =>
  cases ra
  obtain ⟨its, rv, p1, la⟩ := sqK_at I1 sx
  obtain ⟨o1, B1, b1⟩ := begK k a its.toArray
  refine enum1 B1 p1 fun h' he h1 hk => wpAny_pyIter_enum he ?_
  refine ⟨s1.heap.objs.size + 1, [s1.heap.objs.size + 1, s1.heap.objs.size], _, _, H1, rfl, I1.kept (t' := s1.toks) hk, turnE (Nat.ne_of_lt la) (Nat.succ_ne_self _) (Nat.ne_of_gt (Nat.lt_succ_of_lt la)), ⟨⟨.none, he⟩, b1 _ _ h1⟩, fun c hcm => ?_, q⟩
  have hle : s1.heap.objs.size ≤ c := by
    simp only [List.mem_cons, List.not_mem_nil, or_false] at hcm
    rcases hcm with rfl | rfl
    · exact Nat.le_add_right _ _
    · exact Nat.le_refl _
  exact I1.fpOk hle (I1.hok.fresh hle)

/-! a list or a tuple by itself -/
def ItS (K : PySem.W.Frag) (k : Bool) (a : Addr) : It := if k then Itl K a else Itt K a
def iSeq (K : PySem.W.Frag) (te : TE) : TI := fun σ H R => te σ H fun v H1 => ∃ k a xs, v = .ref a ∧ sqK k K H1 a xs ∧ R (ItS K k a) H1
theorem pi_seq {X : Cx} {tg l : Expr} {te : TE} (hl : PE X l te) : PI X tg l (iSeq X.K te) := by
  constructor
  intro pins s σ H R I h
  refine thn (hl.run pins s σ H _ I h) ?_
  rintro u s1 ⟨v, H1, I1, r, k, a, xs, rfl, sx, q⟩
  cases r
  have fp : FpOk X pins H1 s1.heap.objs.size := I1.fpOk (Nat.le_refl _) (I1.hok.fresh (Nat.le_refl _))
  cases k with
  | true =>
    obtain ⟨its, rv, p1, la⟩ := sqK_at I1 sx
    refine wpAny_pyIter_list p1 ?_
    exact ⟨s1.heap.objs.size, [s1.heap.objs.size], _, _, H1, rfl, I1.kept (t' := s1.toks) (fun b o e => Heap.get?_push_of_some _ e), turn_list a s1.heap.objs.size, ⟨_, Heap.get?_push_size _ rfl, rfl, rfl⟩, by simpa using fp, q⟩
  | false =>
    obtain ⟨its, rv, p1, la⟩ := sqK_at I1 sx
    refine wpAny_pyIter_tuple p1 ?_
    exact ⟨s1.heap.objs.size, [s1.heap.objs.size], _, _, H1, rfl, I1.kept (t' := s1.toks) (fun b o e => Heap.get?_push_of_some _ e), turn_tuple a s1.heap.objs.size, ⟨_, Heap.get?_push_size _ rfl, rfl, rfl⟩, by simpa using fp, q⟩
end Z

/-! Z, part 6: sources of loops, targets, comprehensions. -/
namespace Z
open PySem PySem.Spec PyProof.Rows L2

structure Gle (g g' : G) : Prop where
  pre : ∃ r, g'.phi = g.phi ++ r
  ex : Same g.S g'.S
section
variable {C : Ctx} {E : XK} {g g' g2 g0 : G} {H H' H0 : Hp} {M M' : Store}
theorem Step.le (s : Step g H g' H') : Gle g g' := ⟨s.pre, s.ex⟩
theorem Gle.refl (g : G) : Gle g g := ⟨⟨[], by simp⟩, Same.refl _⟩
theorem Gle.trans (a : Gle g g') (b : Gle g' g2) : Gle g g2 := by
  obtain ⟨⟨r, e⟩, x⟩ := a
  obtain ⟨⟨q, f⟩, y⟩ := b
  exact ⟨⟨r ++ q, by rw [f, e, List.append_assoc]⟩, x.trans y⟩
theorem Rep.le (s : Gle g g') {v : V} : ∀ {x : Val}, Rep C g v x → Rep C g' v x
  | .d x, h => Rp.mono s.ex x v h
  | .ref n, ⟨a, h1, h2⟩ => by
    obtain ⟨⟨r, e⟩, _⟩ := s
    exact ⟨a, by rw [e, List.getElem?_append_left (List.getElem?_eq_some_iff.mp h1).1]; exact h1, h2⟩
  | .scr ns, ⟨a, h1, h2⟩ => ⟨a, h1, sqlMono s.ex h2⟩

/-! ### sources -/
inductive Src where
  | one (k : Bool) (x : Val)
  | rng (lo c : Int) (n : Nat)
  | enum (k : Bool) (x : Val)
  | zip (k1 k2 : Bool) (x y : Val)
  | str (a : Str)
/-- the signs of a text, each a text -/
def charsS (a : Str) : List Str := a.cps.toList.map fun c => ⟨#[c]⟩
def itemsK (M : Store) : Bool → Val → Option (List Val)
  | true, .d (.list ds) => some (ds.map Val.d)
  | false, .d (.tuple ds) => some (ds.map Val.d)
  | true, .ref n => match M[n]? with
    | some (.lst xs) => some xs
    | _ => none
  | false, .ref n => match M[n]? with
    | some (.tup xs) => some xs
    | _ => none
  | _, _ => none
@[simp] theorem itemsK_l (M : Store) (ds : List PyData) : itemsK M true (.d (.list ds)) = some (ds.map Val.d) := rfl
@[simp] theorem itemsK_t (M : Store) (ds : List PyData) : itemsK M false (.d (.tuple ds)) = some (ds.map Val.d) := rfl
def kindV (M : Store) : Val → Option Bool
  | .d (.list _) => some true
  | .d (.tuple _) => some false
  | .ref n => match M[n]? with
    | some (.lst _) => some true
    | some (.tup _) => some false
    | _ => none
  | _ => none
@[simp] theorem kindV_l (M : Store) (ds : List PyData) : kindV M (.d (.list ds)) = some true := rfl
@[simp] theorem kindV_t (M : Store) (ds : List PyData) : kindV M (.d (.tuple ds)) = some false := rfl
/-- none: no such turn is told of; some none: the end -/
def Src.at (M : Store) (i : Nat) : Src → Option (Option Val)
  | .one k x => (itemsK M k x).map fun xs => xs[i]?
  | .rng lo c n => some (if i < n then some (.d (.int (lo + (i : Int) * c))) else none)
  | .enum k x => match itemsK M k x with
    | some xs => if i = xs.length then some none else match xs[i]? with
      | some (.d y) => some (some (.d (.tuple [.int (i : Int), y])))
      | _ => none
    | none => none
  | .zip k1 k2 x y => match itemsK M k1 x, itemsK M k2 y with
    | some xs, some ys => if i = min xs.length ys.length then some none else match xs[i]?, ys[i]? with
      | some (.d a), some (.d b) => some (some (.d (.tuple [a, b])))
      | _, _ => none
    | _, _ => none
  | .str a => some ((charsS a)[i]?.map fun s => .d (.str s))
def Src.len (M : Store) : Src → Nat
  | .one k x => ((itemsK M k x).getD []).length
  | .rng _ _ n => n
  | .enum k x => ((itemsK M k x).getD []).length
  | .zip k1 k2 x y => min ((itemsK M k1 x).getD []).length ((itemsK M k2 y).getD []).length
  | .str a => (charsS a).length
theorem itemsK_rep {k : Bool} {a : Addr} {x : Val} {xs : List Val} (o : Ok C g M H) (r : Rep C g (.ref a) x) (e : itemsK M k x = some xs) : ∃ vs, sqK k C.K H a vs ∧ Reps C g vs xs := by
  cases x with
  | scr ns => cases k <;> cases e
  | d x =>
    have r : Rp C.K g.S (.ref a) x := r
    cases k <;> cases x <;> simp [itemsK] at e
    · subst e
      cases r with
      | tup h1 h2 => exact ⟨_, sqtMono o.ex h1.1, reps_of h2⟩
    · subst e
      cases r with
      | lst h1 h2 => exact ⟨_, SqL.of (o.ex _ _ h1), reps_of h2⟩
  | ref n =>
    obtain ⟨b, h1, h2⟩ := r
    cases h2
    cases k with
    | true =>
      have e : (match M[n]? with
        | some (.lst xs) => some xs
        | _ => none) = some xs := e
      cases hm : M[n]? with
      | none => rw [hm] at e; cases e
      | some nd =>
        rw [hm] at e
        cases nd <;> simp at e
        subst e
        obtain ⟨vs, k1, k2⟩ := o.node n _ _ h1 hm
        exact ⟨vs, SqL.of k1, k2⟩
    | false =>
      have e : (match M[n]? with
        | some (.tup xs) => some xs
        | _ => none) = some xs := e
      cases hm : M[n]? with
      | none => rw [hm] at e; cases e
      | some nd =>
        rw [hm] at e
        cases nd <;> simp at e
        subst e
        obtain ⟨vs, k1, k2⟩ := o.node n _ _ h1 hm
        exact ⟨vs, .inl k1, k2⟩
theorem reps_getX {vs : List V} {xs : List Val} {i : Nat} {x : Val} (h : Reps C g vs xs) (e : xs[i]? = some x) : ∃ v, vs[i]? = some v ∧ Rep C g v x := by
  induction h generalizing i with
  | nil => simp at e
  | cons h1 h2 ih =>
    cases i with
    | zero => simp at e; subst e; exact ⟨_, rfl, h1⟩
    | succ i => simpa using ih (by simpa using e)
/-- an iterator of the machine, a source of ours -/
inductive SrcJ (C : Ctx) (g : G) : It → Src → Prop
  | one {k : Bool} {a : Addr} {x : Val} : Rep C g (.ref a) x → SrcJ C g (ItS C.K k a) (.one k x)
  | rng1 {lo : Int} {n : Nat} : SrcJ C g (Itr lo n) (.rng lo 1 n)
  | rngC {lo c : Int} {n : Nat} : SrcJ C g (Itc lo c n) (.rng lo c n)
  | enum {k : Bool} {a : Addr} {x : Val} : Rep C g (.ref a) x → SrcJ C g (ItE C.K k a) (.enum k x)
  | zip {k1 k2 : Bool} {a b : Addr} {x y : Val} : Rep C g (.ref a) x → Rep C g (.ref b) y → SrcJ C g (ItZ C.K k1 k2 a b) (.zip k1 k2 x y)
  | str {a : Str} : SrcJ C g (Its a) (.str a)
theorem SrcJ.le {J : It} {s : Src} (h : SrcJ C g J s) (l : Gle g g') : SrcJ C g' J s := by
  cases h with
  | one r => exact .one (r.le l)
  | rng1 => exact .rng1
  | rngC => exact .rngC
  | enum r => exact .enum (r.le l)
  | zip r q => exact .zip (r.le l) (q.le l)
  | str => exact .str
theorem SrcJ.stop {J : It} {s : Src} {i : Nat} (h : SrcJ C g J s) (o : Ok C g M H) (e : s.at M i = some none) : J.stop i H := by
  cases h with
  | @one k a x r =>
    simp only [Src.at] at e
    cases hx : itemsK M k x with
    | none => rw [hx] at e; cases e
    | some xs =>
      rw [hx] at e
      obtain ⟨vs, h1, h2⟩ := itemsK_rep o r hx
      have e : xs[i]? = none := by simpa using e
      have hl := Paired.length h2
      have := List.getElem?_eq_none_iff.mp e
      cases k with
      | true => exact ⟨vs, h1, by rw [hl]; exact this⟩
      | false => exact ⟨vs, h1, by rw [hl]; exact this⟩
  | @rng1 lo n =>
    simp only [Src.at] at e
    show n ≤ i
    split at e
    · cases e
    · omega
  | @rngC lo c n =>
    simp only [Src.at] at e
    show n ≤ i
    split at e
    · cases e
    · omega
  | @enum k a x r =>
    simp only [Src.at] at e
    cases hx : itemsK M k x with
    | none => rw [hx] at e; cases e
    | some xs =>
      rw [hx] at e
      obtain ⟨vs, h1, h2⟩ := itemsK_rep o r hx
      have hl := Paired.length h2
      simp only at e
      split at e
      · rename_i hi
        exact ⟨vs, h1, by rw [hl]; exact hi⟩
      · split at e <;> cases e
  | @zip k1 k2 a b x y r q =>
    simp only [Src.at] at e
    cases hx : itemsK M k1 x with
    | none => rw [hx] at e; cases e
    | some xs =>
      cases hy : itemsK M k2 y with
      | none => rw [hx, hy] at e; cases e
      | some ys =>
        rw [hx, hy] at e
        obtain ⟨vs, h1, h2⟩ := itemsK_rep o r hx
        obtain ⟨us, h3, h4⟩ := itemsK_rep o q hy
        have hl := Paired.length h2
        have hl2 := Paired.length h4
        simp only at e
        split at e
        · rename_i hi
          exact ⟨vs, us, h1, h3, by rw [hl, hl2]; exact hi⟩
        · split at e <;> cases e
  | @str a =>
    simp only [Src.at, charsS] at e
    show a.cps.size ≤ i
    have e := Option.some.inj e
    rw [Option.map_eq_none_iff, List.getElem?_eq_none_iff] at e
    simpa using e
theorem SrcJ.turn {J : It} {s : Src} {i : Nat} {x : Val} (h : SrcJ C g J s) (o : Ok C g M H) (e : s.at M i = some (some x)) :
    J.go i H ∧ ∀ v H', J.yld i H v H' → ∃ g', Ok C g' M H' ∧ Step g H g' H' ∧ Rep C g' v x := by
  cases h with
  | @one k a y r =>
    simp only [Src.at] at e
    cases hx : itemsK M k y with
    | none => rw [hx] at e; cases e
    | some xs =>
      rw [hx] at e
      obtain ⟨vs, h1, h2⟩ := itemsK_rep o r hx
      have e : xs[i]? = some x := by simpa using e
      obtain ⟨w, e1, e2⟩ := reps_getX h2 e
      cases k with
      | true =>
        refine ⟨⟨vs, w, h1, e1⟩, fun v H' ⟨q1, q2⟩ => ?_⟩
        subst q1
        have := q2 vs h1
        rw [e1] at this
        cases this
        exact ⟨g, o, Step.refl _ _, e2⟩
      | false =>
        refine ⟨⟨vs, w, h1, e1⟩, fun v H' ⟨q1, q2⟩ => ?_⟩
        subst q1
        have := q2 vs h1
        rw [e1] at this
        cases this
        exact ⟨g, o, Step.refl _ _, e2⟩
  | @rng1 lo n =>
    simp only [Src.at] at e
    split at e
    · rename_i hi
      cases e
      refine ⟨hi, fun v H' ⟨q1, q2⟩ => ?_⟩
      subst q1 q2
      exact ⟨g, o, Step.refl _ _, by rw [Int.mul_one]; exact .int _⟩
    · cases e
  | @rngC lo c n =>
    simp only [Src.at] at e
    split at e
    · rename_i hi
      cases e
      refine ⟨hi, fun v H' ⟨q1, q2⟩ => ?_⟩
      subst q1 q2
      exact ⟨g, o, Step.refl _ _, .int _⟩
    · cases e
  | @enum k a y r =>
    simp only [Src.at] at e
    cases hx : itemsK M k y with
    | none => rw [hx] at e; cases e
    | some xs =>
      rw [hx] at e
      obtain ⟨vs, h1, h2⟩ := itemsK_rep o r hx
      simp only at e
      split at e
      · cases e
      · split at e
        · rename_i z hz
          cases e
          obtain ⟨w, e1, e2⟩ := reps_getX h2 hz
          refine ⟨⟨vs, w, h1, e1⟩, fun v H' ⟨T, u, q0, q1, q2, q3⟩ => ?_⟩
          have := q3 vs h1
          rw [e1] at this
          cases this
          subst q0 q2
          have nw := o.newS (o := .tup [.int (i : Nat), w]) q1
          exact ⟨_, nw.1, nw.2, .tup (.weak rfl) (.cons (.int _) (.cons (Rp.mono nw.2.ex _ _ e2) .nil))⟩
        · cases e
  | @zip k1 k2 a b y y' r q =>
    simp only [Src.at] at e
    cases hx : itemsK M k1 y with
    | none => rw [hx] at e; cases e
    | some xs =>
      cases hy : itemsK M k2 y' with
      | none => rw [hx, hy] at e; cases e
      | some ys =>
        rw [hx, hy] at e
        obtain ⟨vs, h1, h2⟩ := itemsK_rep o r hx
        obtain ⟨us, h3, h4⟩ := itemsK_rep o q hy
        simp only at e
        split at e
        · cases e
        · split at e
          · rename_i z1 z2 hz1 hz2
            cases e
            obtain ⟨w, e1, e2⟩ := reps_getX h2 hz1
            obtain ⟨w', e1', e2'⟩ := reps_getX h4 hz2
            refine ⟨⟨vs, us, w, w', h1, h3, e1, e1'⟩, fun v H' ⟨T, u, u', ob, q0, q1, q2, qd, q3, q4⟩ => ?_⟩
            have := q3 vs h1
            rw [e1] at this
            cases this
            have := q4 us h3
            rw [e1'] at this
            cases this
            subst q0 q2
            have nw := o.newS (o := .frz ob (.tup [w, w'])) q1
            exact ⟨_, nw.1, nw.2, .tup (.new qd) (.cons (Rp.mono nw.2.ex _ _ e2) (.cons (Rp.mono nw.2.ex _ _ e2') .nil))⟩
          · cases e
  | @str a =>
    simp only [Src.at, charsS] at e
    have e := Option.some.inj e
    obtain ⟨s, e1, rfl⟩ := Option.map_eq_some_iff.mp e
    rw [List.getElem?_map] at e1
    obtain ⟨c, e2, rfl⟩ := Option.map_eq_some_iff.mp e1
    rw [Array.getElem?_toList] at e2
    refine ⟨(Array.getElem?_eq_some_iff.mp e2).1, fun v H' ⟨q1, c', q2, q3⟩ => ?_⟩
    subst q1 q3
    rw [e2] at q2
    cases q2
    exact ⟨g, o, Step.refl _ _, .str _⟩
def EvI (C : Ctx) (E : XK) (wi : TI) (m : Sm Src) : Prop := ∀ (H0 : Hp) (g : G) (M : Store) (H : Hp) (σ : L2.St) (ρ : Rho) (R : It → Hp → Prop), Ok C g M H → RSt C H0 g H σ ρ →
  Post C E g H (m ρ M) (fun s g' _ H' => ∀ J, SrcJ C g' J s → R J H') → wi σ H R
section
variable {te : TE} {m : Sm Val} {tA : TA} {mA : Sm (List Val)}
def sOne (m : Sm Val) : Sm Src := fun ρ M => (m ρ M).bind fun x M1 => match kindV M1 x with
  | some k => .ok (.one k x) M1
  | none => .stuck
def sEnum (mA : Sm (List Val)) : Sm Src := fun ρ M => (mA ρ M).bind fun xs M1 => match xs with
  | [x] => match kindV M1 x with
    | some k => .ok (.enum k x) M1
    | none => .stuck
  | _ => .stuck
def sZip (mA : Sm (List Val)) : Sm Src := fun ρ M => (mA ρ M).bind fun xs M1 => match xs with
  | [x, y] => match kindV M1 x, kindV M1 y with
    | some k1, some k2 => .ok (.zip k1 k2 x y) M1
    | _, _ => .stuck
  | _ => .stuck
def inR (j : Int) : Bool := decide (-(2 ^ 62) ≤ j) && decide (j < 2 ^ 62)
def sRng1 (mA : Sm (List Val)) : Sm Src := fun ρ M => (mA ρ M).bind fun xs M1 => match xs with
  | [.d (.int j)] => if inR j = true then .ok (.rng 0 1 j.toNat) M1 else .stuck
  | _ => .stuck
theorem kindV_rep {x : Val} {v : V} {k : Bool} (o : Ok C g M H) (r : Rep C g v x) (e : kindV M x = some k) : ∃ a vs, v = .ref a ∧ sqK k C.K H a vs := by
  cases x with
  | scr ns => cases e
  | d x =>
    have r : Rp C.K g.S v x := r
    cases x <;> simp [kindV] at e
    · subst e
      cases r with
      | lst h1 h2 => exact ⟨_, _, rfl, SqL.of (o.ex _ _ h1)⟩
    · subst e
      cases r with
      | tup h1 h2 => exact ⟨_, _, rfl, sqtMono o.ex h1.1⟩
  | ref n =>
    obtain ⟨b, h1, h2⟩ := r
    have e : (match M[n]? with
      | some (.lst _) => some true
      | some (.tup _) => some false
      | _ => none) = some k := e
    cases hm : M[n]? with
    | none => rw [hm] at e; cases e
    | some nd =>
      rw [hm] at e
      cases nd <;> simp at e
      · subst e
        obtain ⟨vs, k1, k2⟩ := o.node n _ _ h1 hm
        exact ⟨b, vs, h2, SqL.of k1⟩
      · subst e
        obtain ⟨vs, k1, k2⟩ := o.node n _ _ h1 hm
        exact ⟨b, vs, h2, .inl k1⟩
theorem ei_one (h : EvE C E te m) : EvI C E (iSeq C.K te) (sOne m) := fun H0 g M H σ ρ R o r p =>
  h H0 g M H σ ρ _ o r (p.bind.imp fun x g' M' H' o' st k v rv => by
    cases e : kindV M' x with
    | none => simp only [e] at k; exact k.elim
    | some kk =>
      simp only [e] at k
      obtain ⟨a, vs, rfl, hs⟩ := kindV_rep o' rv e
      exact ⟨kk, a, vs, rfl, hs, k.here o' _ (.one rv)⟩)
theorem ei_enum (h : EvA C E tA mA) : EvI C E (iEnumK C.K tA) (sEnum mA) := fun H0 g M H σ ρ R o r p =>
  h H0 g M H σ ρ _ o r (p.bind.imp fun xs g' M' H' o' st k vs rv => by
    match xs, vs, rv, k with
    | [x], [v], .cons rv .nil, k =>
      cases e : kindV M' x with
      | none => simp only [e] at k; exact k.elim
      | some kk =>
        simp only [e] at k
        obtain ⟨a, vs, rfl, hs⟩ := kindV_rep o' rv e
        exact ⟨kk, a, vs, rfl, hs, k.here o' _ (.enum rv)⟩
    | [], _, _, k => exact k.elim
    | _ :: _ :: _, _, _, k => exact k.elim)
theorem ei_zip (h : EvA C E tA mA) : EvI C E (iZipK C.K tA) (sZip mA) := fun H0 g M H σ ρ R o r p =>
  h H0 g M H σ ρ _ o r (p.bind.imp fun xs g' M' H' o' st k vs rv => by
    match xs, vs, rv, k with
    | [x, y], [v, u], .cons rv (.cons ru .nil), k =>
      cases e : kindV M' x with
      | none => simp only [e] at k; exact k.elim
      | some k1 =>
        cases e2 : kindV M' y with
        | none => simp only [e, e2] at k; exact k.elim
        | some k2 =>
          simp only [e, e2] at k
          obtain ⟨a, vs, rfl, hs⟩ := kindV_rep o' rv e
          obtain ⟨b, us, rfl, hs'⟩ := kindV_rep o' ru e2
          exact ⟨k1, k2, a, b, vs, us, rfl, hs, hs', k.here o' _ (.zip rv ru)⟩
    | [], _, _, k => exact k.elim
    | [_], _, _, k => exact k.elim
    | _ :: _ :: _ :: _, _, _, k => exact k.elim)
theorem ei_rng1 (h : EvA C E tA mA) : EvI C E (iRng1 tA) (sRng1 mA) := fun H0 g M H σ ρ R o r p =>
  h H0 g M H σ ρ _ o r (p.bind.imp fun xs g' M' H' o' st k vs rv => by
    split at k
    · rename_i j
      split at k
      · rename_i hj
        match vs, rv with
        | [v], .cons rv .nil =>
          have rv : Rp C.K g'.S v (.int j) := rv
          cases rv
          simp only [inR, Bool.and_eq_true, decide_eq_true_eq] at hj
          exact ⟨j, rfl, hj.1, hj.2, k.here o' _ .rng1⟩
      · exact k.elim
    · exact k.elim)
end
end
end Z

/-! Z, part 7: targets of names, comprehensions. -/
namespace Z
open PySem PySem.Spec PyProof.Rows L2

def wipeR (ρ : Rho) : List Nat → Rho
  | [] => ρ
  | v :: vs => (wipeR ρ vs).set v none
section
variable {C : Ctx} {E : XK} {g g' g2 g0 : G} {H H' H0 : Hp} {M M' : Store} {σ : L2.St} {ρ : Rho}
theorem get_set {α : Type} {l : List α} {i j : Nat} {x y : α} (h : (l.set i x)[j]? = some y) : (j = i ∧ y = x ∧ i < l.length) ∨ (j ≠ i ∧ l[j]? = some y) := by
  by_cases e : j = i
  · subst e
    have hl : j < l.length := by
      have := (List.getElem?_eq_some_iff.mp h).1
      simpa using this
    rw [List.getElem?_set_self hl] at h
    exact .inl ⟨rfl, (Option.some.inj h).symm, hl⟩
  · rw [List.getElem?_set_ne (Ne.symm e)] at h
    exact .inr ⟨e, h⟩
theorem RSt.put (r : RSt C H0 g H σ ρ) {i : Nat} {v : V} {x : Val} (rv : Rep C g v x) : RSt C H0 g H (σ.set i (some v)) (ρ.set i (some (.sh x))) where
  len := by simp [r.len]
  sh := fun j y h => by
    rcases get_set h with ⟨rfl, e, hl⟩ | ⟨e, h⟩
    · cases e
      exact ⟨v, List.getElem?_set_self (by rw [← r.len]; exact hl), rv⟩
    · obtain ⟨w, h1, h2⟩ := r.sh j y h
      exact ⟨w, by rw [List.getElem?_set_ne (Ne.symm e)]; exact h1, h2⟩
  ol := fun j y h => by
    rcases get_set h with ⟨rfl, e, hl⟩ | ⟨e, h⟩
    · cases e
    · obtain ⟨a, vs, h1, h2⟩ := r.ol j y h
      exact ⟨a, vs, by rw [List.getElem?_set_ne (Ne.symm e)]; exact h1, h2⟩
  od := fun j y h => by
    rcases get_set h with ⟨rfl, e, hl⟩ | ⟨e, h⟩
    · cases e
    · obtain ⟨a, vs, h1, h2⟩ := r.od j y h
      exact ⟨a, vs, by rw [List.getElem?_set_ne (Ne.symm e)]; exact h1, h2⟩
  ne := fun j k a hjk h1 h2 e1 e2 => by
    have key : ∀ j, isOwn (ρ.set i (some (.sh x)))[j]? → j ≠ i ∧ isOwn ρ[j]? := fun j h => by
      by_cases e : j = i
      · subst e
        by_cases hl : j < ρ.length
        · rw [List.getElem?_set_self hl] at h; exact h.elim
        · rw [List.getElem?_eq_none (by simpa using hl)] at h; exact h.elim
      · rw [List.getElem?_set_ne (Ne.symm e)] at h; exact ⟨e, h⟩
    obtain ⟨n1, o1⟩ := key j h1
    obtain ⟨n2, o2⟩ := key k h2
    rw [List.getElem?_set_ne (Ne.symm n1)] at e1
    rw [List.getElem?_set_ne (Ne.symm n2)] at e2
    exact r.ne j k a hjk o1 o2 e1 e2
theorem RSt.drop1 (r : RSt C H0 g H σ ρ) (i : Nat) (z : Option V) : RSt C H0 g H (σ.set i z) (ρ.set i none) where
  len := by simp [r.len]
  sh := fun j y h => by
    rcases get_set h with ⟨rfl, e, hl⟩ | ⟨e, h⟩
    · cases e
    · obtain ⟨w, h1, h2⟩ := r.sh j y h
      exact ⟨w, by rw [List.getElem?_set_ne (Ne.symm e)]; exact h1, h2⟩
  ol := fun j y h => by
    rcases get_set h with ⟨rfl, e, hl⟩ | ⟨e, h⟩
    · cases e
    · obtain ⟨a, vs, h1, h2⟩ := r.ol j y h
      exact ⟨a, vs, by rw [List.getElem?_set_ne (Ne.symm e)]; exact h1, h2⟩
  od := fun j y h => by
    rcases get_set h with ⟨rfl, e, hl⟩ | ⟨e, h⟩
    · cases e
    · obtain ⟨a, vs, h1, h2⟩ := r.od j y h
      exact ⟨a, vs, by rw [List.getElem?_set_ne (Ne.symm e)]; exact h1, h2⟩
  ne := fun j k a hjk h1 h2 e1 e2 => by
    have key : ∀ j, isOwn (ρ.set i none)[j]? → j ≠ i ∧ isOwn ρ[j]? := fun j h => by
      by_cases e : j = i
      · subst e
        by_cases hl : j < ρ.length
        · rw [List.getElem?_set_self hl] at h; exact h.elim
        · rw [List.getElem?_eq_none (by simpa using hl)] at h; exact h.elim
      · rw [List.getElem?_set_ne (Ne.symm e)] at h; exact ⟨e, h⟩
    obtain ⟨n1, o1⟩ := key j h1
    obtain ⟨n2, o2⟩ := key k h2
    rw [List.getElem?_set_ne (Ne.symm n1)] at e1
    rw [List.getElem?_set_ne (Ne.symm n2)] at e2
    exact r.ne j k a hjk o1 o2 e1 e2
theorem RSt.wipe (r : RSt C H0 g H σ ρ) : ∀ vs : List Nat, RSt C H0 g H (L2.wipe σ vs) (wipeR ρ vs)
  | [] => r
  | v :: vs => (RSt.wipe r vs).drop1 v none
theorem wipe_set {σ : L2.St} {i : Nat} {z : Option V} : ∀ {vs : List Nat}, i ∈ vs → L2.wipe (σ.set i z) vs = L2.wipe σ vs
  | [], h => by cases h
  | v :: vs, h => by
    show (L2.wipe (σ.set i z) vs).set v none = (L2.wipe σ vs).set v none
    by_cases e : i ∈ vs
    · rw [wipe_set e]
    · have hv : i = v := by
        rcases List.mem_cons.mp h with h | h
        · exact h
        · exact absurd h e
      subst hv
      have : ∀ (us : List Nat), i ∉ us → L2.wipe (σ.set i z) us = (L2.wipe σ us).set i z := by
        intro us
        induction us with
        | nil => intro _; rfl
        | cons u us ih =>
          intro hu
          have h1 : i ≠ u := fun q => hu (by simp [q])
          have h2 : i ∉ us := fun q => hu (by simp [q])
          show (L2.wipe (σ.set i z) us).set u none = ((L2.wipe σ us).set u none).set i z
          rw [ih h2, List.set_comm _ _ h1]
      rw [this vs e, List.set_set]
theorem wipe_wipe {σ : L2.St} : ∀ (vs us : List Nat), (∀ i ∈ vs, i ∈ us) → L2.wipe (L2.wipe σ vs) us = L2.wipe σ us
  | [], us, _ => rfl
  | v :: vs, us, h => by
    show L2.wipe ((L2.wipe σ vs).set v none) us = _
    rw [wipe_set (h v (by simp)), wipe_wipe vs us (fun i hi => h i (by simp [hi]))]

/-! ### targets that are names, or tuples of them -/
abbrev Tg := Val → Rho → Store → Res Rho
def EvG0 (C : Ctx) (tg : TG) (ts : List Nat) (m : Tg) : Prop := ∀ (H0 : Hp) (g : G) (M : Store) (H : Hp) (σ : L2.St) (ρ : Rho) (v : V) (x : Val) (Q : L2.St → Hp → Prop), Ok C g M H → RSt C H0 g H σ ρ → Rep C g v x →
  (match m x ρ M with
    | .ok ρ' M' => M' = M → ∀ σ', RSt C H0 g H σ' ρ' → (∀ vs : List Nat, (∀ i ∈ ts, i ∈ vs) → L2.wipe σ' vs = L2.wipe σ vs) → Q σ' H
    | _ => False) → tg v σ H Q
def EvGs (C : Ctx) (tg : TGs) (ts : List Nat) (m : List Val → Rho → Store → Res Rho) : Prop := ∀ (H0 : Hp) (g : G) (M : Store) (H : Hp) (σ : L2.St) (ρ : Rho) (vs : List V) (xs : List Val) (Q : L2.St → Hp → Prop), Ok C g M H → RSt C H0 g H σ ρ → Reps C g vs xs →
  (match m xs ρ M with
    | .ok ρ' M' => M' = M → ∀ σ', RSt C H0 g H σ' ρ' → (∀ vs : List Nat, (∀ i ∈ ts, i ∈ vs) → L2.wipe σ' vs = L2.wipe σ vs) → Q σ' H
    | _ => False) → tg vs σ H Q
def gN (i : Nat) : Tg := fun x ρ M => .ok (ρ.set i (some (.sh x))) M
theorem eg_name {i : Nat} : EvG0 C (gName i) [i] (gN i) := fun H0 g M H σ ρ v x Q o r rv p =>
  p rfl _ (r.put rv) fun vs h => wipe_set (h i (by simp))
def gNilM : List Val → Rho → Store → Res Rho := fun xs ρ M => match xs with
  | [] => .ok ρ M
  | _ => .stuck
def gConsM (m : Tg) (ms : List Val → Rho → Store → Res Rho) : List Val → Rho → Store → Res Rho := fun xs ρ M => match xs with
  | x :: r => (m x ρ M).bind fun ρ1 M1 => ms r ρ1 M1
  | [] => .stuck
theorem eg_nil : EvGs C gNil [] gNilM := fun H0 g M H σ ρ vs xs Q o r rv p => by
  cases rv with
  | nil => exact ⟨rfl, p rfl σ r fun _ _ => rfl⟩
  | cons _ _ => exact p.elim
theorem eg_cons {tg : TG} {tgs : TGs} {ts us : List Nat} {m : Tg} {ms : List Val → Rho → Store → Res Rho} (h : EvG0 C tg ts m) (hs : EvGs C tgs us ms) (store : ∀ x ρ M ρ' M', m x ρ M = .ok ρ' M' → M' = M) : EvGs C (gCons tg tgs) (ts ++ us) (gConsM m ms) := fun H0 g M H σ ρ vs xs Q o r rv p => by
  cases rv with
  | nil => exact p.elim
  | @cons v x vs xs r1 r2 =>
    have p : (match (m x ρ M).bind fun ρ1 M1 => ms xs ρ1 M1 with
      | .ok ρ' M' => M' = M → ∀ σ', RSt C H0 g H σ' ρ' → (∀ vs : List Nat, (∀ i ∈ ts ++ us, i ∈ vs) → L2.wipe σ' vs = L2.wipe σ vs) → Q σ' H
      | _ => False) := p
    refine ⟨v, vs, rfl, h H0 g M H σ ρ v x _ o r r1 ?_⟩
    cases e : m x ρ M with
    | stuck => rw [e] at p; exact p.elim
    | exn c M1 => rw [e] at p; exact p.elim
    | ok ρ1 M1 =>
      have e1 := store _ _ _ _ _ e
      subst e1
      rw [e] at p
      intro _ σ1 r1' w1
      refine hs H0 g M1 H σ1 ρ1 vs xs _ o r1' r2 ?_
      have p : (match ms xs ρ1 M1 with
        | .ok ρ' M' => M' = M1 → ∀ σ', RSt C H0 g H σ' ρ' → (∀ vs : List Nat, (∀ i ∈ ts ++ us, i ∈ vs) → L2.wipe σ' vs = L2.wipe σ vs) → Q σ' H
        | _ => False) := p
      cases e2 : ms xs ρ1 M1 with
      | stuck => rw [e2] at p; exact p.elim
      | exn c M2 => rw [e2] at p; exact p.elim
      | ok ρ2 M2 =>
        rw [e2] at p
        exact fun em σ2 r2' w2 => p em σ2 r2' fun zs hz => (w2 zs fun i hi => hz i (by simp [hi])).trans (w1 zs fun i hi => hz i (by simp [hi]))
/-- what a tuple holds -/
def gTupM (n : Nat) (ms : List Val → Rho → Store → Res Rho) : Tg := fun x ρ M => match itemsK M false x with
  | some xs => if xs.length = n then ms xs ρ M else .stuck
  | none => .stuck
theorem rep_ref {x : Val} {v : V} {xs : List Val} (o : Ok C g M H) (r : Rep C g v x) (e : itemsK M false x = some xs) : ∃ a vs, v = .ref a ∧ SqT C.K H a vs ∧ Reps C g vs xs := by
  have : ∃ a, v = .ref a := by
    cases x with
    | scr ns => obtain ⟨a, h, _⟩ := r; exact ⟨a, h⟩
    | ref n => obtain ⟨a, _, h⟩ := r; exact ⟨a, h⟩
    | d x =>
      have r : Rp C.K g.S v x := r
      cases x <;> simp [itemsK] at e
      cases r with
      | tup _ _ => exact ⟨_, rfl⟩
  obtain ⟨a, rfl⟩ := this
  obtain ⟨vs, h1, h2⟩ := itemsK_rep o r e
  exact ⟨a, vs, rfl, h1, h2⟩
theorem eg_tup {tgs : TGs} {ts : List Nat} {n : Nat} {ms : List Val → Rho → Store → Res Rho} (hs : EvGs C tgs ts ms) : EvG0 C (gTup C.K n tgs) ts (gTupM n ms) := fun H0 g M H σ ρ v x Q o r rv p => by
  unfold gTupM at p
  cases e : itemsK M false x with
  | none => rw [e] at p; exact p.elim
  | some xs =>
    rw [e] at p
    obtain ⟨a, vs, rfl, h1, h2⟩ := rep_ref o rv e
    by_cases hn : xs.length = n
    · simp only [hn, if_true] at p
      exact ⟨a, vs, rfl, h1, by rw [Paired.length h2]; exact hn, hs H0 g M H σ ρ vs xs Q o r h2 p⟩
    · simp only [hn, if_false] at p

/-! ### comprehensions -/
def lcM (src : Src) (tg : Tg) (tt : Sm Bool) (te : Sm Val) (ρ : Rho) : Nat → Nat → List Val → Store → Res (List Val)
  | 0, i, acc, M => match src.at M i with
    | some none => .ok acc M
    | _ => .stuck
  | k + 1, i, acc, M => match src.at M i with
    | some none => .ok acc M
    | some (some x) => (tg x ρ M).bind fun ρ1 M1 => (tt ρ1 M1).bind fun b M2 =>
      if b = true then (te ρ1 M2).bind fun y M3 => if acc.length < 16000000 then lcM src tg tt te ρ k (i + 1) (acc ++ [y]) M3 else .stuck
      else lcM src tg tt te ρ k (i + 1) acc M2
    | none => .stuck
theorem Reps.snoc {vs : List V} {xs : List Val} {v : V} {x : Val} (h : Reps C g vs xs) (r : Rep C g v x) : Reps C g (vs ++ [v]) (xs ++ [x]) := by
  induction h with
  | nil => exact .cons r .nil
  | cons h1 _ ih => exact .cons h1 ih
theorem el_lc {wi : TI} {tg : TG} {tt : TT} {te : TE} {vs ts : List Nat} {mi : Sm Src} {mg : Tg} {mt : Sm Bool} {me : Sm Val} (hi : EvI C E wi mi) (hg : EvG0 C tg ts mg) (hts : ∀ i ∈ ts, i ∈ vs) (store : ∀ x ρ M ρ' M', mg x ρ M = .ok ρ' M' → M' = M)
    (ht : EvT C (fun _ _ _ => False) tt mt) (he : EvE C (fun _ _ _ => False) te me) : EvL C E (tLc wi tg tt te vs) (fun ρ M => (mi ρ M).bind fun src M1 => match lcM src mg mt me (wipeR ρ vs) (src.len M1) 0 [] M1 with
      | .ok a M => .ok a M
      | _ => .stuck) := fun H0 g M H σ ρ Q o r p =>
  hi H0 g M H σ ρ _ o r (p.bind0.imp fun src g1 M1 H1 o1 st1 k J sj => by
    intro D hD
    have nw := o1.newO (o := .lst []) hD
    have fD := o1.free hD
    -- the word of the turns
    refine ⟨fun i m Hh => ∃ (gg : G) (MM : Store) (acc : List Val) (us : List V), Ok C gg MM Hh ∧ Step g1 H1 gg Hh ∧ Gle g1 gg ∧ Hh D = some (.lst us) ∧ Reps C gg us acc ∧ gg.S D = none ∧ D ∉ gg.phi ∧
        Post C E g H (match lcM src mg mt me (wipeR ρ vs) m i acc MM with
          | .ok a M => .ok a M
          | _ => .stuck) (fun xs g' _ H' => ∀ p vs, H' p = some (.lst vs) → Reps C g' vs xs → g'.S p = none → p ∉ g'.phi → H p = none → Q (.ref p) H'),
      ⟨src.len M1, g1, M1, [], [], nw.1, nw.2, Gle.refl _, upd_same, .nil, fD.1, fD.2, k⟩, ?_⟩
    rintro i m Hh ⟨gg, MM, acc, us, oo, ss, le, hDh, ra, sD, pD, k⟩
    have sj' := sj.le le
    have rr : RSt C H0 gg Hh σ ρ := (r.step st1).step ss
    have rw0 := rr.wipe vs
    have fin : ∀ (k : Post C E g H (.ok acc MM) (fun xs g' _ H' => ∀ p vs, H' p = some (.lst vs) → Reps C g' vs xs → g'.S p = none → p ∉ g'.phi → H p = none → Q (.ref p) H')), Q (.ref D) Hh := fun k =>
      k gg Hh oo (st1.trans ss) D us hDh ra sD pD (st1.fresh D hD)
    cases m with
    | zero =>
      simp only [lcM] at k
      cases e : src.at MM i with
      | none => rw [e] at k; exact k.elim
      | some z =>
        cases z with
        | none =>
          rw [e] at k
          exact .inl ⟨sj'.stop oo e, fin k⟩
        | some x => rw [e] at k; exact k.elim
    | succ m =>
      simp only [lcM] at k
      cases e : src.at MM i with
      | none => rw [e] at k; exact k.elim
      | some z =>
        cases z with
        | none =>
          rw [e] at k
          exact .inl ⟨sj'.stop oo e, fin k⟩
        | some x =>
          rw [e] at k
          simp only at k
          obtain ⟨go, yl⟩ := sj'.turn oo e
          refine .inr ⟨go, fun H2 => ∃ (gg : G) (MM : Store) (acc : List Val) (us : List V), Ok C gg MM H2 ∧ Step g1 H1 gg H2 ∧ Gle g1 gg ∧ H2 D = some (.lst us) ∧ Reps C gg us acc ∧ gg.S D = none ∧ D ∉ gg.phi ∧
            Post C E g H (match lcM src mg mt me (wipeR ρ vs) m (i + 1) acc MM with
              | .ok a M => .ok a M
              | _ => .stuck) (fun xs g' _ H' => ∀ p vs, H' p = some (.lst vs) → Reps C g' vs xs → g'.S p = none → p ∉ g'.phi → H p = none → Q (.ref p) H'), fun H2 h2 => ⟨m, by omega, h2⟩, fun v H2 y => ?_⟩
          obtain ⟨g2, o2, s2, rv⟩ := yl v H2 y
          have s12 := ss.trans s2
          refine hg H0 g2 MM H2 _ _ v x _ o2 (rw0.step s2) rv ?_
          cases em : mg x (wipeR ρ vs) MM with
          | stuck => rw [em] at k; exact k.elim
          | exn c M9 => rw [em] at k; exact k.elim
          | ok ρ1 M9 =>
            have e9 := store _ _ _ _ _ em
            subst e9
            rw [em] at k
            simp only [bind_ok] at k
            intro _ σ1 r1 w1
            refine ⟨by rw [w1 vs hts]; exact wipe_wipe vs vs fun _ h => h, ?_⟩
            refine ht H0 g2 M9 H2 σ1 ρ1 _ o2 r1 ?_
            cases et : mt ρ1 M9 with
            | stuck => rw [et] at k; exact k.elim
            | exn c M8 => rw [et] at k; exact k.elim
            | ok b M8 =>
              rw [et] at k
              simp only [bind_ok] at k
              intro g3 H3 o3 s3
              have s13 := s12.trans s3
              cases b with
              | false =>
                simp only [Bool.false_eq_true, if_false] at k ⊢
                obtain ⟨q1, q2, q3⟩ := own_keep (s2.trans s3) hDh (fun _ z => by cases z) sD pD
                exact ⟨g3, M8, acc, us, o3, s13, s13.le, q1, Paired.mapP ra fun _ _ q => q.step (s2.trans s3), q2, q3, k⟩
              | true =>
                simp only [if_true] at k ⊢
                refine he H0 g3 M8 H3 σ1 ρ1 _ o3 (r1.step s3) ?_
                cases ee : me ρ1 M8 with
                | stuck => rw [ee] at k; exact k.elim
                | exn c M7 => rw [ee] at k; exact k.elim
                | ok yv M7 =>
                  rw [ee] at k
                  simp only [bind_ok] at k
                  intro g4 H4 o4 s4 w rw4
                  have s24 := (s2.trans s3).trans s4
                  have s14 := s13.trans s4
                  obtain ⟨q1, q2, q3⟩ := own_keep s24 hDh (fun _ z => by cases z) sD pD
                  have ra4 : Reps C g4 us acc := Paired.mapP ra fun _ _ q => q.step s24
                  have la := Paired.length ra4
                  by_cases hz : acc.length < 16000000
                  · rw [if_pos hz] at k
                    refine ⟨us, q1, by rw [la, sizeLine_eq]; omega, g4, M7, acc ++ [yv], us ++ [w], o4.setO q2 q3 (.inl ⟨_, q1⟩), s14.setO hD (by rw [q1]; exact fun z => by cases z), s14.le, upd_same, ra4.snoc rw4, q2, q3, k⟩
                  · rw [if_neg hz] at k; exact k.elim)
end
end Z

/-! Z, part 8: statements. -/
namespace Z
open PySem PySem.Spec PyProof.Rows L2

inductive Fl where
  | nx (ρ : Rho)
  | rt (x : Val)
  | bk (ρ : Rho)
  | ct (ρ : Rho)
section
variable {C : Ctx} {E : XK} {g g' g2 g0 : G} {H H' H0 : Hp} {M M' : Store} {σ : L2.St} {ρ : Rho}
def PostS (C : Ctx) (E : XK) (H0 : Hp) (g0 g : G) (r : Res Fl) (D : Ends) : Prop := match r with
  | .ok (.nx ρ') M' => ∀ g' H' σ', Ok C g' M' H' → Step g0 H0 g' H' → Gle g g' → RSt C H0 g' H' σ' ρ' → D.nx σ' H'
  | .ok (.rt x) M' => ∀ g' H' v, Ok C g' M' H' → Step g0 H0 g' H' → Gle g g' → Rep C g' v x → D.rt v H'
  | .ok (.bk ρ') M' => ∀ g' H' σ', Ok C g' M' H' → Step g0 H0 g' H' → Gle g g' → RSt C H0 g' H' σ' ρ' → D.bk σ' H'
  | .ok (.ct ρ') M' => ∀ g' H' σ', Ok C g' M' H' → Step g0 H0 g' H' → Gle g g' → RSt C H0 g' H' σ' ρ' → D.ct σ' H'
  | .exn c M' => ∀ g' H' A, Ok C g' M' H' → Step g0 H0 g' H' → C.mg c = some (.ref A) → E (.ref A) none H'
  | .stuck => False
theorem PostS.le {r : Res Fl} {D : Ends} (h : PostS C E H0 g0 g r D) (l : Gle g g') : PostS C E H0 g0 g' r D := by
  cases r with
  | ok f M => cases f with
    | nx ρ => exact fun a b c d e f g => h a b c d e (l.trans f) g
    | rt x => exact fun a b c d e f g => h a b c d e (l.trans f) g
    | bk ρ => exact fun a b c d e f g => h a b c d e (l.trans f) g
    | ct ρ => exact fun a b c d e f g => h a b c d e (l.trans f) g
  | exn c M => exact h
  | stuck => exact h
def EvS (C : Ctx) (E : XK) (ts : TS) (m : Sm Fl) : Prop := ∀ (H0 : Hp) (g0 g : G) (M : Store) (H : Hp) (σ : L2.St) (ρ : Rho) (D : Ends), Ok C g M H → Step g0 H0 g H → RSt C H0 g H σ ρ → PostS C E H0 g0 g (m ρ M) D → ts D σ H
/-- from an expression's post to a statement's -/
theorem PostS.bind {α : Type} {r : Res α} {f : α → Store → Res Fl} {D : Ends} (s : Step g0 H0 g H) (h : PostS C E H0 g0 g (r.bind f) D) : Post C E g H r fun x g' M' H' => PostS C E H0 g0 g' (f x M') D := by
  cases r with
  | ok x M => exact fun g' H' o st => h.le st.le
  | exn c M => exact fun g' H' A o st e => h g' H' A o (s.trans st) e
  | stuck => exact h
theorem PostS.bind0 {α : Type} {r : Res α} {f : α → Store → Res Fl} {D : Ends} (s : Step g0 H0 g H) (h : PostS C E H0 g0 g (r.bind f) D) : Post C E g H r fun x g' M' H' => PostS C E H0 g0 g (f x M') D := by
  cases r with
  | ok x M => exact fun g' H' o st => h
  | exn c M => exact fun g' H' A o st e => h g' H' A o (s.trans st) e
  | stuck => exact h
variable {ta tb tc te : TE} {ma mb mc m : Sm Val} {tt : TT} {mt : Sm Bool} {tA : TA} {mA : Sm (List Val)} {ts us : TS} {ms mu : Sm Fl} {i : Nat}
def sNext : Sm Fl := fun ρ M => .ok (.nx ρ) M
theorem es_next : EvS C E tNext sNext := fun H0 g0 g M H σ ρ D o s r p => p g H σ o s (Gle.refl _) r
def sSeq (m1 m2 : Sm Fl) : Sm Fl := fun ρ M => (m1 ρ M).bind fun f M1 => match f with
  | .nx ρ1 => m2 ρ1 M1
  | f => .ok f M1
theorem es_seq (h1 : EvS C E ts ms) (h2 : EvS C E us mu) : EvS C E (tSeq ts us) (sSeq ms mu) := fun H0 g0 g M H σ ρ D o s r p => by
  refine h1 H0 g0 g M H σ ρ _ o s r ?_
  unfold sSeq at p
  cases e : ms ρ M with
  | stuck => rw [e] at p; exact p
  | exn c M1 => rw [e] at p; exact p
  | ok f M1 =>
    rw [e] at p
    cases f with
    | nx ρ1 => exact fun g' H' σ' o' s' l r' => h2 H0 g0 g' M1 H' σ' ρ1 D o' s' r' (PostS.le p l)
    | rt x => exact p
    | bk ρ1 => exact p
    | ct ρ1 => exact p
def sRet (m : Sm Val) : Sm Fl := fun ρ M => (m ρ M).bind fun x M1 => .ok (.rt x) M1
theorem es_ret (h : EvE C E te m) : EvS C E (tRet te) (sRet m) := fun H0 g0 g M H σ ρ D o s r p =>
  h H0 g M H σ ρ _ o r ((PostS.bind s p).imp fun x g' M' H' o' st k v rv => k g' H' v o' (s.trans st) (Gle.refl _) rv)
def sRetN : Sm Fl := fun ρ M => .ok (.rt (.d .none)) M
def sDrop (m : Sm Val) : Sm Fl := fun ρ M => (m ρ M).bind fun _ M1 => .ok (.nx ρ) M1
theorem es_drop (h : EvE C E te m) : EvS C E (tDrop te) (sDrop m) := fun H0 g0 g M H σ ρ D o s r p =>
  h H0 g M H σ ρ _ o r ((PostS.bind s p).imp fun x g' M' H' o' st k v rv => k g' H' σ o' (s.trans st) (Gle.refl _) (r.step st))
def sIf (mt : Sm Bool) (m1 m2 : Sm Fl) : Sm Fl := fun ρ M => (mt ρ M).bind fun b M1 => if b = true then m1 ρ M1 else m2 ρ M1
theorem es_if (h : EvT C E tt mt) (h1 : EvS C E ts ms) (h2 : EvS C E us mu) : EvS C E (tIfS tt ts us) (sIf mt ms mu) := fun H0 g0 g M H σ ρ D o s r p =>
  h H0 g M H σ ρ _ o r ((PostS.bind s p).imp fun b g' M' H' o' st k => by
    cases b with
    | true => exact h1 H0 g0 g' M' H' σ ρ D o' (s.trans st) (r.step st) k
    | false => exact h2 H0 g0 g' M' H' σ ρ D o' (s.trans st) (r.step st) k)
/-! ### assignments -/
def PostG (C : Ctx) (E : XK) (H0 : Hp) (g0 g : G) (r : Res Rho) (Q : L2.St → Hp → Prop) : Prop := match r with
  | .ok ρ' M' => ∀ g' H' σ', Ok C g' M' H' → Step g0 H0 g' H' → Gle g g' → RSt C H0 g' H' σ' ρ' → Q σ' H'
  | .exn c M' => ∀ g' H' A, Ok C g' M' H' → Step g0 H0 g' H' → C.mg c = some (.ref A) → E (.ref A) none H'
  | .stuck => False
theorem PostG.le {r : Res Rho} {Q : L2.St → Hp → Prop} (h : PostG C E H0 g0 g r Q) (l : Gle g g') : PostG C E H0 g0 g' r Q := by
  cases r with
  | ok f M => exact fun a b c d e f g => h a b c d e (l.trans f) g
  | exn c M => exact h
  | stuck => exact h
def EvG (C : Ctx) (E : XK) (tg : TG) (m : Tg) : Prop := ∀ (H0 : Hp) (g0 g : G) (M : Store) (H : Hp) (σ : L2.St) (ρ : Rho) (v : V) (x : Val) (Q : L2.St → Hp → Prop), Ok C g M H → Step g0 H0 g H → RSt C H0 g H σ ρ → Rep C g v x →
  PostG C E H0 g0 g (m x ρ M) Q → tg v σ H Q
def EvGt (C : Ctx) (E : XK) (tg : TGs) (m : List Val → Rho → Store → Res Rho) : Prop := ∀ (H0 : Hp) (g0 g : G) (M : Store) (H : Hp) (σ : L2.St) (ρ : Rho) (vs : List V) (xs : List Val) (Q : L2.St → Hp → Prop), Ok C g M H → Step g0 H0 g H → RSt C H0 g H σ ρ → Reps C g vs xs →
  PostG C E H0 g0 g (m xs ρ M) Q → tg vs σ H Q
theorem egn {i : Nat} : EvG C E (gName i) (gN i) := fun H0 g0 g M H σ ρ v x Q o s r rv p => p g H _ o s (Gle.refl _) (r.put rv)
theorem egt_nil : EvGt C E gNil gNilM := fun H0 g0 g M H σ ρ vs xs Q o s r rv p => by
  cases rv with
  | nil => exact ⟨rfl, p g H σ o s (Gle.refl _) r⟩
  | cons _ _ => exact p.elim
theorem egt_cons {tg : TG} {tgs : TGs} {m : Tg} {ms : List Val → Rho → Store → Res Rho} (h : EvG C E tg m) (hs : EvGt C E tgs ms) : EvGt C E (gCons tg tgs) (gConsM m ms) := fun H0 g0 g M H σ ρ vs xs Q o s r rv p => by
  cases rv with
  | nil => exact p.elim
  | @cons v x vs xs r1 r2 =>
    have p : PostG C E H0 g0 g ((m x ρ M).bind fun ρ1 M1 => ms xs ρ1 M1) Q := p
    refine ⟨v, vs, rfl, h H0 g0 g M H σ ρ v x _ o s r r1 ?_⟩
    cases e : m x ρ M with
    | stuck => rw [e] at p; exact p
    | exn c M1 => rw [e] at p; exact p
    | ok ρ1 M1 =>
      rw [e] at p
      exact fun g' H' σ' o' s' l r' => hs H0 g0 g' M1 H' σ' ρ1 vs xs Q o' s' r' (Paired.mapP r2 fun _ _ q => q.le l) (PostG.le (r := ms xs ρ1 M1) p l)
theorem eg_tupG {tgs : TGs} {n : Nat} {ms : List Val → Rho → Store → Res Rho} (hs : EvGt C E tgs ms) : EvG C E (gTup C.K n tgs) (gTupM n ms) := fun H0 g0 g M H σ ρ v x Q o s r rv p => by
  unfold gTupM at p
  cases e : itemsK M false x with
  | none => rw [e] at p; exact p.elim
  | some xs =>
    rw [e] at p
    obtain ⟨a, vs, rfl, h1, h2⟩ := rep_ref o rv e
    by_cases hn : xs.length = n
    · simp only [hn, if_true] at p
      exact ⟨a, vs, rfl, h1, by rw [Paired.length h2]; exact hn, hs H0 g0 g M H σ ρ vs xs Q o s r h2 p⟩
    · simp only [hn, if_false] at p
      exact p.elim
def sAsg (m : Sm Val) (tg : Tg) : Sm Fl := fun ρ M => (m ρ M).bind fun x M1 => (tg x ρ M1).bind fun ρ' M2 => .ok (.nx ρ') M2
theorem es_asg {tg : TG} {mg : Tg} (h : EvE C E te m) (hg : EvG C E tg mg) : EvS C E (tAsg te tg) (sAsg m mg) := fun H0 g0 g M H σ ρ D o s r p =>
  h H0 g M H σ ρ _ o r ((PostS.bind s p).imp fun x g' M' H' o' st k v rv => by
    refine hg H0 g0 g' M' H' σ ρ v x _ o' (s.trans st) (r.step st) rv ?_
    cases e : mg x ρ M' with
    | stuck => rw [e] at k; exact k
    | exn c M1 => rw [e] at k; exact k
    | ok ρ1 M1 => rw [e] at k; exact k)
/-- a, b = e1, e2 -/
def sPar (i j : Nat) (mA : Sm (List Val)) : Sm Fl := fun ρ M => (mA ρ M).bind fun xs M1 => match xs with
  | [x, y] => .ok (.nx ((ρ.set i (some (.sh x))).set j (some (.sh y)))) M1
  | _ => .stuck
theorem es_par {i j : Nat} (h : EvA C E tA mA) : EvS C E (tPar i j tA) (sPar i j mA) := fun H0 g0 g M H σ ρ D o s r p =>
  h H0 g M H σ ρ _ o r ((PostS.bind s p).imp fun xs g' M' H' o' st k vs rv => by
    match xs, vs, rv, k with
    | [x, y], [v, u], .cons rv (.cons ru .nil), k => exact ⟨v, u, rfl, k g' H' _ o' (s.trans st) (Gle.refl _) (((r.step st).put rv).put ru)⟩
    | [], _, _, k => exact k.elim
    | [_], _, _, k => exact k.elim
    | _ :: _ :: _ :: _, _, _, k => exact k.elim)

/-! ### lists and dicts of one's own -/
theorem own_at (r : RSt C H0 g H σ ρ) {j : Nat} {a : Addr} (h : isOwn ρ[j]?) (e : σ[j]? = some (some (.ref a))) : ∃ o, H a = some o := by
  cases hj : ρ[j]? with
  | none => rw [hj] at h; exact h.elim
  | some s =>
    rw [hj] at h
    cases s with
    | none => exact h.elim
    | some s =>
      cases s with
      | sh v => exact h.elim
      | ol xs =>
        obtain ⟨b, vs, q1, q2, _⟩ := r.ol j xs hj
        rw [e] at q1; cases q1; exact ⟨_, q2⟩
      | od xs =>
        obtain ⟨b, vs, q1, q2, _⟩ := r.od j xs hj
        rw [e] at q1; cases q1; exact ⟨_, q2⟩
theorem RSt.newOwn (r : RSt C H0 g H σ ρ) (i : Nat) (p : Addr) (sl : Slot) (h0 : H0 p = none) (h1 : ∀ (a : Addr) (o : HO), H a = some o → (∃ j : Nat, j ≠ i ∧ isOwn ρ[j]? ∧ σ[j]? = some (some (V.ref a))) → a ≠ p)
    (hs : match sl with
      | .ol xs => ∃ vs, H p = some (.lst vs) ∧ RpAll C.K g.S vs xs ∧ g.S p = none ∧ p ∉ g.phi
      | .od xs => ∃ vs, H p = some (.dK vs) ∧ KvD C g.S vs xs ∧ g.S p = none ∧ p ∉ g.phi
      | .sh _ => False) : RSt C H0 g H (σ.set i (some (.ref p))) (ρ.set i (some sl)) where
  len := by simp [r.len]
  sh := fun j y h => by
    rcases get_set h with ⟨rfl, e, hl⟩ | ⟨e, h⟩
    · cases e; exact hs.elim
    · obtain ⟨w, h1, h2⟩ := r.sh j y h
      exact ⟨w, by rw [List.getElem?_set_ne (Ne.symm e)]; exact h1, h2⟩
  ol := fun j y h => by
    rcases get_set h with ⟨rfl, e, hl⟩ | ⟨e, h⟩
    · cases e
      obtain ⟨vs, k1, k2, k3, k4⟩ := hs
      exact ⟨p, vs, List.getElem?_set_self (by rw [← r.len]; exact hl), k1, k2, k3, k4, h0⟩
    · obtain ⟨a, vs, h1, h2⟩ := r.ol j y h
      exact ⟨a, vs, by rw [List.getElem?_set_ne (Ne.symm e)]; exact h1, h2⟩
  od := fun j y h => by
    rcases get_set h with ⟨rfl, e, hl⟩ | ⟨e, h⟩
    · cases e
      obtain ⟨vs, k1, k2, k3, k4⟩ := hs
      exact ⟨p, vs, List.getElem?_set_self (by rw [← r.len]; exact hl), k1, k2, k3, k4, h0⟩
    · obtain ⟨a, vs, h1, h2⟩ := r.od j y h
      exact ⟨a, vs, by rw [List.getElem?_set_ne (Ne.symm e)]; exact h1, h2⟩
  ne := by
    have key : ∀ j : Nat, j ≠ i → isOwn (ρ.set i (some sl))[j]? → isOwn ρ[j]? := fun j hj h => by
      rw [List.getElem?_set_ne (Ne.symm hj)] at h; exact h
    have there : ∀ (j : Nat) (a : Addr), isOwn ρ[j]? → σ[j]? = some (some (V.ref a)) → ∃ o, H a = some o := fun j a h e => own_at r h e
    intro j k a hjk o1 o2 e1 e2
    by_cases hj : j = i
    · subst hj
      have hk : k ≠ j := Ne.symm hjk
      have ok2 := key k hk o2
      rw [List.getElem?_set_ne (Ne.symm hk)] at e2
      have hl : j < σ.length := by
        have := (List.getElem?_eq_some_iff.mp e1).1
        simpa using this
      rw [List.getElem?_set_self hl] at e1
      cases e1
      obtain ⟨o, ho⟩ := there k p ok2 e2
      exact h1 p o ho ⟨k, hk, ok2, e2⟩ rfl
    · have ok1 := key j hj o1
      rw [List.getElem?_set_ne (Ne.symm hj)] at e1
      by_cases hk : k = i
      · subst hk
        have hl : k < σ.length := by
          have := (List.getElem?_eq_some_iff.mp e2).1
          simpa using this
        rw [List.getElem?_set_self hl] at e2
        cases e2
        obtain ⟨o, ho⟩ := there j p ok1 e1
        exact h1 p o ho ⟨j, hj, ok1, e1⟩ rfl
      · have ok2 := key k hk o2
        rw [List.getElem?_set_ne (Ne.symm hk)] at e2
        exact r.ne j k a hjk ok1 ok2 e1 e2
/-- x = a new list, one's own from now on -/
def sAsgL (i : Nat) (m : Sm (List Val)) : Sm Fl := fun ρ M => (m ρ M).bind fun xs M1 => match pures xs with
  | some ds => .ok (.nx (ρ.set i (some (.ol ds)))) M1
  | none => .stuck
theorem es_asgL {mL : Sm (List Val)} (h : EvL C E te mL) : EvS C E (tAsg te (gName i)) (sAsgL i mL) := fun H0 g0 g M H σ ρ D o s r p =>
  h H0 g M H σ ρ _ o r ((PostS.bind0 s p).imp fun xs g' M' H' o' st k q vs h1 h2 h3 h4 h5 => by
    cases e : pures xs with
    | none => simp only [e] at k; exact k.elim
    | some ds =>
      simp only [e] at k
      refine k g' H' _ o' (s.trans st) st.le ((r.step st).newOwn i q (.ol ds) (s.fresh q h5) (fun a u ha ⟨j, hj, oj, ej⟩ z => ?_) ⟨vs, h1, repAll_of h2 e, h3, h4⟩)
      subst z
      obtain ⟨u', hu⟩ := own_at r oj ej
      rw [h5] at hu; cases hu)
def pureD : List (Key × Val) → Option (List (Key × PyData))
  | [] => some []
  | (k, .d x) :: r => (pureD r).map ((k, x) :: ·)
  | _ :: _ => none
theorem kvd_of : ∀ {vs : List (Key × V)} {xs : List (Key × Val)} {ds : List (Key × PyData)}, PReps C g vs xs → pureD xs = some ds → KvD C g.S vs ds
  | _, [], ds, h, e => by
    simp [pureD] at e; subst e; cases h; exact .nil
  | _, (k, .d x) :: r, ds, h, e => by
    simp [pureD] at e
    obtain ⟨es, e1, rfl⟩ := e
    cases h with
    | cons h1 h2 => exact .cons h1 (kvd_of h2 e1)
  | _, (k, .ref n) :: r, ds, h, e => by simp [pureD] at e
  | _, (k, .scr n) :: r, ds, h, e => by simp [pureD] at e
def sAsgD (i : Nat) (m : Sm (List (Key × Val))) : Sm Fl := fun ρ M => (m ρ M).bind fun xs M1 => match pureD xs with
  | some ds => .ok (.nx (ρ.set i (some (.od ds)))) M1
  | none => .stuck
theorem es_asgD {mL : Sm (List (Key × Val))} (h : EvD C E te mL) : EvS C E (tAsg te (gName i)) (sAsgD i mL) := fun H0 g0 g M H σ ρ D o s r p =>
  h H0 g M H σ ρ _ o r ((PostS.bind0 s p).imp fun xs g' M' H' o' st k q vs h1 h2 h3 h4 h5 => by
    cases e : pureD xs with
    | none => simp only [e] at k; exact k.elim
    | some ds =>
      simp only [e] at k
      refine k g' H' _ o' (s.trans st) st.le ((r.step st).newOwn i q (.od ds) (s.fresh q h5) (fun a u ha ⟨j, hj, oj, ej⟩ z => ?_) ⟨vs, h1, kvd_of h2 e, h3, h4⟩)
      subst z
      obtain ⟨u', hu⟩ := own_at r oj ej
      rw [h5] at hu; cases hu)
/-- one's own object is written -/
theorem RSt.wr (r : RSt C H0 g H σ ρ) {i : Nat} {a : Addr} {o' : HO} {sl : Slot} (own : isOwn ρ[i]?) (ha : σ[i]? = some (some (.ref a))) (h0 : H0 a = none) (h1 : g.S a = none) (h2 : a ∉ g.phi)
    (hs : match sl with
      | .ol xs => ∃ vs, o' = .lst vs ∧ RpAll C.K g.S vs xs
      | .od xs => ∃ vs, o' = .dK vs ∧ KvD C g.S vs xs
      | .sh _ => False) : RSt C H0 g (upd H a o') σ (ρ.set i (some sl)) where
  len := by simp [r.len]
  sh := fun j y h => by
    rcases get_set h with ⟨rfl, e, hl⟩ | ⟨e, h⟩
    · cases e; exact hs.elim
    · exact r.sh j y h
  ol := fun j y h => by
    rcases get_set h with ⟨rfl, e, hl⟩ | ⟨e, h⟩
    · cases e
      obtain ⟨vs, rfl, k2⟩ := hs
      exact ⟨a, vs, ha, upd_same, k2, h1, h2, h0⟩
    · obtain ⟨b, vs, k1, k2, k3⟩ := r.ol j y h
      have : b ≠ a := fun z => r.ne j i b e (by rw [h]; trivial) own k1 (by rw [z]; exact ha)
      exact ⟨b, vs, k1, by rw [upd_ne this]; exact k2, k3⟩
  od := fun j y h => by
    rcases get_set h with ⟨rfl, e, hl⟩ | ⟨e, h⟩
    · cases e
      obtain ⟨vs, rfl, k2⟩ := hs
      exact ⟨a, vs, ha, upd_same, k2, h1, h2, h0⟩
    · obtain ⟨b, vs, k1, k2, k3⟩ := r.od j y h
      have : b ≠ a := fun z => r.ne j i b e (by rw [h]; trivial) own k1 (by rw [z]; exact ha)
      exact ⟨b, vs, k1, by rw [upd_ne this]; exact k2, k3⟩
  ne := fun j k b hjk o1 o2 e1 e2 => by
    have key : ∀ j, isOwn (ρ.set i (some sl))[j]? → isOwn ρ[j]? := fun j h => by
      by_cases e : j = i
      · subst e; exact own
      · rw [List.getElem?_set_ne (Ne.symm e)] at h; exact h
    exact r.ne j k b hjk (key j o1) (key k o2) e1 e2
def wOl (ρ : Rho) (i : Nat) (f : List PyData → Res Fl) : Res Fl := match ρ[i]? with
  | some (some (.ol xs)) => f xs
  | _ => .stuck
theorem wOl_inv {f : List PyData → Res Fl} {D : Ends} (r : RSt C H0 g H σ ρ) (p : PostS C E H0 g0 g (wOl ρ i f) D) : ∃ xs a vs, ρ[i]? = some (some (.ol xs)) ∧ σ[i]? = some (some (.ref a)) ∧ H a = some (.lst vs) ∧ RpAll C.K g.S vs xs ∧ g.S a = none ∧ a ∉ g.phi ∧ H0 a = none ∧ PostS C E H0 g0 g (f xs) D := by
  unfold wOl at p
  split at p
  · rename_i xs hx
    obtain ⟨a, vs, h⟩ := r.ol i xs hx
    exact ⟨xs, a, vs, hx, h.1, h.2.1, h.2.2.1, h.2.2.2.1, h.2.2.2.2.1, h.2.2.2.2.2, p⟩
  · exact p.elim
theorem RpAll.snoc {K : PySem.W.Frag} {S : Hp} {vs : List V} {ds : List PyData} {v : V} {d : PyData} (h : RpAll K S vs ds) (r : Rp K S v d) : RpAll K S (vs ++ [v]) (ds ++ [d]) := RpAll.append h (.cons r .nil)
/-- how a statement on one's own list ends -/
theorem ol_fin (o : Ok C g' M' H') (s : Step g0 H0 g' H') (l : Gle g g') (r : RSt C H0 g' H' σ ρ) {xs ys : List PyData} {a : Addr} {vs us : List V} {D : Ends} (hx : ρ[i]? = some (some (.ol xs))) (ha : σ[i]? = some (some (V.ref a))) (h1 : H' a = some (.lst vs)) (h2 : g'.S a = none) (h3 : a ∉ g'.phi) (h4 : H0 a = none)
    (ru : RpAll C.K g'.S us ys) (k : PostS C E H0 g0 g (.ok (.nx (ρ.set i (some (.ol ys)))) M') D) : D.nx σ (upd H' a (.lst us)) :=
  k g' _ σ (o.setO h2 h3 (.inl ⟨_, h1⟩)) (s.setO h4 (by rw [h1]; exact fun z => by cases z)) l (r.wr (i := i) (sl := .ol ys) (by rw [hx]; trivial) ha h4 h2 h3 ⟨_, rfl, ru⟩)
/-- x.append(e) of one's own list -/
def sApp (i : Nat) (m : Sm Val) : Sm Fl := fun ρ M => wOl ρ i fun xs => (m ρ M).bind fun y M1 => match y with
  | .d y => if xs.length < 100000 then .ok (.nx (ρ.set i (some (.ol (xs ++ [y]))))) M1 else .stuck
  | _ => .stuck
theorem es_app (h : EvE C E te m) : EvS C E (tDrop (tBM C.K "list" rAppend (tVar i) (tCons te tNil))) (sApp i m) := fun H0 g0 g M H σ ρ D o s r p => by
  obtain ⟨xs, a, vs, hx, k1, k2, k3, k4, k5, k6, p⟩ := wOl_inv r p
  refine ⟨_, k1, .inl ⟨rfl, vs, SqL.of k2⟩, h H0 g M H σ ρ _ o r ((PostS.bind s p).imp fun y g' M' H' o' st k v rv => ?_)⟩
  cases y with
  | ref n => exact k.elim
  | scr n => exact k.elim
  | d y =>
    simp only at k
    split at k
    · rename_i hz
      obtain ⟨q1, q2, q3⟩ := own_keep st k2 (fun _ z => by cases z) k4 k5
      have ra := RpAll.mono st.ex _ _ k3
      have la := ra.length
      exact ⟨a, vs, v, rfl, rfl, q1, by rw [la, sizeLine_eq]; omega, ol_fin o' (s.trans st) (Gle.refl _) (r.step st) hx k1 q1 q2 q3 k6 (ra.snoc rv) k⟩
    · exact k.elim
/-- x.extend(a new list) of one's own list -/
def sExt (i : Nat) (m : Sm (List Val)) : Sm Fl := fun ρ M => wOl ρ i fun xs => (m ρ M).bind fun ys M1 => match pures ys with
  | some ds => if xs.length + ds.length < 100000 then .ok (.nx (ρ.set i (some (.ol (xs ++ ds))))) M1 else .stuck
  | none => .stuck
/-- x[j] = e of one's own list -/
def sSet (i : Nat) (m mj : Sm Val) : Sm Fl := fun ρ M => wOl ρ i fun xs => (m ρ M).bind fun y M1 => (mj ρ M1).bind fun j M2 => match y, j with
  | .d y, .d (.int j) => match ixN xs.length j with
    | some n => .ok (.nx (ρ.set i (some (.ol (xs.set n y))))) M2
    | none => .stuck
  | _, _ => .stuck
theorem es_set {mj : Sm Val} (h : EvE C E te m) (hj : EvE C E tb mj) : EvS C E (tAsg te (gSub (tVar i) tb rSetL)) (sSet i m mj) := fun H0 g0 g M H σ ρ D o s r p => by
  obtain ⟨xs, a, vs, hx, k1, k2, k3, k4, k5, k6, p⟩ := wOl_inv r p
  refine h H0 g M H σ ρ _ o r ((PostS.bind s p).imp fun y g' M' H' o' st k v rv => ?_)
  refine ⟨_, k1, hj H0 g' M' H' σ ρ _ o' (r.step st) ((PostS.bind (s.trans st) k).imp fun j g2 M2 H2 o2 st2 k2' u ru => ?_)⟩
  split at k2'
  · rename_i y j
    have ru : Rp C.K g2.S u (.int j) := ru
    cases ru
    split at k2'
    · rename_i n hn
      have ss := st.trans st2
      obtain ⟨q1, q2, q3⟩ := own_keep ss k2 (fun _ z => by cases z) k4 k5
      have ra := RpAll.mono ss.ex _ _ k3
      have la := ra.length
      exact ⟨a, vs, j, n, rfl, rfl, q1, by rw [la]; exact hn, ol_fin o2 (s.trans ss) (Gle.refl _) (r.step ss) hx k1 q1 q2 q3 k6 (RpAll.set n ra (rv.step st2)) k2'⟩
    · exact k2'.elim
  · exact k2'.elim
/-- what was one's own does not change any more -/
def frzR (ρ : Rho) (i : Nat) : Rho := match ρ[i]? with
  | some (some (.ol xs)) => ρ.set i (some (.sh (.d (.list xs))))
  | some (some (.od xs)) => ρ.set i (some (.sh (.d (.dict (kvD xs)))))
  | _ => ρ
theorem frz_ok (o : Ok C g M H) (s : Step g0 H0 g H) (r : RSt C H0 g H σ ρ) (i : Nat) : ∃ g', Ok C g' M H ∧ Step g0 H0 g' H ∧ Gle g g' ∧ RSt C H0 g' H σ (frzR ρ i) := by
  unfold frzR
  have key : ∀ (a : Addr) (u : HO) (x : PyData), isOwn ρ[i]? → σ[i]? = some (some (.ref a)) → H a = some u → g.S a = none → a ∉ g.phi → H0 a = none → (∀ S, Same (upd g.S a u) S → Rp C.K S (.ref a) x) → (∀ ps, u ≠ .tbl ps) →
      ∃ g', Ok C g' M H ∧ Step g0 H0 g' H ∧ Gle g g' ∧ RSt C H0 g' H σ (ρ.set i (some (.sh (.d x)))) := fun a u x own k1 k2 k4 k5 k6 rx no => by
    have le : Gle g ⟨g.phi, upd g.S a u⟩ := ⟨⟨[], by simp⟩, same_new k4⟩
    refine ⟨⟨g.phi, upd g.S a u⟩, o.freeze k2 k5 no, s.freeze k4 k6, le, ⟨by simp [r.len], fun j y h => ?_, fun j y h => ?_, fun j y h => ?_, fun j k b hjk o1 o2 e1 e2 => ?_⟩⟩
    · rcases get_set h with ⟨rfl, e, hl⟩ | ⟨e, h⟩
      · cases e; exact ⟨_, k1, rx _ (Same.refl _)⟩
      · obtain ⟨w, h1, h2⟩ := r.sh j y h
        exact ⟨w, h1, h2.le le⟩
    · rcases get_set h with ⟨rfl, e, hl⟩ | ⟨e, h⟩
      · cases e
      · obtain ⟨b, vs, q1, q2, q3, q4, q5, q6⟩ := r.ol j y h
        have nb : b ≠ a := fun z => r.ne j i b e (by rw [h]; trivial) own q1 (by rw [z]; exact k1)
        exact ⟨b, vs, q1, q2, RpAll.mono le.ex _ _ q3, by show upd g.S a u b = none; rw [upd_ne nb]; exact q4, q5, q6⟩
    · rcases get_set h with ⟨rfl, e, hl⟩ | ⟨e, h⟩
      · cases e
      · obtain ⟨b, vs, q1, q2, q3, q4, q5, q6⟩ := r.od j y h
        have nb : b ≠ a := fun z => r.ne j i b e (by rw [h]; trivial) own q1 (by rw [z]; exact k1)
        exact ⟨b, vs, q1, q2, KvD.mono le.ex q3, by show upd g.S a u b = none; rw [upd_ne nb]; exact q4, q5, q6⟩
    · have kk : ∀ j, isOwn (ρ.set i (some (.sh (.d x))))[j]? → isOwn ρ[j]? := fun j h => by
        by_cases e : j = i
        · subst e; exact own
        · rw [List.getElem?_set_ne (Ne.symm e)] at h; exact h
      exact r.ne j k b hjk (kk j o1) (kk k o2) e1 e2
  split
  · rename_i xs hx
    obtain ⟨a, vs, k1, k2, k3, k4, k5, k6⟩ := r.ol i xs hx
    exact key a _ _ (by rw [hx]; trivial) k1 k2 k4 k5 k6 (fun S e => .lst (e _ _ upd_same) (RpAll.mono ((same_new k4).trans e) _ _ k3)) (by intro ps z; cases z)
  · rename_i xs hx
    obtain ⟨a, vs, k1, k2, k3, k4, k5, k6⟩ := r.od i xs hx
    exact key a _ _ (by rw [hx]; trivial) k1 k2 k4 k5 k6 (fun S e => .dic (e _ _ upd_same) (RpKv.mono ((same_new k4).trans e) _ _ (kvD_rp (C := C) k3))) (by intro ps z; cases z)
  · exact ⟨g, o, s, Gle.refl _, r⟩
def sFrz (i : Nat) (m : Sm Fl) : Sm Fl := fun ρ M => m (frzR ρ i) M
theorem es_frz (h : EvS C E ts ms) : EvS C E ts (sFrz i ms) := fun H0 g0 g M H σ ρ D o s r p => by
  obtain ⟨g', o', s', l, r'⟩ := frz_ok o s r i
  exact h H0 g0 g' M H σ _ D o' s' r' (PostS.le (r := ms (frzR ρ i) M) p l)

/-! ### loops -/
def forM (src : Src) (tg : Tg) (b : Sm Fl) : Nat → Nat → Sm Fl
  | 0, i => fun ρ M => match src.at M i with
    | some none => .ok (.nx ρ) M
    | _ => .stuck
  | k + 1, i => fun ρ M => match src.at M i with
    | some none => .ok (.nx ρ) M
    | some (some x) => (tg x ρ M).bind fun ρ1 M1 => (b ρ1 M1).bind fun f M2 => match f with
      | .nx ρ2 => forM src tg b k (i + 1) ρ2 M2
      | .ct ρ2 => forM src tg b k (i + 1) ρ2 M2
      | .bk ρ2 => .ok (.nx ρ2) M2
      | .rt x => .ok (.rt x) M2
    | none => .stuck
/-! ### a slot is forgotten -/
theorem RSt.forget (r : RSt C H0 g H σ ρ) (i : Nat) : RSt C H0 g H σ (ρ.set i none) where
  len := by simp [r.len]
  sh := fun j x h => by
    rcases get_set h with ⟨rfl, e, _⟩ | ⟨_, h⟩
    · cases e
    · exact r.sh j x h
  ol := fun j x h => by
    rcases get_set h with ⟨rfl, e, _⟩ | ⟨_, h⟩
    · cases e
    · exact r.ol j x h
  od := fun j x h => by
    rcases get_set h with ⟨rfl, e, _⟩ | ⟨_, h⟩
    · cases e
    · exact r.od j x h
  ne := fun j k a hjk o1 o2 e1 e2 => by
    have key : ∀ j, isOwn (ρ.set i none)[j]? → isOwn ρ[j]? := fun j h => by
      by_cases e : j = i
      · subst e
        by_cases hl : j < ρ.length
        · rw [List.getElem?_set_self hl] at h; exact h.elim
        · rw [List.getElem?_eq_none (by simpa using hl)] at h; exact h.elim
      · rw [List.getElem?_set_ne (Ne.symm e)] at h; exact h
    exact r.ne j k a hjk (key j o1) (key k o2) e1 e2
theorem RSt.forgetL (r : RSt C H0 g H σ ρ) : ∀ ks : List Nat, RSt C H0 g H σ (wipeR ρ ks)
  | [] => r
  | k :: ks => (RSt.forgetL r ks).forget k
def killF (ks : List Nat) : Fl → Fl
  | .nx ρ => .nx (wipeR ρ ks)
  | .ct ρ => .ct (wipeR ρ ks)
  | .bk ρ => .bk (wipeR ρ ks)
  | .rt x => .rt x
def sKill (ks : List Nat) (m : Sm Fl) : Sm Fl := fun ρ M => (m ρ M).bind fun f M1 => .ok (killF ks f) M1
def sPre (ks : List Nat) (m : Sm Fl) : Sm Fl := fun ρ M => m (wipeR ρ ks) M
theorem es_kill {ks : List Nat} (h : EvS C E ts ms) : EvS C E ts (sKill ks ms) := fun H0 g0 g M H σ ρ D o s r p => by
  refine h H0 g0 g M H σ ρ D o s r ?_
  unfold sKill at p
  cases e : ms ρ M with
  | stuck => rw [e] at p; exact p
  | exn c M1 => rw [e] at p; exact p
  | ok f M1 =>
    rw [e] at p
    cases f with
    | nx ρ1 => exact fun g' H' σ' o' s' l r' => p g' H' σ' o' s' l (r'.forgetL ks)
    | ct ρ1 => exact fun g' H' σ' o' s' l r' => p g' H' σ' o' s' l (r'.forgetL ks)
    | bk ρ1 => exact fun g' H' σ' o' s' l r' => p g' H' σ' o' s' l (r'.forgetL ks)
    | rt x => exact p
def sFor (ks : List Nat) (mi : Sm Src) (tg : Tg) (b : Sm Fl) : Sm Fl := fun ρ M => (mi ρ M).bind fun src M1 => forM src tg (sKill ks b) (src.len M1) 0 (wipeR ρ ks) M1
theorem es_for0 {ks : List Nat} {wi : TI} {tg : TG} {mi : Sm Src} {mg : Tg} (hi : EvI C E wi mi) (hg : EvG C E tg mg) (hb : EvS C E ts ms) : EvS C E (tFor wi tg ts) (fun ρ M => (mi ρ M).bind fun src M1 => forM src mg ms (src.len M1) 0 (wipeR ρ ks) M1) := fun H0 g0 g M H σ ρ D o s r p =>
  hi H0 g M H σ ρ _ o r ((PostS.bind s p).imp fun src g1 M1 H1 o1 st1 k J sj => by
    refine ⟨fun i m σ' Hh => ∃ (gg : G) (MM : Store) (ρ' : Rho), Ok C gg MM Hh ∧ Step g0 H0 gg Hh ∧ Gle g1 gg ∧ RSt C H0 gg Hh σ' ρ' ∧ PostS C E H0 g0 gg (forM src mg ms m i ρ' MM) D,
      ⟨src.len M1, g1, M1, wipeR ρ ks, o1, s.trans st1, Gle.refl _, (r.step st1).forgetL ks, k⟩, ?_⟩
    rintro i m σ' Hh ⟨gg, MM, ρ', oo, ss, le, rr, k⟩
    have sj' := sj.le le
    cases m with
    | zero =>
      simp only [forM] at k
      cases e : src.at MM i with
      | none => rw [e] at k; exact k.elim
      | some z =>
        cases z with
        | none =>
          rw [e] at k
          exact .inl ⟨sj'.stop oo e, k gg Hh σ' oo ss (Gle.refl _) rr⟩
        | some x => rw [e] at k; exact k.elim
    | succ m =>
      simp only [forM] at k
      cases e : src.at MM i with
      | none => rw [e] at k; exact k.elim
      | some z =>
        cases z with
        | none =>
          rw [e] at k
          exact .inl ⟨sj'.stop oo e, k gg Hh σ' oo ss (Gle.refl _) rr⟩
        | some x =>
          rw [e] at k
          simp only at k
          obtain ⟨go, yl⟩ := sj'.turn oo e
          refine .inr ⟨go, fun σ2 H2 => ∃ (gg : G) (MM : Store) (ρ' : Rho), Ok C gg MM H2 ∧ Step g0 H0 gg H2 ∧ Gle g1 gg ∧ RSt C H0 gg H2 σ2 ρ' ∧ PostS C E H0 g0 gg (forM src mg ms m (i + 1) ρ' MM) D, fun σ2 H2 h2 => ⟨m, by omega, h2⟩, fun v H2 y => ?_⟩
          obtain ⟨g2, o2, s2, rv⟩ := yl v H2 y
          refine hg H0 g0 g2 MM H2 σ' ρ' v x _ o2 (ss.trans s2) (rr.step s2) rv ?_
          cases em : mg x ρ' MM with
          | stuck => rw [em] at k; exact k.elim
          | exn c M9 => rw [em] at k; exact k
          | ok ρ1 M9 =>
            rw [em] at k
            simp only [bind_ok] at k
            intro g3 H3 σ3 o3 s3 l3 r3
            refine hb H0 g0 g3 M9 H3 σ3 ρ1 _ o3 s3 r3 ?_
            cases eb : ms ρ1 M9 with
            | stuck => rw [eb] at k; exact k.elim
            | exn c M8 => rw [eb] at k; exact k
            | ok f M8 =>
              rw [eb] at k
              simp only [bind_ok] at k
              cases f with
              | nx ρ2 => exact fun g4 H4 σ4 o4 s4 l4 r4 => ⟨g4, M8, ρ2, o4, s4, ((le.trans s2.le).trans l3).trans l4, r4, PostS.le (r := forM src mg ms m (i + 1) ρ2 M8) k ((s2.le.trans l3).trans l4)⟩
              | ct ρ2 => exact fun g4 H4 σ4 o4 s4 l4 r4 => ⟨g4, M8, ρ2, o4, s4, ((le.trans s2.le).trans l3).trans l4, r4, PostS.le (r := forM src mg ms m (i + 1) ρ2 M8) k ((s2.le.trans l3).trans l4)⟩
              | bk ρ2 => exact fun g4 H4 σ4 o4 s4 l4 r4 => k g4 H4 σ4 o4 s4 ((s2.le.trans l3).trans l4) r4
              | rt xx => exact fun g4 H4 v4 o4 s4 l4 r4 => k g4 H4 v4 o4 s4 ((s2.le.trans l3).trans l4) r4)
theorem es_for {ks : List Nat} {wi : TI} {tg : TG} {mi : Sm Src} {mg : Tg} (hi : EvI C E wi mi) (hg : EvG C E tg mg) (hb : EvS C E ts ms) : EvS C E (tFor wi tg ts) (sFor ks mi mg ms) := es_for0 hi hg (es_kill hb)
def whileM (c : Sm Bool) (b : Sm Fl) : Nat → Sm Fl
  | 0 => fun _ _ => .stuck
  | k + 1 => fun ρ M => (c ρ M).bind fun t M1 => if t = true then (b ρ M1).bind fun f M2 => match f with
      | .nx ρ2 => whileM c b k ρ2 M2
      | .ct ρ2 => whileM c b k ρ2 M2
      | .bk ρ2 => .ok (.nx ρ2) M2
      | .rt x => .ok (.rt x) M2
    else .ok (.nx ρ) M1
def sWhile (ks : List Nat) (n : Nat) (c : Sm Bool) (b : Sm Fl) : Sm Fl := sPre ks (whileM c (sKill ks b) n)
end
end Z

/-! Z, part 9: sums, items, parts. -/
namespace Z
open PySem PySem.Spec PyProof.Rows L2

section
variable {X : Cx} {C : Ctx} {E : XK} {g g' : G} {H H' H0 : Hp} {M M' : Store}
variable {ta tb tc te : TE} {ma mb mc m : Sm Val}
/-- a rule over values of ours -/
def OpG (C : Ctx) (E : XK) (r : R2) (f : Val → Val → Store → Res Val) : Prop := ∀ (g : G) (M : Store) (H : Hp) (v u : V) (x y : Val) (Q : VK), Ok C g M H → RepX C g H v x → RepX C g H u y →
  Post C E g H (f x y M) (fun z g' _ H' => ∀ w, Rep C g' w z → Q w H') → r v u H Q
def eG (f : Val → Val → Store → Res Val) (ma mb : Sm Val) : Sm Val := fun ρ M => (ma ρ M).bind fun x M1 => (mb ρ M1).bind fun y M2 => f x y M2
theorem ev_opG {r : R2} {f : Val → Val → Store → Res Val} (op : OpG C E r f) (ha : EvW C E ta ma) (hb : EvW C E tb mb) : EvE C E (tOp r ta tb) (eG f ma mb) := fun H0 g M H σ ρ Q o r p =>
  ha H0 g M H σ ρ _ o r (p.bind.imp fun x g' M' H' o' st k v rv => hb H0 g' M' H' σ ρ _ o' (r.step st) (k.bind.imp fun y g2 M2 H2 o2 st2 k2 u ru =>
    op g2 M2 H2 v u x y Q o2 ((rv.step st2).here o2) (ru.here o2) k2))
/-! a + b -/
def fAdd : PyData → PyData → Option PyData
  | .int i, .int j => some (.int (i + j))
  | .str a, .str b => if a.length + b.length ≤ sizeLine then some (.str (a ++ b)) else none
  | .list xs, .list ys => if xs.length + ys.length ≤ 100000 then some (.list (xs ++ ys)) else none
  | .tuple xs, .tuple ys => if xs.length + ys.length ≤ 100000 then some (.tuple (xs ++ ys)) else none
  | _, _ => none
/-- t + u, its object known -/
def rCatS (K : PySem.W.Frag) : R2 := fun x y H Q => ∃ a b xs ys, x = .ref a ∧ y = .ref b ∧ SqT K H a xs ∧ SqT K H b ys ∧ xs.length + ys.length ≤ sizeLine ∧
  (xs = [] → Q (.ref b) H) ∧ (xs ≠ [] → ys = [] → Q (.ref a) H) ∧ (xs ≠ [] → ys ≠ [] → NewT H (xs ++ ys) Q)
theorem op_catS : OpR X (binaryOp .Add) (rCatS X.K) := by
  rintro pins s σ H _ _ v u Q I rx ry ⟨a, b, xs, ys, rfl, rfl, ha, hb, hz, c0, c1, c2⟩
  obtain rfl : v = .ref a := rx
  obtain rfl : u = .ref b := ry
  obtain ⟨is, r1, t1, -⟩ := I.tuple ha
  obtain ⟨js, r2, t2, -⟩ := I.tuple hb
  have n1 : is = [] ↔ xs = [] := r1.nil_iff
  have n2 : js = [] ↔ ys = [] := r2.nil_iff
  rcases Classical.em (xs = []) with e | e
  · have e' := n1.mpr e
    subst e'
    exact cat_tup0 t1 t2 ⟨.ref b, H, I, rfl, c0 e⟩
  · refine HT.cat_tup t1 t2 (fun z => e (n1.mp z)) (fun z => ⟨.ref a, H, I, rfl, c1 e (n2.mp z)⟩) (fun z => ?_) ?_
    · exact newT_go I (r1.append r2) (by rw [List.length_append]; exact hz) (c2 e fun w => z (n2.mpr w))
    · rw [← r1.length, ← r2.length]; exact hz
def rAddZ (K : PySem.W.Frag) : R2 := fun x y H Q => rF2 K fAddF x y H Q ∨ rCat x y H Q ∨ rCatS K x y H Q
theorem oz_addF : OpR X (binaryOp .Add) (rF2 X.K fAddF) := OpR.of (OpR.or op_add op_add_str) fun x y H Q ⟨a, b, z, v, h1, h2, h3, h4, q⟩ => by
  unfold fAddF at h3
  split at h3
  · cases h3; cases h4; exact .inl ⟨_, _, rint h1, rint h2, q⟩
  · split at h3
    · rename_i hc
      cases h3; cases h4; exact .inr ⟨_, _, rstr h1, rstr h2, hc, q⟩
    · cases h3
  · cases h3
theorem oz_add : OpR X (binaryOp .Add) (rAddZ X.K) := oz_addF.or (op_cat.or op_catS)
theorem small5 {n : Nat} (h : n ≤ 100000) : n ≤ sizeLine := by rw [sizeLine_eq]; omega
theorem op2_add : Op2 C E (rAddZ C.K) fAdd := fun g M H v u x y z Q o rx ry e p => by
  unfold fAdd at e
  split at e
  · cases e
    cases RpC.int rx; cases RpC.int ry
    exact .inl ⟨_, _, _, _, .int _, .int _, rfl, rfl, p.here o _ (.int _)⟩
  · split at e
    · rename_i hc
      cases e
      cases RpC.str rx; cases RpC.str ry
      exact .inl ⟨_, _, _, _, .str _, .str _, by simp only [fAddF]; rw [if_pos hc], rfl, p.here o _ (.str _)⟩
    · cases e
  · split at e
    · rename_i hc
      cases e
      obtain ⟨a, vs, rfl, ha, h1⟩ := RpC.list o.ex rx
      obtain ⟨b, us, rfl, hb, h2⟩ := RpC.list o.ex ry
      refine .inr (.inl ⟨a, b, vs, us, rfl, rfl, ha, hb, ?_, fun q hq => ?_⟩)
      · rw [h1.length, h2.length]; exact small5 hc
      · exact p.at (o.newS (o := .lst (vs ++ us)) hq) _ (.lst upd_same (RpAll.mono (same_new (o.free hq).1) _ _ (h1.append h2)))
    · cases e
  · split at e
    · rename_i xs ys hc
      cases e
      have rx' := rx.tupS
      have ry' := ry.tupS
      obtain ⟨a, vs, rfl, ha, h1⟩ := RpC.tuple o.ex rx
      obtain ⟨b, us, rfl, hb, h2⟩ := RpC.tuple o.ex ry
      have l1 := h1.length
      have l2 := h2.length
      refine .inr (.inr ⟨a, b, vs, us, rfl, rfl, ha, hb, by rw [l1, l2]; exact small5 hc, fun e0 => ?_, fun e0 e1 => ?_, fun e0 e1 q ob hq hd => ?_⟩)
      · subst e0
        have : xs = [] := List.length_eq_zero_iff.mp (by simpa using l1.symm)
        subst this
        exact p.here o _ ry'
      · subst e1
        have : ys = [] := List.length_eq_zero_iff.mp (by simpa using l2.symm)
        subst this
        rw [List.append_nil] at p
        exact p.here o _ rx'
      · exact p.at (o.newS (o := .frz ob (.tup (vs ++ us))) hq) _ (.tup (.new hd) (RpAll.mono (same_new (o.free hq).1) _ _ (h1.append h2)))
    · cases e
  · cases e
/-! items -/
def ixV (M : Store) (x : Val) (i : Int) : Option Val := match x with
  | .scr ns => (atI ns i).map fun n => .d (.int n)
  | .d (.list ds) => (atI ds i).map .d
  | .d (.tuple ds) => (atI ds i).map .d
  | .d (.str z) => if z.length ≤ sizeLine then (atI z.cps.toList i).map fun c => .d (.str ⟨#[c]⟩) else none
  | .ref n => match M[n]? with
    | some (.lst xs) => atI xs i
    | some (.tup xs) => atI xs i
    | _ => none
  | _ => none
def fIx (x y : Val) (M : Store) : Res Val := match y with
  | .d (.int i) => match ixV M x i with
    | some v => .ok v M
    | none => .stuck
  | _ => .stuck
theorem atI_some {α : Type} {xs : List α} {i : Int} {x : α} (h : atI xs i = some x) : ∃ j, ixN xs.length i = some j ∧ xs[j]? = some x := by
  unfold atI at h
  cases e : ixN xs.length i with
  | none => rw [e] at h; cases h
  | some j => rw [e] at h; exact ⟨j, rfl, h⟩
theorem atI_rp {K : PySem.W.Frag} {S : Hp} {vs : List V} {ds : List PyData} {i : Int} {d : PyData} (h : RpAll K S vs ds) (e : atI ds i = some d) : ∃ v, atI vs i = some v ∧ Rp K S v d := by
  obtain ⟨j, e1, e2⟩ := atI_some e
  obtain ⟨v, h1, h2⟩ := h.get e2
  exact ⟨v, by unfold atI; rw [h.length, e1]; exact h1, h2⟩
theorem atI_rep {vs : List V} {ds : List Val} {i : Int} {d : Val} (h : Reps C g vs ds) (e : atI ds i = some d) : ∃ v, atI vs i = some v ∧ Rep C g v d := by
  obtain ⟨j, e1, e2⟩ := atI_some e
  obtain ⟨v, h1, h2⟩ := reps_getX h e2
  exact ⟨v, by unfold atI; rw [Paired.length h, e1]; exact h1, h2⟩
theorem fIx_at : OpG C E (rIx C.K) fIx := fun g M H v u x y Q o rx ry p => by
  cases y with
  | ref n => exact p.elim
  | scr n => exact p.elim
  | d y =>
    cases y with
    | int i =>
      have p2 : Post C E g H (match ixV M x i with
        | some v => Res.ok v M
        | none => .stuck) _ := p
      cases RpC.int ry
      cases e : ixV M x i with
      | none => rw [e] at p2; exact p2.elim
      | some w =>
        rw [e] at p2
        clear p
        cases x with
        | scr ns =>
          obtain ⟨q, rfl, hq⟩ := rx
          have e : (atI ns i).map (fun n => Val.d (.int n)) = some w := e
          cases e2 : atI ns i with
          | none => rw [e2] at e; cases e
          | some n =>
            rw [e2] at e
            cases e
            obtain ⟨j, e3, e4⟩ := atI_some e2
            exact .inl ⟨q, _, i, .int n, rfl, rfl, sqlMono o.ex hq, by unfold atI; rw [List.length_map, e3]; simp [e4], p2.here o _ (.int n)⟩
        | ref n =>
          obtain ⟨q, h1, rfl⟩ := rx
          have e : (match M[n]? with
            | some (.lst xs) => atI xs i
            | some (.tup xs) => atI xs i
            | _ => none) = some w := e
          cases hm : M[n]? with
          | none => rw [hm] at e; cases e
          | some nd =>
            rw [hm] at e
            have hn := o.node n q nd h1 hm
            cases nd with
            | lst xs =>
              obtain ⟨vs, k1, k2⟩ := hn
              obtain ⟨z, z1, z2⟩ := atI_rep k2 e
              exact .inl ⟨q, vs, i, z, rfl, rfl, SqL.of k1, z1, p2.here o _ z2⟩
            | tup xs =>
              obtain ⟨vs, k1, k2⟩ := hn
              obtain ⟨z, z1, z2⟩ := atI_rep k2 e
              exact .inr (.inl ⟨q, vs, i, z, rfl, rfl, .inl k1, z1, p2.here o _ z2⟩)
            | dic _ => cases e
            | obj _ _ => cases e
            | dead => cases e
        | d x =>
          cases x with
          | list ds =>
            have e : (atI ds i).map Val.d = some w := e
            cases e2 : atI ds i with
            | none => rw [e2] at e; cases e
            | some d =>
              rw [e2] at e; cases e
              obtain ⟨a, vs, rfl, ha, h1⟩ := RpC.list o.ex rx
              obtain ⟨z, z1, z2⟩ := atI_rp h1 e2
              exact .inl ⟨a, vs, i, z, rfl, rfl, SqL.of ha, z1, p2.here o _ z2⟩
          | tuple ds =>
            have e : (atI ds i).map Val.d = some w := e
            cases e2 : atI ds i with
            | none => rw [e2] at e; cases e
            | some d =>
              rw [e2] at e; cases e
              obtain ⟨a, vs, rfl, ha, h1⟩ := RpC.tuple o.ex rx
              obtain ⟨z, z1, z2⟩ := atI_rp h1 e2
              exact .inr (.inl ⟨a, vs, i, z, rfl, rfl, ha, z1, p2.here o _ z2⟩)
          | str z =>
            have e : (if z.length ≤ sizeLine then (atI z.cps.toList i).map fun c => Val.d (.str ⟨#[c]⟩) else none) = some w := e
            split at e
            · rename_i hz
              cases e2 : atI z.cps.toList i with
              | none => rw [e2] at e; cases e
              | some c =>
                rw [e2] at e; cases e
                cases RpC.str rx
                exact .inr (.inr ⟨z, i, c, rfl, rfl, hz, e2, p2.here o _ (.str _)⟩)
            · cases e
          | none => cases e
          | bool _ => cases e
          | int _ => cases e
          | dict _ => cases e
    | _ => exact p.elim

/-! parts -/
def EvO (C : Ctx) (E : XK) (to : TO) (m : Sm (Option Int)) : Prop := ∀ (H0 : Hp) (g : G) (M : Store) (H : Hp) (σ : L2.St) (ρ : Rho) (Q : Option Int → Hp → Prop), Ok C g M H → RSt C H0 g H σ ρ →
  Post C E g H (m ρ M) (fun x _ _ H' => Q x H') → to σ H Q
def oN : Sm (Option Int) := fun _ M => .ok none M
def oS (m : Sm Val) : Sm (Option Int) := fun ρ M => (m ρ M).bind fun x M1 => match x with
  | .d (.int i) => .ok (some i) M1
  | _ => .stuck
theorem eo_none : EvO C E tNoPart oN := fun H0 g M H σ ρ Q o r p => p.here o
theorem eo_some (h : EvE C E te m) : EvO C E (tPart te) (oS m) := fun H0 g M H σ ρ Q o r p =>
  h H0 g M H σ ρ _ o r (p.bind.imp fun x g' M' H' o' st k v rv => by
    cases x with
    | ref n => exact k.elim
    | scr n => exact k.elim
    | d x =>
      cases x with
      | int i => exact ⟨i, rint rv, k.here o'⟩
      | _ => exact k.elim)
def cut {α : Type} (xs : List α) (lo hi : Option Int) : List α := (xs.drop (HT.sIx xs.length 0 lo)).take (HT.sIx xs.length xs.length hi - HT.sIx xs.length 0 lo)
def fSl (lo hi : Option Int) : PyData → Option PyData
  | .list ds => some (.list (cut ds lo hi))
  | .tuple ds => some (.tuple (cut ds lo hi))
  | .str z => if z.length ≤ sizeLine then some (.str (cutS z lo hi)) else none
  | _ => none
/-- t[lo:hi], its object known -/
def rSlS (K : PySem.W.Frag) : V → Option Int → Option Int → Hp → VK → Prop := fun x lo hi H Q => ∃ a xs, x = .ref a ∧ SqT K H a xs ∧
  (HT.sIx xs.length 0 lo = 0 ∧ HT.sIx xs.length xs.length hi = xs.length → Q (.ref a) H) ∧ (¬ (HT.sIx xs.length 0 lo = 0 ∧ HT.sIx xs.length xs.length hi = xs.length) → NewT H (cutV xs lo hi) Q)
theorem sl_tupS : SlR X (rSlS X.K) := by
  rintro pins s σ H _ v vl vu lo hi sl Q I rx hs pl pu ⟨a, xs, rfl, ha, c1, c2⟩
  obtain rfl : v = .ref a := rx
  obtain ⟨is, r, t, hz⟩ := I.tuple ha
  have n : is.toArray.size = xs.length := by rw [List.size_toArray, r.length]
  refine ⟨"tuple", _, PyProof.Rows.slot_tuple_getitem.lookup, t.typeIs, ?_⟩
  rcases Classical.em (HT.sIx xs.length 0 lo = 0 ∧ HT.sIx xs.length xs.length hi = xs.length) with e | e
  · exact getItem_tuple_whole t hs pl pu (by rw [n]; exact e) ⟨.ref a, H, I, rfl, c1 e⟩
  · refine HT.getItem_tuple_cut t hs pl pu (by rw [n]; exact e) ?_ (by rw [n]; exact hz)
    rw [n]
    exact newT_go I ((r.drop _).take _) (Nat.le_trans (cutV_length xs lo hi) hz) (c2 e)
def rSlZ (K : PySem.W.Frag) : V → Option Int → Option Int → Hp → VK → Prop := fun x lo hi H Q => rSlL K x lo hi H Q ∨ rSlS K x lo hi H Q ∨ L2.rSlS x lo hi H Q
theorem sl_z : SlR X (rSlZ X.K) := sl_list.or (sl_tupS.or sl_str)
def eSl (m : Sm Val) (ml mh : Sm (Option Int)) : Sm Val := fun ρ M => (m ρ M).bind fun x M1 => (ml ρ M1).bind fun lo M2 => (mh ρ M2).bind fun hi M3 => lift1 (fSl lo hi) x M3
theorem RpAll.cut {K : PySem.W.Frag} {S : Hp} {vs : List V} {ds : List PyData} (h : RpAll K S vs ds) (lo hi : Option Int) : RpAll K S (cutV vs lo hi) (Z.cut ds lo hi) := by
  unfold cutV Z.cut
  rw [h.length]
  exact (h.drop _).take _
theorem cut_all {α : Type} {xs : List α} {lo hi : Option Int} (h1 : HT.sIx xs.length 0 lo = 0) (h2 : HT.sIx xs.length xs.length hi = xs.length) : cut xs lo hi = xs := by
  unfold cut; rw [h1, h2]; simp
theorem ev_sl {tl th : TO} {ml mh : Sm (Option Int)} (h : EvW C E te m) (hl : EvO C E tl ml) (hh : EvO C E th mh) : EvE C E (tSl (rSlZ C.K) te tl th) (eSl m ml mh) := fun H0 g M H σ ρ Q o r p =>
  h H0 g M H σ ρ _ o r (p.bind.imp fun x g' M' H' o' st k v rv => hl H0 g' M' H' σ ρ _ o' (r.step st) (k.bind.imp fun lo g2 M2 H2 o2 st2 k2 => hh H0 g2 M2 H2 σ ρ _ o2 ((r.step st).step st2) (k2.bind.imp fun hi g3 M3 H3 o3 st3 k3 => by
    unfold lift1 at k3
    cases e : load M3 x with
    | none => rw [e] at k3; exact k3.elim
    | some a =>
      rw [e] at k3
      simp only at k3
      have ra := (((rv.step st2).step st3).here o3).load o3 e
      cases a with
      | list ds =>
        obtain ⟨a, vs, rfl, ha, h1⟩ := RpC.list o3.ex ra
        exact .inl ⟨a, vs, rfl, SqL.of ha, fun q hq => k3.at (o3.newS (o := .lst (cutV vs lo hi)) hq) _ (.lst upd_same (RpAll.mono (same_new (o3.free hq).1) _ _ (h1.cut lo hi)))⟩
      | tuple ds =>
        have rs := ra.tupS
        obtain ⟨a, vs, rfl, ha, h1⟩ := RpC.tuple o3.ex ra
        have hl := h1.length
        refine .inr (.inl ⟨a, vs, rfl, ha, fun hw => ?_, fun _ q ob hq hd => k3.at (o3.newS (o := .frz ob (.tup (cutV vs lo hi))) hq) _ (.tup (.new hd) (RpAll.mono (same_new (o3.free hq).1) _ _ (h1.cut lo hi)))⟩)
        rw [hl] at hw
        simp only [fSl, cut_all hw.1 hw.2] at k3
        exact k3.here o3 _ rs
      | str z =>
        simp only [fSl] at k3
        by_cases hz : z.length ≤ sizeLine
        · simp only [if_pos hz] at k3
          cases RpC.str ra
          exact .inr (.inr ⟨z, rfl, hz, k3.here o3 _ (.str _)⟩)
        · simp only [if_neg hz] at k3; exact k3.elim
      | none => exact k3.elim
      | bool _ => exact k3.elim
      | int _ => exact k3.elim
      | dict _ => exact k3.elim)))
end
end Z

/-! Z, part 10: built-in functions. -/
namespace Z
open PySem PySem.Spec PyProof.Rows L2

section
variable {X : Cx} {C : Ctx} {E : XK} {g g' : G} {H H' H0 : Hp} {M M' : Store}
variable {ta tb tc te : TE} {ma mb mc m : Sm Val} {tA : TA} {mA : Sm (List Val)}
def CbG (C : Ctx) (E : XK) (r : List V → Hp → VK → Prop) (f : List Val → Store → Res Val) : Prop := ∀ (g : G) (M : Store) (H : Hp) (vs : List V) (xs : List Val) (Q : VK), Ok C g M H → Paired (RepX C g H) vs xs →
  Post C E g H (f xs M) (fun z g' _ H' => ∀ u, Rep C g' u z → Q u H') → r vs H Q
theorem pairedX {vs : List V} {xs : List Val} (o : Ok C g M H) (h : Paired (RepW C g H) vs xs) : Paired (RepX C g H) vs xs := Paired.mapP h fun _ _ r => r.here o
theorem ev_cbG {r : List V → Hp → VK → Prop} {f : List Val → Store → Res Val} (op : CbG C E r f) (ha : EvAW C E tA mA) : EvE C E (tCB r tA) (fun ρ M => (mA ρ M).bind f) := fun H0 g M H σ ρ Q o r p =>
  ha H0 g M H σ ρ _ o r (p.bind.imp fun xs g' M' H' o' st k vs rs => op g' M' H' vs xs Q o' (pairedX o' rs) k)
/-! whole numbers, truth values out of data -/
def intsD : List PyData → Option (List Int)
  | [] => some []
  | .int i :: r => (intsD r).map (i :: ·)
  | _ :: _ => none
def boolsD : List PyData → Option (List Bool)
  | [] => some []
  | .bool i :: r => (boolsD r).map (i :: ·)
  | _ :: _ => none
@[simp] theorem ints_map (xs : List Int) : intsD (xs.map PyData.int) = some xs := by
  induction xs with
  | nil => rfl
  | cons x r ih => simp [intsD, ih]
@[simp] theorem bools_map (xs : List Bool) : boolsD (xs.map PyData.bool) = some xs := by
  induction xs with
  | nil => rfl
  | cons x r ih => simp [boolsD, ih]
theorem ints_v {K : PySem.W.Frag} {S : Hp} : ∀ {ds : List PyData} {vs : List V} {ns : List Int}, RpAll K S vs ds → intsD ds = some ns → vs = ns.map V.int
  | [], _, ns, h, e => by simp [intsD] at e; subst e; cases h; rfl
  | d :: ds, _, ns, h, e => by
    cases h with
    | cons h1 h2 =>
      cases d with
      | int i =>
        simp [intsD] at e
        obtain ⟨ms, e1, rfl⟩ := e
        rw [ints_v h2 e1, rint h1]; rfl
      | _ => simp [intsD] at e
theorem bools_v {K : PySem.W.Frag} {S : Hp} : ∀ {ds : List PyData} {vs : List V} {ns : List Bool}, RpAll K S vs ds → boolsD ds = some ns → vs = ns.map V.bl
  | [], _, ns, h, e => by simp [boolsD] at e; subst e; cases h; rfl
  | d :: ds, _, ns, h, e => by
    cases h with
    | cons h1 h2 =>
      cases d with
      | bool i =>
        simp [boolsD] at e
        obtain ⟨ms, e1, rfl⟩ := e
        rw [bools_v h2 e1, rbl h1]; rfl
      | _ => simp [boolsD] at e
/-! sum, all -/
def fSum : List PyData → Option PyData
  | [.list ds] => (intsD ds).map fun ns => .int ns.sum
  | [.tuple ds] => (intsD ds).map fun ns => .int ns.sum
  | _ => none
def fAll : List PyData → Option PyData
  | [.list ds] => (boolsD ds).map fun ns => .bool (ns.all id)
  | _ => none
def fAbs : List PyData → Option PyData
  | [.int i] => some (.int (if i < 0 then -i else i))
  | _ => none
def fMax2 : List PyData → Option PyData
  | [.int i, .int j] => some (.int (if j > i then j else i))
  | _ => none
def fMin2 : List PyData → Option PyData
  | [.int i, .int j] => some (.int (if j < i then j else i))
  | _ => none
theorem CallR.of {f : Value} {r r' : List V → Hp → VK → Prop} (h : CallR X f r) (i : ∀ x H Q, r' x H Q → r x H Q) : CallR X f r' := fun pins s σ H xs us Q I rs q => h pins s σ H xs us Q I rs (i _ _ _ q)
theorem rps1 {K : PySem.W.Frag} {S : Hp} {vs : List V} {d : PyData} (h : RpAll K S vs [d]) : ∃ v, vs = [v] ∧ Rp K S v d := by
  cases h with
  | cons h1 h2 => cases h2; exact ⟨_, rfl, h1⟩
theorem rps2 {K : PySem.W.Frag} {S : Hp} {vs : List V} {d d' : PyData} (h : RpAll K S vs [d, d']) : ∃ v u, vs = [v, u] ∧ Rp K S v d ∧ Rp K S u d' := by
  cases h with
  | cons h1 h2 =>
    cases h2 with
    | cons h3 h4 => cases h4; exact ⟨_, _, rfl, h1, h3⟩
theorem sum_tup (hh : X.A.handled = none) {s : Shared} {t : Addr} {vs : List Value} {ns : List Int} {Q : Value → Shared → Prop} {E : Value → Shared → Prop} (hl : s.heap.IsTuple t vs.toArray) (hi : IntsAre vs ns)
    (h : ∀ h' tk t', (∀ b o, s.heap.get? b = some o → h'.get? b = some o) → Q (.int ns.sum t') { s with heap := h', toks := tk }) : wpAny (model X.prog X.w) X.A (call (.builtin "sum") [.ref t]) Q E s := by
  obtain ⟨xs, hx⟩ := hi.allInts.items
  have hn : numsOf vs.toArray.toList = ns := by rw [show vs.toArray.toList = vs from rfl, hi.numsOf]
  rw [hx] at hl hn
  rw [nums_intItems] at hn
  refine PySem.W.ktm_sumG hh hl fun h' tk t' hk => ?_
  have := h h' tk t' hk
  rw [preSum_eq, List.take_of_length_le (by simp), hn]
  exact this
theorem cb_sum (hc : X.calm = true) : CallR X (.builtin "sum") (rFn X.K fSum) := by
  intro pins s σ H vs us Q I r h
  obtain ⟨as, z, v, ra, e, fz, q⟩ := h
  unfold fSum at e
  split at e
  · rename_i ds
    cases e1 : intsD ds with
    | none => rw [e1] at e; cases e
    | some ns =>
      rw [e1] at e; cases e; cases fz
      obtain ⟨v, rfl, rv⟩ := rps1 ra
      cases rv with
      | lst h1 h2 =>
        have := ints_v h2 e1
        subst this
        exact cr_sum hc pins s σ H _ us Q I r ⟨_, ns, rfl, SqL.of h1, q⟩
  · rename_i ds
    cases e1 : intsD ds with
    | none => rw [e1] at e; cases e
    | some ns =>
      rw [e1] at e; cases e; cases fz
      obtain ⟨v, rfl, rv⟩ := rps1 ra
      cases rv with
      | tup h1 h2 =>
        have := ints_v h2 e1
        subst this
        obtain ⟨its, rv, hl, _⟩ := I.tuple h1.1
        rw [Vals.ref1 r]
        exact sum_tup (I.ok.hd hc) hl rv.ints fun h' tk t' hk => ⟨.int _, H, I.kept hk, ⟨_, rfl⟩, q⟩
  · cases e
theorem cb_all (hc : X.calm = true) : CallR X (.builtin "all") (rFn X.K fAll) := by
  intro pins s σ H vs us Q I r h
  obtain ⟨as, z, v, ra, e, fz, q⟩ := h
  unfold fAll at e
  split at e
  · rename_i ds
    cases e1 : boolsD ds with
    | none => rw [e1] at e; cases e
    | some ns =>
      rw [e1] at e; cases e; cases fz
      obtain ⟨v, rfl, rv⟩ := rps1 ra
      cases rv with
      | lst h1 h2 =>
        have := bools_v h2 e1
        subst this
        exact cr_all hc pins s σ H _ us Q I r ⟨_, ns, rfl, SqL.of h1, q⟩
  · cases e
theorem cb_abs : CallR X (.builtin "abs") (rFn X.K fAbs) := CallR.of call_abs fun vs H Q ⟨as, z, v, ra, e, fz, q⟩ => by
  unfold fAbs at e
  split at e
  · cases e; cases fz
    obtain ⟨v, rfl, rv⟩ := rps1 ra
    cases rint rv
    exact ⟨_, rfl, q⟩
  · cases e
theorem cb_max2 (hc : X.calm = true) : CallR X (.builtin "max") (rFn X.K fMax2) := CallR.of (call_max2 hc) fun vs H Q ⟨as, z, v, ra, e, fz, q⟩ => by
  unfold fMax2 at e
  split at e
  · cases e; cases fz
    obtain ⟨v, u, rfl, rv, ru⟩ := rps2 ra
    cases rint rv; cases rint ru
    exact ⟨_, _, rfl, q⟩
  · cases e
theorem cb_min2 (hc : X.calm = true) : CallR X (.builtin "min") (rFn X.K fMin2) := CallR.of (call_min2 hc) fun vs H Q ⟨as, z, v, ra, e, fz, q⟩ => by
  unfold fMin2 at e
  split at e
  · cases e; cases fz
    obtain ⟨v, u, rfl, rv, ru⟩ := rps2 ra
    cases rint rv; cases rint ru
    exact ⟨_, _, rfl, q⟩
  · cases e
theorem fl_sum : ∀ a z, fSum a = some z → (flat z).isSome = true := fun a z h => by
  unfold fSum at h; split at h
  · simp at h; obtain ⟨_, _, rfl⟩ := h; rfl
  · simp at h; obtain ⟨_, _, rfl⟩ := h; rfl
  · cases h
theorem fl_all : ∀ a z, fAll a = some z → (flat z).isSome = true := fun a z h => by
  unfold fAll at h; split at h
  · simp at h; obtain ⟨_, _, rfl⟩ := h; rfl
  · cases h
theorem fl_abs : ∀ a z, fAbs a = some z → (flat z).isSome = true := fun a z h => by unfold fAbs at h; split at h <;> cases h; rfl
theorem fl_max2 : ∀ a z, fMax2 a = some z → (flat z).isSome = true := fun a z h => by unfold fMax2 at h; split at h <;> cases h; rfl
theorem fl_min2 : ∀ a z, fMin2 a = some z → (flat z).isSome = true := fun a z h => by unfold fMin2 at h; split at h <;> cases h; rfl
/-! len -/
def rLenZ : (K : PySem.W.Frag) → List V → Hp → VK → Prop := fun K xs H Q => (∃ p ys, xs = [.ref p] ∧ (SqL K H p ys ∨ SqT K H p ys) ∧ Q (.int ys.length) H) ∨
  (∃ z, xs = [.str z] ∧ z.length ≤ sizeLine ∧ Q (.int z.length) H) ∨ (∃ a kvs, xs = [V.ref a] ∧ H a = some (.dK kvs) ∧ Q (.int kvs.length) H)
theorem cb_len : CallR X (.builtin "len") (rLenZ X.K) := L2.CallR.or call_len_seq (L2.CallR.or call_len_str call_lenD)
def lenV (M : Store) : Val → Option Nat
  | .scr ns => some ns.length
  | .d (.list ds) => some ds.length
  | .d (.tuple ds) => some ds.length
  | .d (.dict ds) => some ds.length
  | .d (.str z) => if z.length ≤ sizeLine then some z.length else none
  | .ref n => match M[n]? with
    | some (.lst xs) => some xs.length
    | some (.tup xs) => some xs.length
    | some (.dic xs) => some xs.length
    | _ => none
  | _ => none
@[simp] theorem lenV_l (M : Store) (ds : List PyData) : lenV M (.d (.list ds)) = some ds.length := rfl
@[simp] theorem lenV_t (M : Store) (ds : List PyData) : lenV M (.d (.tuple ds)) = some ds.length := rfl
@[simp] theorem lenV_s (M : Store) (ds : List Int) : lenV M (.scr ds) = some ds.length := rfl
def fLen (xs : List Val) (M : Store) : Res Val := match xs with
  | [x] => match lenV M x with
    | some n => .ok (.d (.int (n : Int))) M
    | none => .stuck
  | _ => .stuck
theorem RpKv.length {K : PySem.W.Frag} {S : Hp} : ∀ {ds : List (PyData × PyData)} {vs : List (Key × V)}, RpKv K S vs ds → vs.length = ds.length
  | [], _, h => by cases h; rfl
  | d :: ds, _, h => by
    cases h with
    | cons h1 h2 => simp [RpKv.length h2]
theorem fLen_at : CbG C E (rLenZ C.K) fLen := fun g M H vs xs Q o rx p => by
  match vs, xs, rx, p with
  | [], _, .nil, p => exact p.elim
  | _ :: _ :: _, _, .cons _ (.cons _ _), p => exact p.elim
  | [v], [x], .cons rx .nil, p =>
    have p2 : Post C E g H (match lenV M x with
      | some n => Res.ok (Val.d (.int (n : Int))) M
      | none => .stuck) (fun z g' _ H' => ∀ u, Rep C g' u z → Q u H') := p
    clear p
    cases e : lenV M x with
    | none => rw [e] at p2; exact p2.elim
    | some n =>
      rw [e] at p2
      have q : Q (.int (n : Int)) H := p2.here o _ (.int _)
      clear p2
      cases x with
      | scr ns =>
        obtain ⟨a, rfl, ha⟩ := rx
        have e : some ns.length = some n := e
        cases e
        exact .inl ⟨a, _, rfl, .inl (sqlMono o.ex ha), by rw [List.length_map]; exact q⟩
      | ref k =>
        obtain ⟨a, h1, rfl⟩ := rx
        have e : (match M[k]? with
          | some (.lst xs) => some xs.length
          | some (.tup xs) => some xs.length
          | some (.dic xs) => some xs.length
          | _ => none) = some n := e
        cases hm : M[k]? with
        | none => rw [hm] at e; cases e
        | some nd =>
          rw [hm] at e
          have hn := o.node k a nd h1 hm
          cases nd with
          | lst xs =>
            obtain ⟨vs, k1, k2⟩ := hn
            cases e
            exact .inl ⟨a, vs, rfl, .inl (SqL.of k1), by rw [Paired.length k2]; exact q⟩
          | tup xs =>
            obtain ⟨vs, k1, k2⟩ := hn
            cases e
            exact .inl ⟨a, vs, rfl, .inr (.inl k1), by rw [Paired.length k2]; exact q⟩
          | dic xs =>
            obtain ⟨vs, k1, k2⟩ := hn
            cases e
            exact .inr (.inr ⟨a, vs, rfl, k1, by rw [Paired.length k2]; exact q⟩)
          | obj _ _ => cases e
          | dead => cases e
      | d x =>
        cases x with
        | list ds =>
          obtain ⟨a, vs, rfl, ha, h1⟩ := RpC.list o.ex rx
          cases e
          exact .inl ⟨a, vs, rfl, .inl (SqL.of ha), by rw [h1.length]; exact q⟩
        | tuple ds =>
          obtain ⟨a, vs, rfl, ha, h1⟩ := RpC.tuple o.ex rx
          cases e
          exact .inl ⟨a, vs, rfl, .inr ha, by rw [h1.length]; exact q⟩
        | dict ds =>
          obtain ⟨a, vs, rfl, ha, h1⟩ := RpC.dict o.ex rx
          cases e
          exact .inr (.inr ⟨a, vs, rfl, ha, by rw [h1.length]; exact q⟩)
        | str z =>
          have e : (if z.length ≤ sizeLine then some z.length else none) = some n := e
          split at e
          · rename_i hz
            cases e
            cases RpC.str rx
            exact .inr (.inl ⟨z, rfl, hz, q⟩)
          · cases e
        | none => cases e
        | bool _ => cases e
        | int _ => cases e

/-! isinstance -/
def rIsaZ (K : PySem.W.Frag) (T : String) (p : PyData → Bool) : List V → Hp → VK → Prop := fun xs H Q => ∃ v d, xs = [v, .ty T] ∧ Rp K H v d ∧ Q (.bl (p d)) H
theorem cb_isa {T : String} {p : PyData → Bool} (h : ∀ (s : Shared) (v : Value) (d : PyData) (as : List Addr) (Q E : Value → Shared → Prop), Reads s.heap v d as → (∀ tk, s.toks ≤ tk → Q (.bool (p d)) { s with toks := tk }) → wpAny (model X.prog X.w) X.A (call (.builtin "isinstance") [v, .type T]) Q E s) :
    CallR X (.builtin "isinstance") (rIsaZ X.K T p) := by
  intro pins s σ H vs us Q I r hq
  obtain ⟨v, d, rfl, rd, q⟩ := hq
  cases r with
  | cons r1 r2 =>
    cases r2 with
    | cons r2 r3 =>
      cases r3
      cases r2
      obtain ⟨as, rs⟩ := Rp.reads I (Same.refl H) d _ _ rd r1
      exact h s _ d as _ _ rs fun tk _ => ⟨.bl _, H, I.tok tk, rfl, q⟩
theorem cb_isT : CallR X (.builtin "isinstance") (rIsaZ X.K "tuple" PyData.isTuple) := cb_isa fun s v d as Q E r h => PySem.W.isinstance_tuple_data r h
theorem cb_isI : CallR X (.builtin "isinstance") (rIsaZ X.K "int" PyData.isInt) := cb_isa fun s v d as Q E r h => PySem.W.isinstance_int_data r h
theorem cb_isB : CallR X (.builtin "isinstance") (rIsaZ X.K "bool" PyData.isBool) := cb_isa fun s v d as Q E r h => PySem.W.isinstance_bool_data r h
def eIsa (p : PyData → Bool) (ma : Sm Val) : Sm Val := e1 (fun d => some (.bool (p d))) ma
theorem ev_isa {T : String} {p : PyData → Bool} (ha : EvW C E ta ma) : EvE C E (tCB (rIsaZ C.K T p) (tCons ta (tCons (tC (.ty T)) tNil))) (eIsa p ma) := fun H0 g M H σ ρ Q o r pp =>
  ha H0 g M H σ ρ _ o r (pp.bind.imp fun x g' M' H' o' st k v rv => by
    unfold lift1 at k
    cases e : load M' x with
    | none => rw [e] at k; exact k.elim
    | some a =>
      rw [e] at k
      exact ⟨v, a, rfl, ((rv.here o').load o' e).rp o'.ex, k.here o' _ (.bl _)⟩)

/-! divmod, tuple(..), list(..) -/
def fDivmod (xs : List Val) (M : Store) : Res Val := match xs with
  | [.d (.int i), .d (.int j)] => if 0 < j ∧ Builtin.divisionGoesByPylong i j = false then .ok (.d (.tuple [.int (i / j), .int (i % j)])) M else .stuck
  | _ => .stuck
theorem fDivmod_at : CbG C E (fun xs H Q => ∃ i j, xs = [.int i, .int j] ∧ CDivP i j ∧ ∀ p, H p = none → Q (.ref p) (upd H p (.tup [.int (i / j), .int (i % j)]))) fDivmod := fun g M H vs xs Q o rx p => by
  unfold fDivmod at p
  split at p
  · split at p
    · rename_i i j hc
      cases rx with
      | cons r1 r2 =>
        cases r2 with
        | cons r2 r3 =>
          cases r3
          cases RpC.int r1
          cases RpC.int r2
          exact ⟨i, j, rfl, hc, fun q hq => p.at (o.newS (o := .tup [.int (i / j), .int (i % j)]) hq) _ (.tup (.weak rfl) (.cons (.int _) (.cons (.int _) .nil)))⟩
    · exact p.elim
  · exact p.elim
def eTupOf (m : Sm Val) : Sm Val := fun ρ M => (m ρ M).bind fun x M1 => match itemsK M1 true x with
  | some xs => mkTup xs M1
  | none => match itemsK M1 false x with
    | some _ => .ok x M1
    | none => .stuck
theorem itemsK_repx {k : Bool} {v : V} {x : Val} {xs : List Val} (o : Ok C g M H) (r : RepX C g H v x) (e : itemsK M k x = some xs) : ∃ a vs, v = .ref a ∧ sqK k C.K H a vs ∧ Reps C g vs xs := by
  cases x with
  | scr ns => cases k <;> cases e
  | d x =>
    cases x with
    | list ds =>
      obtain ⟨a, vs, rfl, ha, h1⟩ := RpC.list o.ex r
      cases k with
      | true => cases e; exact ⟨a, vs, rfl, SqL.of ha, reps_of h1⟩
      | false => cases e
    | tuple ds =>
      obtain ⟨a, vs, rfl, ha, h1⟩ := RpC.tuple o.ex r
      cases k with
      | true => cases e
      | false => cases e; exact ⟨a, vs, rfl, ha, reps_of h1⟩
    | _ => cases k <;> cases e
  | ref n =>
    obtain ⟨a, h1, rfl⟩ := r
    obtain ⟨vs, q1, q2⟩ := itemsK_rep (x := .ref n) o ⟨a, h1, rfl⟩ e
    exact ⟨a, vs, rfl, q1, q2⟩
/-- tuple(x): a new tuple, its object known; of a tuple: itself -/
def kTupS (K : PySem.W.Frag) (x : V) (H : Hp) (Q : VK) : Prop := (∃ a xs, x = .ref a ∧ SqL K H a xs ∧ NewT H xs Q) ∨ ∃ a xs, x = .ref a ∧ SqT K H a xs ∧ Q (.ref a) H
theorem pe_tupleOfS {X : Cx} {e : Expr} {te : TE} {p1 p2 : Pos} (hg : Gl X "tuple") (hm : X.mg "tuple" = none) (he : PE X e te) (na : starEach [e] X.env = (false, eval e X.env) :: starEach [] X.env := by rfl) :
    PE X (.Call (.Name "tuple" p1) [e] [] p2) (tThen te (kTupS X.K)) := by
  constructor
  intro pins s σ H Q I h
  refine Call_ (ld_blt I hg hm boot_tuple (PyProof.Rows.callWith_type1 (one_arg he I h ?_ na) na))
  rintro v s2 x H2 I2 r (⟨a, xs, rfl, hl, q⟩ | ⟨a, xs, rfl, ht, q⟩)
  · obtain rfl : v = .ref a := r
    obtain ⟨is, rv, pl, hz⟩ := I2.list hl
    refine call_tuple_list pl.isList (fun h' hk => newT_go (s := { s2 with heap := h' }) (I2.kept (t' := s2.toks) hk) rv hz q) ?_
    rw [List.size_toArray, ← rv.length]; exact hz
  · obtain rfl : v = .ref a := r
    obtain ⟨is, -, pl, -⟩ := I2.tuple ht
    exact call_tuple_tup pl ⟨.ref a, H2, I2, rfl, q⟩
theorem ev_tupOf (h : EvW C E te m) : EvE C E (tThen te (kTupS C.K)) (eTupOf m) := fun H0 g M H σ ρ Q o r p =>
  h H0 g M H σ ρ _ o r (p.bind.imp fun x g' M' H' o' st k v rv => by
    cases e : itemsK M' true x with
    | some xs =>
      simp only [e] at k
      obtain ⟨a, vs, rfl, h1, h2⟩ := itemsK_repx o' (rv.here o') e
      refine .inl ⟨a, vs, rfl, h1, fun q ob hq hd => ?_⟩
      unfold mkTup at k
      cases e : pures xs with
      | some ds =>
        rw [e] at k
        refine k.at (o'.newS (o := .frz ob (.tup vs)) hq) _ (.tup (.new hd) (RpAll.mono (same_new (o'.free hq).1) _ _ (repAll_of h2 e)))
      | none =>
        rw [e] at k
        exact k.at (o'.newM (o := .frz ob (.tup vs)) (nd := .tup xs) hq fun g2 up _ => ⟨vs, .inr ⟨ob, upd_same⟩, Paired.mapP h2 up⟩) _ (rep_new o')
    | none =>
      simp only [e] at k
      cases e2 : itemsK M' false x with
      | none => rw [e2] at k; exact k.elim
      | some xs =>
        rw [e2] at k
        obtain ⟨a, vs, rfl, h1, h2⟩ := itemsK_repx o' (rv.here o') e2
        refine .inr ⟨a, vs, rfl, h1, k.here o' _ ?_⟩
        have rr := rv.here o'
        cases x with
        | scr ns => exact rr
        | ref n => exact rr
        | d x =>
          cases x with
          | tuple ds => exact RpC.tupS rr
          | _ => cases e2)
/-- list(xs): new, nothing else holds it -/
def lListOf (m : Sm Val) : Sm (List Val) := fun ρ M => (m ρ M).bind fun x M1 => match itemsK M1 true x with
  | some xs => .ok xs M1
  | none => match itemsK M1 false x with
    | some xs => .ok xs M1
    | none => .stuck
/-- list(range(n)) -/
def rgD (n : Int) : List Val := (List.range n.toNat).map fun i : Nat => Val.d (.int (i : Int))
def lRange (m : Sm Val) : Sm (List Val) := fun ρ M => (m ρ M).bind fun x M1 => match x with
  | .d (.int n) => if 0 ≤ n ∧ n ≤ 100000 then .ok (rgD n) M1 else .stuck
  | _ => .stuck
theorem reps_rg {n : Int} : Reps C g (rgV 0 n) (rgD n) := by
  unfold rgV rgD
  have : (n - 0).toNat = n.toNat := by omega
  rw [this]
  generalize List.range n.toNat = l
  induction l with
  | nil => exact .nil
  | cons x r ih => exact .cons (by show Rep C g (V.int (0 + (x : Int))) (.d (.int x)); rw [Int.zero_add]; exact Rp.int _) ih
theorem el_range (h : EvE C E te m) : EvL C E (tLstRg (tRg1 te)) (lRange m) := fun H0 g M H σ ρ Q o r p =>
  h H0 g M H σ ρ _ o r (p.bind0.imp fun x g' M' H' o' st k v rv => by
    cases x with
    | scr ns => exact k.elim
    | ref n => exact k.elim
    | d x =>
      cases x with
      | int n =>
        simp only at k
        split at k
        · rename_i hc
          refine ⟨n, rint rv, RgOk.of_le (by omega) (by omega) (by omega) (by omega), fun q hq => ?_⟩
          have nw := o'.newO (o := .lst (rgV 0 n)) hq
          exact k g' (upd H' q (.lst (rgV 0 n))) nw.1 (st.trans nw.2) q _ upd_same reps_rg (o'.free hq).1 (o'.free hq).2 (st.fresh q hq)
        · exact k.elim
      | _ => exact k.elim)
end
end Z

/-! Z, part 11: sorted, min, max; writes to lists by reference; methods. -/
namespace Z
open PySem PySem.Spec PyProof.Rows L2

section
variable {X : Cx} {C : Ctx} {E : XK} {g g' : G} {H H' H0 : Hp} {M M' : Store}
variable {ta tb tc te : TE} {ma mb mc m : Sm Val} {tA : TA} {mA : Sm (List Val)}
def tupNe : PyData → Bool
  | .tuple (_ :: _) => true
  | _ => false
def okSort (ds : List PyData) : Bool := (ds.all fun d => ds.all fun e => PySem.W.alike d e) && (ds.all tupNe || ds.all fun d => !isNone d && !d.isTuple) && decide (PyData.depthAll ds ≤ 90) && decide (ds.length ≤ 100000)
def leD (a b : PyData) : Bool := !PySem.W.dataLt b a
def sortD (ds : List PyData) : List PyData := ds.mergeSort leD
def leP (p q : V × PyData) : Bool := leD p.2 q.2
def rSortZ (K : PySem.W.Frag) : List V → Hp → VK → Prop := fun xs H Q => ∃ p vs ds, xs = [.ref p] ∧ SqL K H p vs ∧ RpAll K H vs ds ∧ okSort ds = true ∧ ∀ q, H q = none → Q (.ref q) (upd H q (.lst (((vs.zip ds).mergeSort leP).map Prod.fst)))
theorem depth_le : ∀ {ds : List PyData} {d : PyData}, d ∈ ds → d.depth ≤ PyData.depthAll ds
  | x :: r, d, h => by
    have e : PyData.depthAll (x :: r) = max x.depth (PyData.depthAll r) := by simp [PyData.depthAll]
    rcases List.mem_cons.mp h with rfl | h
    · omega
    · have := depth_le h; omega
theorem okSort_inv {ds : List PyData} (h : okSort ds = true) : PySem.W.AllAlike ds ∧ PySem.W.Sortable ds ∧ PyData.depthAll ds ≤ 90 ∧ ds.length ≤ 100000 := by
  simp only [okSort, Bool.and_eq_true, decide_eq_true_eq, Bool.or_eq_true, List.all_eq_true] at h
  obtain ⟨⟨⟨h1, h2⟩, h3⟩, h4⟩ := h
  refine ⟨fun d hd e he => h1 d hd e he, ?_, h3, h4⟩
  rcases h2 with h2 | h2
  · refine .inl fun d hd => ?_
    have := h2 d hd
    unfold tupNe at this
    split at this
    · exact ⟨_, _, rfl⟩
    · cases this
  · refine .inr fun d hd => ?_
    have := h2 d hd
    simp at this
    refine ⟨fun z => by subst z; simp [isNone] at this, fun xs z => by subst z; simp [PyData.isTuple] at this⟩
theorem each_zip {R : Value → V × PyData → Prop} : ∀ {vs : List V} {ds : List PyData} {us : List Value}, vs.length = ds.length → Vals vs us → (∀ v u d, (v, d) ∈ vs.zip ds → RelV v u → R u (v, d)) → PySem.W.EachIs R us (vs.zip ds)
  | [], _, _, hl, r, h => by cases r; exact .nil
  | v :: vs, [], _, hl, r, h => by simp at hl
  | v :: vs, d :: ds, _, hl, r, h => by
    cases r with
    | cons r1 r2 => exact .cons (h v _ d (by simp) r1) (each_zip (by simpa using hl) r2 fun v u d' hm => h v u d' (by simp [hm]))
theorem vals_each : ∀ {out : List Value} {bs : List (V × PyData)}, PySem.W.EachIs (fun u (b : V × PyData) => RelV b.1 u) out bs → Vals (bs.map Prod.fst) out
  | _, _, .nil => .nil
  | _, _, .cons h t => .cons h (vals_each t)
theorem rp_zip {K : PySem.W.Frag} {S : Hp} {vs : List V} {ds : List PyData} (h : RpAll K S vs ds) : ∀ p ∈ vs.zip ds, Rp K S p.1 p.2 := by
  intro p hp
  obtain ⟨i, hi⟩ := List.mem_iff_getElem?.mp hp
  rw [List.getElem?_zip_eq_some] at hi
  obtain ⟨v, hv, r⟩ := h.get hi.2
  rw [hi.1] at hv
  cases hv
  exact r
theorem snd_zip {K : PySem.W.Frag} {S : Hp} {vs : List V} {ds : List PyData} (h : RpAll K S vs ds) : (vs.zip ds).map Prod.snd = ds := List.map_snd_zip (by rw [h.length]; exact Nat.le_refl _)
theorem cb_sort (hu : Hu X) : CallR X (.builtin "sorted") (rSortZ X.K) := by
  intro pins s σ H vs us Q I r h
  obtain ⟨p, vs, ds, rfl, hs, hr, ok, q⟩ := h
  obtain ⟨its, rv, hl, hz⟩ := I.list hs
  obtain ⟨o1, o2, o3, o4⟩ := okSort_inv ok
  rw [Vals.ref1 r]
  have hsnd := snd_zip hr
  have hlen : (vs.zip ds).length = ds.length := by rw [← List.length_map (f := Prod.snd), hsnd]
  refine PySem.W.sorted_data (enc := Prod.snd) (R := fun u (b : V × PyData) => RelV b.1 u) (bs := vs.zip ds) hl.isList (each_zip hr.length rv fun v u d hm r => r)
    (each_zip hr.length rv fun v u d hm r => Rp.reads I (Same.refl H) d v u (rp_zip hr _ hm) r) (by rw [hsnd]; exact o1) (by rw [hsnd]; exact o2) (by rw [hlen]; exact small5 o4)
    (fun b hb => ?_) fun out h1 h2 => ?_
  · have : b.2 ∈ ds := by rw [← hsnd]; exact List.mem_map_of_mem hb
    have := depth_le this
    unfold Hu at hu; omega
  · obtain ⟨ep, he'⟩ := PyProof.Rows.sortedAll_at s.heap its out.toArray
    have e2 : (vs.zip ds).mergeSort (PySem.W.dataLe false Prod.snd) = (vs.zip ds).mergeSort leP := rfl
    rw [e2] at h2
    have h3 := vals_each h2
    refine ⟨.ref _, upd H (s.heap.objs.size + 1) (.lst (((vs.zip ds).mergeSort leP).map Prod.fst)), I.laid (t' := s.toks) (fun _ _ => PyProof.Rows.sortedAll_old) (Nat.le_succ _) ⟨?_, out, ep, h3, he'⟩, rfl, q _ (I.hok.fresh (Nat.le_succ _))⟩
    rw [List.length_map, List.length_mergeSort, hlen]; exact small5 o4
theorem rps_pairs {K : PySem.W.Frag} {S : Hp} : ∀ {ps : List (V × PyData)}, (∀ p ∈ ps, Rp K S p.1 p.2) → RpAll K S (ps.map Prod.fst) (ps.map Prod.snd)
  | [], _ => .nil
  | p :: ps, h => .cons (h p (by simp)) (rps_pairs fun q hq => h q (by simp [hq]))
theorem sort_rp {K : PySem.W.Frag} {S : Hp} {vs : List V} {ds : List PyData} (h : RpAll K S vs ds) : RpAll K S (((vs.zip ds).mergeSort leP).map Prod.fst) (sortD ds) := by
  have e : sortD ds = ((vs.zip ds).mergeSort leP).map Prod.snd := by
    rw [List.map_mergeSort (r := leP) (f := Prod.snd) (l := vs.zip ds) (s := leD) (fun a _ b _ => rfl), snd_zip h]; rfl
  rw [e]
  exact rps_pairs fun p hp => rp_zip h p (List.mem_mergeSort.mp hp)
def lSort (m : Sm Val) : Sm (List Val) := fun ρ M => (m ρ M).bind fun x M1 => match load M1 x with
  | some (.list ds) => if okSort ds = true then .ok ((sortD ds).map Val.d) M1 else .stuck
  | _ => .stuck
theorem el_sort (h : EvW C E te m) : EvL C E (tCB (rSortZ C.K) (tCons te tNil)) (lSort m) := fun H0 g M H σ ρ Q o r p =>
  h H0 g M H σ ρ _ o r (p.bind0.imp fun x g' M' H' o' st k v rv => by
    cases e : load M' x with
    | none => simp only [e] at k; exact k.elim
    | some a =>
      simp only [e] at k
      cases a with
      | list ds =>
        simp only at k
        by_cases hok : okSort ds = true
        · simp only [if_pos hok] at k
          obtain ⟨a, vs, rfl, ha, h1⟩ := RpC.list o'.ex ((rv.here o').load o' e)
          refine ⟨a, vs, ds, rfl, SqL.of ha, RpAll.mono o'.ex _ _ h1, hok, fun q hq => ?_⟩
          have nw := o'.newO (o := .lst (((vs.zip ds).mergeSort leP).map Prod.fst)) hq
          exact k g' _ nw.1 (st.trans nw.2) q _ upd_same (reps_of (sort_rp h1)) (o'.free hq).1 (o'.free hq).2 (st.fresh q hq)
        · simp only [if_neg hok] at k; exact k.elim
      | _ => exact k.elim)

/-! o[i] = v by reference -/
def gSubM (mo mi : Sm Val) : Tg := fun x ρ M => (mo ρ M).bind fun y M1 => (mi ρ M1).bind fun j M2 => match y, j with
  | .ref n, .d (.int i) => match M2[n]? with
    | some (.lst xs) => match ixN xs.length i with
      | some k => .ok ρ (M2.set n (.lst (xs.set k x)))
      | none => .stuck
    | _ => .stuck
  | _, _ => .stuck
theorem reps_set {vs : List V} {xs : List Val} {v : V} {x : Val} (k : Nat) (h : Reps C g vs xs) (r : Rep C g v x) : Reps C g (vs.set k v) (xs.set k x) := by
  induction h generalizing k with
  | nil => exact .nil
  | cons h1 h2 ih =>
    cases k with
    | zero => exact .cons r h2
    | succ k => exact .cons h1 (ih k)
theorem PostG.bind {α : Type} {g0 : G} {r : Res α} {f : α → Store → Res Rho} {Q : L2.St → Hp → Prop} (s : Step g0 H0 g H) (h : PostG C E H0 g0 g (r.bind f) Q) : Post C E g H r fun x g' M' H' => PostG C E H0 g0 g' (f x M') Q := by
  cases r with
  | ok x M => exact fun g' H' o st => h.le st.le
  | exn c M => exact fun g' H' A o st e => h g' H' A o (s.trans st) e
  | stuck => exact h
theorem eg_sub (ho : EvE C E ta ma) (hi : EvE C E tb mb) : EvG C E (gSub ta tb rSetL) (gSubM ma mb) := fun H0 g0 g M H σ ρ v x Q o s r rv p =>
  ho H0 g M H σ ρ _ o r ((PostG.bind s p).imp fun y g1 M1 H1 o1 s1 k1 w rw => hi H0 g1 M1 H1 σ ρ _ o1 (r.step s1) ((PostG.bind (s.trans s1) k1).imp fun j g2 M2 H2 o2 s2 k2 z rz => by
    cases y with
    | d y => exact k2.elim
    | scr y => exact k2.elim
    | ref n =>
      cases j with
      | ref _ => exact k2.elim
      | scr _ => exact k2.elim
      | d j =>
        cases j with
        | int i =>
          have k2 : PostG C E H0 g0 g2 (match M2[n]? with
            | some (.lst xs) => match ixN xs.length i with
              | some k => Res.ok ρ (M2.set n (.lst (xs.set k x)))
              | none => .stuck
            | _ => .stuck) Q := k2
          cases hm : M2[n]? with
          | none => rw [hm] at k2; exact k2.elim
          | some nd =>
            rw [hm] at k2
            cases nd with
            | lst xs =>
              simp only at k2
              cases hk : ixN xs.length i with
              | none => rw [hk] at k2; exact k2.elim
              | some k =>
                rw [hk] at k2
                obtain ⟨a, ha, rfl⟩ := rw.step s2
                obtain ⟨vs, e1, e2⟩ := o2.node n a _ ha hm
                have w := o2.setM (o := .lst (vs.set k v)) (nd := .lst (xs.set k x)) ha (.inl ⟨vs, e1⟩) ⟨vs.set k v, upd_same, reps_set k e2 (((rv.step s1).step s2))⟩
                refine ⟨a, vs, i, k, rfl, rint rz, e1, by rw [Paired.length e2]; exact hk, ?_⟩
                exact k2 g2 _ σ w.1 ((s.trans s1).trans s2 |>.trans w.2) (Gle.refl _) (((r.step s1).step s2).step w.2)
            | _ => exact k2.elim
        | _ => exact k2.elim))
end
end Z

/-! Z, part 12: defs, calls of them, raise. -/
namespace Z
open PySem PySem.Spec PyProof.Rows L2

def spZ (C : Ctx) (n : Nat) (mf : List Val → Store → Res Val) : Sp := fun vs H Q E => vs.length = n ∧ ∃ (g : G) (M : Store) (xs : List Val), Ok C g M H ∧ Reps C g vs xs ∧ Post C E g H (mf xs M) (fun y g' _ H' => ∀ v, Rep C g' v y → Q v H')
def startR (N : Nat) (xs : List Val) : Rho := xs.map (fun x => some (Slot.sh x)) ++ List.replicate (N - xs.length) none
def outM (f : Fl) (M : Store) : Res Val := match f with
  | .rt x => .ok x M
  | .nx _ => .ok (.d .none) M
  | _ => .stuck
def fnM (n N : Nat) (b : Sm Fl) : List Val → Store → Res Val := fun xs M => if xs.length = n then (b (startR N xs) M).bind outM else .stuck
section
variable {C : Ctx} {E : XK} {g g' : G} {H H' H0 : Hp} {M M' : Store}
theorem start_ok {N : List Str} {vs : List V} {xs : List Val} (h : Reps C g vs xs) : RSt C H0 g H (L2.start N vs) (startR N.length xs) := by
  have hl := Paired.length h
  have key : ∀ (i : Nat) (sl : Slot), (startR N.length xs)[i]? = some (some sl) → ∃ x, xs[i]? = some x ∧ sl = .sh x := fun i sl e => by
    unfold startR at e
    by_cases hi : i < xs.length
    · rw [List.getElem?_append_left (by simpa using hi), List.getElem?_map, List.getElem?_eq_getElem hi] at e
      simp only [Option.map_some] at e
      exact ⟨_, List.getElem?_eq_getElem hi, (Option.some.inj (Option.some.inj e)).symm⟩
    · rw [List.getElem?_append_right (by simpa using hi), List.getElem?_replicate] at e
      split at e <;> cases e
  refine ⟨by simp [L2.start, startR, hl], fun i x e => ?_, fun i x e => ?_, fun i x e => ?_, fun i j a hij o1 o2 => ?_⟩
  · obtain ⟨y, hy, z⟩ := key i _ e
    cases z
    obtain ⟨v, hv, r⟩ := reps_getX h hy
    refine ⟨v, ?_, r⟩
    have := (List.getElem?_eq_some_iff.mp hv).1
    unfold L2.start
    rw [List.getElem?_append_left (by simpa using this), List.getElem?_map, hv]; rfl
  · obtain ⟨y, hy, z⟩ := key i _ e; cases z
  · obtain ⟨y, hy, z⟩ := key i _ e; cases z
  · exfalso
    cases e : (startR N.length xs)[i]? with
    | none => rw [e] at o1; exact o1
    | some s =>
      cases s with
      | none => rw [e] at o1; exact o1
      | some s =>
        obtain ⟨y, hy, rfl⟩ := key i _ e
        rw [e] at o1; exact o1
end
section
variable {P : Program} {w : World} {K : PySem.W.Frag} {mg : Str → Option Value} {base : Heap} {T : List (Addr × Str)}
theorem fnZC {x qual : Str} {st : Stmt} {f : Addr} {fd : FuncData} {N ps : List Str} {k : Nat} {b : Sm Fl} (F : Fun K x qual st f fd) (S : FnScope N ps (defScope st))
    (body : ∀ (cd : Value) (A : Around) (out : List Env) (s : Shared) (H : Hp) (E : XK), fd.code = cd → A.guards = some [] → Room k (A.deeper (envOfC qual (defScope st) s.heap.objs.size f cd)) →
      ∃ t, PSs (cxOf (L2N.CX P w) P w K mg base N qual (defScope st) f cd A out s H E) (defBody st) t ∧ EvS ⟨K, mg, T⟩ E t b) :
    FnG P w K mg base (k + 1) f fd ps (spZ ⟨K, mg, T⟩ ps.length (fnM ps.length N.length b)) := by
  refine fnG_ofC F S (fun vs H Q E h => h.1) fun cd A out s H vs Q E hcd hg hr hp => ?_
  obtain ⟨t, h1, h2⟩ := body cd A out s H E hcd hg hr
  obtain ⟨hl, g, M, xs, o, r, p⟩ := hp
  refine ⟨t, h1, h2 H g g M H _ _ _ o (Step.refl _ _) (start_ok r) ?_⟩
  have hx : xs.length = ps.length := by rw [← Paired.length r]; exact hl
  unfold fnM at p
  rw [if_pos hx] at p
  cases e : b (startR N.length xs) M with
  | stuck => rw [e] at p; exact p.elim
  | exn c M1 => rw [e] at p; exact fun g' H' A o' s' he => p g' H' A o' s' he
  | ok fl M1 =>
    rw [e] at p
    cases fl with
    | nx ρ1 => exact fun g' H' σ' o' s' l r' => p g' H' o' s' .non .non
    | rt y => exact fun g' H' v o' s' l r' => p g' H' o' s' v r'
    | bk ρ1 => exact p.elim
    | ct ρ1 => exact p.elim
theorem fnZ {x qual : Str} {st : Stmt} {f : Addr} {fd : FuncData} {N ps : List Str} {k : Nat} {b : Sm Fl} (F : Fun K x qual st f fd) (S : FnScope N ps (defScope st))
    (body : ∀ (cd : Value) (A : Around) (out : List Env) (s : Shared) (H : Hp) (E : XK), A.guards = some [] → Room k (A.deeper (envOfC qual (defScope st) s.heap.objs.size f cd)) →
      ∃ t, PSs (cxOf (L2N.CX P w) P w K mg base N qual (defScope st) f cd A out s H E) (defBody st) t ∧ EvS ⟨K, mg, T⟩ E t b) :
    FnG P w K mg base (k + 1) f fd ps (spZ ⟨K, mg, T⟩ ps.length (fnM ps.length N.length b)) :=
  fnZC F S fun cd A out s H E _ hg hr => body cd A out s H E hg hr
/-- a def that may be called by its name -/
structure FZ (P : Program) (w : World) (K : PySem.W.Frag) (mg : Str → Option Value) (base : Heap) (T : List (Addr × Str)) (k : Nat) (x : Str) (n : Nat) (mf : List Val → Store → Res Val) : Prop where
  ex : ∃ (f : Addr) (fd : FuncData) (ps : List Str), mg x = some (.ref f) ∧ PySem.W.keepIn K (.ref f) = true ∧ Binds K fd ps [] ∧ FnG P w K mg base k f fd ps (spZ ⟨K, mg, T⟩ n mf)
end
section
variable {X : Cx} {T : List (Addr × Str)} {k n : Nat} {mf : List Val → Store → Res Val} {E : XK} {x : Str} {p pos : Pos} {e : Expr} {es : List Expr} {t : TA}
theorem zp_call {j : Nat} (F : FZ X.prog X.w X.K X.mg X.base T k x n mf) (hgd : X.A.guards = some []) (hr : Room j X.A) (hj : k ≤ j) (hg : Gl X x) (hx : Ps X E) (ha : PA X (e :: es) t) (hdb : (x == ("__debug__" : Str)) = false := by decide)
    (he : starEach (e :: es) X.env = (false, eval e X.env) :: starEach es X.env := by rfl) (hpl : (backTo pos (starEach es X.env)).any (·.1) = false := by rfl) : PE X (.Call (.Name x p) (e :: es) [] pos) (tCall (spZ ⟨X.K, X.mg, T⟩ n mf) [] E t) := by
  obtain ⟨f, fd, ps, h1, h2, h3, h4⟩ := F.ex
  exact pe_callG h4 hgd (hr.mono hj) hg h1 h2 h3 hx ha hdb he hpl
theorem ps_no : Ps X (fun _ _ _ => False) := fun pins σ H s ex s' I ⟨_, _, _, _, _, _, _, _, _, _, _, _, h⟩ => h.elim
end
section
variable {C : Ctx} {E : XK} {tA : TA} {mA : Sm (List Val)} {n : Nat} {mf : List Val → Store → Res Val}
def eCall (n : Nat) (mf : List Val → Store → Res Val) (mA : Sm (List Val)) : Sm Val := fun ρ M => (mA ρ M).bind fun xs M1 => if xs.length = n then mf xs M1 else .stuck
theorem ev_call (ha : EvA C E tA mA) : EvE C E (tCall (spZ C n mf) [] E tA) (eCall n mf mA) := fun H0 g M H σ ρ Q o r p =>
  ha H0 g M H σ ρ _ o r (p.bind.imp fun xs g' M' H' o' st k vs rs => by
    by_cases hl : xs.length = n
    · simp only [if_pos hl] at k
      refine ⟨?_, g', M', xs, o', by simpa using rs, ?_⟩
      · rw [List.append_nil, Paired.length rs]; exact hl
      · cases e : mf xs M' with
        | stuck => rw [e] at k; exact k.elim
        | exn c M1 => rw [e] at k; exact k
        | ok y M1 => rw [e] at k; exact k
    · simp only [if_neg hl] at k; exact k.elim)
/-! raise -/
def tRz (mg : Str → Option Value) (c : Str) (E : XK) : TS := fun D σ H => ∃ A, mg c = some (.ref A) ∧ E (.ref A) none H
def sRaise (c : Str) : Sm Fl := fun ρ M => .exn c M
theorem es_raise {c : Str} {A : Addr} (h : C.mg c = some (.ref A)) : EvS C E (tRz C.mg c E) (sRaise c) := fun H0 g0 g M H σ ρ D o s r p => ⟨A, h, p g H A o s h⟩
end
/-- an exception's class of one's own -/
structure XZ (K : PySem.W.Frag) (mg : Str → Option Value) (c : Str) : Prop where
  ex : ∃ A, mg c = some (.ref A) ∧ PySem.W.excIn K A [.type "ValueError", .type "Exception", .type "BaseException", .type "object"] "ValueError.__new__" = true ∧ PySem.W.keepIn K (.ref A) = true ∧ PySem.W.subIn K (.ref A) (.type "BaseException") = some true ∧ PySem.W.typeIn K (.ref A) = some (.type "type")
theorem zs_raise {X : Cx} {E : XK} {c m : Str} {j : Nat} {p p2 pos pos2 : Pos} (h : XZ X.K X.mg c) (hc : X.calm = true) (tk : L2N.Takes X (fun cls d _ H => E cls d H)) (hg : Gl X c) (hdb : (c == ("__debug__" : Str)) = false := by decide) :
    PS X (.Raise (some (.Call (.Name c p) [.Constant (.str m) j p2] [] pos)) none pos2) (tRz X.mg c E) := by
  obtain ⟨A, h1, h2, h3, h4, h5⟩ := h.ex
  have base := L2N.ps_raise (X := X) (W := fun cls d _ H => E cls d H) (pos := pos2) hc tk (L2N.pmk_own (m := m) (j := j) (p := p) (p2 := p2) (pos := pos) PySem.F.excBase_ValueError h2 h1 h3 (raises_own h4 h5) hg hdb)
  refine ⟨fun pins s σ H D I hw => base.run pins s σ H D I ?_⟩
  obtain ⟨B, h6, h7⟩ := hw
  rw [h1] at h6
  cases h6
  exact h7
end Z

/-! Z, part 13: the law's own call, guards known; the end of a law. -/
namespace Z
open PySem PySem.Spec PyProof.Rows L2

/-- what is tracked at the law's call: the tables, and the script where it is not written -/
def topH (tb : List Addr) (a : Addr) (free : Bool) (oa : Obj) (xs : List V) : Hp := fun b => if b ∈ tb then some (.tbl #[]) else if b = a ∧ free = true then some (.frz oa (.lst xs)) else none
theorem topH_some {tb : List Addr} {a : Addr} {free : Bool} {oa : Obj} {xs : List V} {b : Addr} {u : HO} (h : topH tb a free oa xs b = some u) : (b ∈ tb ∧ u = .tbl #[]) ∨ (b ∉ tb ∧ b = a ∧ free = true ∧ u = .frz oa (.lst xs)) := by
  unfold topH at h
  by_cases h1 : b ∈ tb
  · rw [if_pos h1] at h; cases h; exact .inl ⟨h1, rfl⟩
  · rw [if_neg h1] at h
    by_cases h2 : b = a ∧ free = true
    · rw [if_pos h2] at h; cases h; exact .inr ⟨h1, h2.1, h2.2, rfl⟩
    · rw [if_neg h2] at h; cases h
structure Top (P : Program) (w : World) (K : PySem.W.Frag) (mg : Str → Option Value) (base : Heap) (cs : List (Addr × Addr)) (t : Shared) (a : Addr) (ns : List Int) (H : Hp) : Prop where
  env : Env0 P w K mg base callerA [] t H
  kin : K.In base
  glo : base.Ns mainGlobals mg
  tab : ∀ p ∈ cs, LamX.TabB base mg p.1 p.2
  tb : ∀ p ∈ cs, H p.2 = some (.tbl #[])
  scr : SqL K H a (ns.map V.int)
  sm : ∃ o, base.get? sysModules = some o
  na : ∀ ps, H a ≠ some (.tbl ps)
theorem law_callG {P : Program} {w : World} {K : PySem.W.Frag} {mg mb : Str → Option Value} {fa a : Addr} {cs : List (Addr × Addr)} {k : Nat} {sp : Sp} {t : Shared} {its : List Value} {ns : List Int}
    (kx : K.In t.heap) (g1 : t.heap.Ns mainGlobals mg) (g2 : t.heap.Ns builtinsNs mb) (g3 : ∀ y : Str, y ≠ "__name__" → mb y = bootBuiltins y) (g4 : t.heap.NoLimit) (g5 : t.gens = #[])
    (c1 : ∀ p ∈ cs, t.heap.get? p.2 = some { cls := .none, data := .fields #[] }) (c2 : ∀ p ∈ cs, K.lookup p.2 = none) (c3 : ∀ p ∈ cs, PySem.W.CodeHd t.heap p.1 p.2)
    (bmod : ∃ (m : Addr) (o : Obj), mg "__builtins__" = some (.ref m) ∧ m ≠ builtinsNs ∧ t.heap.get? m = some o ∧ o.cls = .type "module" ∧ o.dict = some builtinsNs ∧ o.data = .plain)
    (hsm : ∃ mm, t.heap.Ns sysModules mm) (oa : t.heap.get? a = some { cls := .type "list", data := .seq its.toArray }) (ri : IntsAre its ns) (rl : ns.length ≤ sizeLine) (room : Room k callerA)
    (F : ∀ (base : Heap) (H : Hp), Top P w K mg base cs t a ns H → (∃ (fd : FuncData) (ps : List Str), Binds K fd ps [] ∧ FnG P w K mg base k fa fd ps sp) ∧ sp [.ref a] H (fun v _ => v = .bl true) fun _ _ _ => False) :
    codeAny (model P w) callerA (.call (.ref fa) ⟨[.ref a], []⟩) (fun r u => r = .ok (.ret (.bool true)) ∧ OldK t.heap u.heap ∧ u.os = t.os ∧ AllBare u.gens) t := by
  have vals := vals_ints ri
  let tb := cs.map (·.2)
  have onTab : ∀ {b : Addr}, b ∈ tb → t.heap.get? b = some { cls := .none, data := .fields #[] } ∧ K.lookup b = none := fun {b} hb => by
    obtain ⟨p, hp, rfl⟩ := List.mem_map.mp hb
    exact ⟨c1 p hp, c2 p hp⟩
  have aOff : a ∉ tb := fun z => by
    have := (onTab z).1
    rw [oa] at this
    simp at this
  obtain ⟨fr, hfr⟩ : ∃ fr : Bool, fr = (K.lookup a).isNone := ⟨_, rfl⟩
  let H : Hp := topH tb a fr { cls := .type "list", data := .seq its.toArray } (ns.map V.int)
  -- a tracked place holds a table or the script
  have what : ∀ {b : Addr} {u : HO}, H b = some u → (t.heap.get? b = some { cls := .none, data := .fields #[] } ∧ K.lookup b = none) ∨ (t.heap.get? b = some { cls := .type "list", data := .seq its.toArray } ∧ K.lookup b = none) := fun {b u} e => by
    rcases topH_some e with ⟨h, _⟩ | ⟨_, rfl, h, _⟩
    · exact .inl (onTab h)
    · refine .inr ⟨oa, ?_⟩
      cases q : K.lookup b with
      | none => rfl
      | some o => rw [hfr, q] at h; cases h
  have free : ∀ {b : Addr} {o : Obj}, t.heap.get? b = some o → o.data ≠ .fields #[] → o.data ≠ .seq its.toArray → H b = none := fun {b o} e n1 n2 => by
    cases q : H b with
    | none => rfl
    | some u =>
      rcases what q with ⟨e', _⟩ | ⟨e', _⟩
      · rw [e] at e'; cases e'; exact (n1 rfl).elim
      · rw [e] at e'; cases e'; exact (n2 rfl).elim
  let base := hidT t.heap H
  have low : ∀ {b : Addr} {o : Obj}, t.heap.get? b = some o → H b = none → base.get? b = some o := fun e n => hidT_get e n
  have nsLow : ∀ {b : Addr} {m : Str → Option Value}, t.heap.Ns b m → base.Ns b m := fun {b m} ⟨o, es, ep, e, d, r⟩ =>
    ⟨o, es, ep, low e (free e (fun z => by rw [d] at z; cases z) fun z => by rw [d] at z; cases z), d, r⟩
  have kBase : K.In base := fun b o e => low (kx b o e) (by
    cases q : H b with
    | none => rfl
    | some u =>
      rcases what q with ⟨_, z⟩ | ⟨_, z⟩ <;> rw [z] at e <;> cases e)
  have md : L2.Mod K mg base := by
    obtain ⟨mc, q1, q2⟩ := g4
    exact ⟨kBase, nsLow g1, ⟨mb, nsLow g2, g3⟩, ⟨mc, nsLow q1, q2⟩⟩
  have tabs : ∀ p ∈ cs, LamX.TabB base mg p.1 p.2 := fun p hp => by
    constructor
    · obtain ⟨o, us, file, tf, flags, tg, inF, text, tt, e1, r1, r2, r⟩ := c3 p hp
      refine ⟨o, us, file, tf, flags, tg, inF, text, tt, low e1 (free e1 (fun z => ?_) fun z => ?_), r1, r2, r⟩
      · rw [r2] at z; cases z; have r3 := r.1; simp at r3
      · rw [r2] at z; cases z
    · obtain ⟨m, o, q1, q2, q3, q4, q5, q6⟩ := bmod
      refine ⟨m, o, q1, q2, fun z => ?_, fun z => ?_, low q3 (free q3 (fun z => by rw [q6] at z; cases z) fun z => by rw [q6] at z; cases z), q4, q5, q6⟩
      · obtain ⟨o', es, ep, e', d', _⟩ := g1
        rw [z, e'] at q3; cases q3; rw [d'] at q6; cases q6
      · rw [z, c1 p hp] at q3; cases q3; cases q6
    · intro z
      obtain ⟨o', es, ep, e', d', _⟩ := g1
      rw [z, c1 p hp] at e'; cases e'; cases d'
  have ok : HOk P w H t.heap := fun b u e => by
    rcases topH_some e with ⟨h, rfl⟩ | ⟨_, rfl, _, rfl⟩
    · exact (onTab h).1
    · exact ⟨oa, by rw [List.length_map]; exact rl, its, _, vals, oa⟩
  have isTop : Top P w K mg base cs t a ns H := by
    refine ⟨⟨rfl, md, fun b o e => of_hidT e, Nat.le_of_eq (hidT_size _ _), trivial, fun b hb => (nomatch hb), ok, .of_eq g5⟩, kBase, nsLow g1, tabs, fun p hp => if_pos (List.mem_map.mpr ⟨p, hp, rfl⟩), ?_, ?_, fun ps z => ?_⟩
    rotate_left
    · obtain ⟨mm, hm⟩ := hsm
      obtain ⟨o, es, ep, e, _⟩ := nsLow hm
      exact ⟨o, e⟩
    · rcases topH_some z with ⟨h, _⟩ | ⟨_, _, _, h⟩
      · exact aOff h
      · cases h
    cases q : K.lookup a with
    | none =>
      have : fr = true := by rw [hfr, q]; rfl
      exact .inl (.inr ⟨_, (if_neg aOff).trans (if_pos ⟨rfl, this⟩)⟩)
    | some o =>
      have e := kx a o q
      rw [oa] at e
      cases e
      refine .inr ⟨_, its.toArray, _, q, rfl, rfl, rfl, by rw [List.size_toArray, ri.length]; exact rl, by simpa using vals⟩
  obtain ⟨⟨fd, ps, hb, FG⟩, hs⟩ := F base H isTop
  have bd := hb t [.ref a] kx (by simpa using FG.len _ _ _ _ hs)
  rw [List.append_nil] at bd
  refine codeAny_mono (FG.go callerA [] t H ⟨[.ref a], []⟩ [.ref a] [.ref a] _ _ rfl room isTop.env bd (.cons rfl .nil) hs) fun r u h => ?_
  match r, h with
  | .error e, h =>
    obtain ⟨_, _, _, _, _, _, _, _, _, _, _, _, z⟩ := (h : L2N.CX P w [] H t (fun _ _ _ => False) e u)
    exact z.elim
  | .ok .next, h => exact False.elim h
  | .ok .brk, h => exact False.elim h
  | .ok .cont, h => exact False.elim h
  | .ok (.ret v), h =>
    obtain ⟨y, H', h1, h2, un, ok', rel, ey⟩ := (h : L2.CE [] P w H t _ v u)
    have ey : y = .bl true := ey
    subst ey
    obtain rfl : v = Value.bool true := rel
    -- every place but a table's is as it was; a table has grown
    have same : ∀ b o, b ∉ tb → t.heap.get? b = some o → u.heap.get? b = some o := fun b o nb e => by
      cases q : H b with
      | none => exact un.keep b o e q (fun z => nomatch z) (fun z => nomatch z)
      | some z =>
        rcases topH_some q with ⟨h, _⟩ | ⟨_, rfl, _, rfl⟩
        · exact absurd h nb
        · have e2 := (ok' b _ (un.frzs b _ _ q)).1
          have e1 := (ok b _ q).1
          rw [e] at e1; cases e1; exact e2
    have more : ∀ b, b ∈ tb → ∃ z : Array Value, u.heap.get? b = some { cls := .none, data := .fields z } := fun b hb => by
      obtain ⟨p, hp, rfl⟩ := List.mem_map.mp hb
      obtain ⟨z, hz⟩ := un.tbls p.2 #[] (isTop.tb p hp)
      exact ⟨_, ok' p.2 _ hz⟩
    refine ⟨rfl, ⟨fun b o e => ?_, fun b o e => ?_⟩, h1, h2⟩
    · by_cases hb : b ∈ tb
      · obtain ⟨z, hz⟩ := more b hb
        rw [(onTab hb).1] at e
        cases e
        obtain ⟨p, hp, rfl⟩ := List.mem_map.mp hb
        exact .inr (.inl ⟨((c3 p hp).tab (c1 p hp)).isCodeTable, rfl, #[], z, rfl, by rw [Array.empty_append]; exact hz⟩)
      · exact .inl (same b o hb e)
    · by_cases hb : b ∈ tb
      · obtain ⟨z, hz⟩ := more b hb
        exact ⟨_, hz⟩
      · exact ⟨o, same b o hb e⟩
/-- the end of a law: F says, at the heap behind the top, that the law's def keeps the promise of its mirror; law, that the mirror answers True -/
theorem walkZ {l : PySem.W.OpenLaw} {n k : Nat} {q : Program} {loose : List Str} {XP : (Str → Option Value) → Heap → Prop} {YP : World → Heap → Prop} {d : DefRec} {K : Params → PySem.W.Frag} {ml : List Val → Store → Res Val}
    (himp : importsNone q = true) (hn : l.most = some n) (hn2 : n ≤ sizeLine) (hdf : d.params.defaults = []) (hr : Room k callerA) (hY : ∀ (w : World) (h : Heap), YP w h → (K w.params).In h)
    (F : ∀ (w : World) (mg : Str → Option Value) (h : Heap), YP w h → (K w.params).In h → h.Ns mainGlobals mg →
      ∃ (cs : List (Addr × Addr)) (T : List (Addr × Str)), (∀ p ∈ cs, h.get? p.2 = some { cls := .none, data := .fields #[] }) ∧ (∀ p ∈ cs, (K w.params).lookup p.2 = none) ∧ (∀ p ∈ cs, PySem.W.CodeHd h p.1 p.2) ∧
        (∀ p ∈ T, p.1 ∈ cs.map (·.2)) ∧ ∀ base : Heap, (K w.params).In base → base.Ns mainGlobals mg → (∀ p ∈ cs, LamX.TabB base mg p.1 p.2) → (∃ o, base.get? sysModules = some o) → FZ l.prog w (K w.params) mg base T k d.name 1 ml)
    (law : ∀ ns : List Int, ns.length ≤ n → (∀ z ∈ ns, Builtin.Int.intBits z ≤ 1048576) → ∃ M, ml [.scr ns] [] = .ok (.d (.bool true)) M) :
    PySem.W.WalkO q loose XP YP l.row.toRowW d [] (fun f vs => PySem.call f vs) := by
  refine Att.attach_callB hn hdf fun w s₀ t mg mb fa o pm cd doc a vs ns G Y ho hd hcd hmg hobj hints hlen hbits hg => ?_
  have KX := hY w _ Y
  obtain ⟨cs, T, h1, h2, h3, h4, h6⟩ := F w mg _ Y KX G.T.g
  refine law_callG KX G.T.g G.T.b G.T.builtins G.T.nolimit hg h1 h2 h3 G.T.bmain (let ⟨mm, hm, _⟩ := (G.T.seer himp).mods; ⟨mm, hm⟩) hobj hints (Nat.le_trans hlen hn2) hr (sp := spZ ⟨K w.params, mg, T⟩ 1 ml) fun base H top => ⟨?_, ?_⟩
  · obtain ⟨f, fd, ps, e1, _, e3, e4⟩ := (h6 base top.kin top.glo top.tab top.sm).ex
    rw [hmg] at e1
    cases e1
    exact ⟨fd, ps, e3, e4⟩
  obtain ⟨M, hM⟩ := law ns hlen hbits
  have tabs : LamX.Tabs T H := fun p hp => by
    obtain ⟨c, hc, e⟩ := List.mem_map.mp (h4 p hp)
    have := top.tb c hc
    rw [e] at this
    exact ⟨#[], this, by simp [TriplesOk], fun pos cv hc => nomatch (show none = some cv from hc)⟩
  let g : Z.G := ⟨[], fun b => if b = a then H a else none⟩
  have ga : g.S a = H a := if_pos rfl
  refine ⟨rfl, g, [], [.scr ns], ⟨fun b u e => ?_, rfl, List.nodup_nil, fun b hb => (nomatch hb), fun j b nd e => (nomatch e), tabs, fun b ps e => ?_⟩, .cons ⟨a, rfl, ?_⟩ .nil, ?_⟩
  · have e : (if b = a then H a else none) = some u := e
    split at e
    · rename_i z; rw [z]; exact e
    · cases e
  · have e : (if b = a then H a else none) = some (.tbl ps) := e
    split at e
    · exact top.na ps e
    · cases e
  · rcases top.scr with h | h
    · refine .inl ?_
      rcases h with h | ⟨o, h⟩
      · exact .inl (by rw [ga]; exact h)
      · exact .inr ⟨o, by rw [ga]; exact h⟩
    · exact .inr h
  · rw [hM]
    intro g' H' _ _ v rv
    exact rbl rv
end Z

/-! Z, part 14: short names for what the printer prints. -/
namespace Z
open PySem PySem.Spec PyProof.Rows L2

section
variable {C : Ctx} {E : XK} {te : TE} {tA : TA} {mA : Sm (List Val)} {m : Sm Val}
def eTup (mA : Sm (List Val)) : Sm Val := fun ρ M => ((mA ρ M).bind sz).bind mkTup
theorem ev_tupE (h : EvA C E tA mA) : EvE C E (tTupS tA) (eTup mA) := ev_tup h
def lLst (mA : Sm (List Val)) : Sm (List Val) := fun ρ M => (mA ρ M).bind sz
theorem el_lstE (h : EvA C E tA mA) : EvL C E (tLst tA) (lLst mA) := el_lst h
def eFrz (m : Sm (List Val)) : Sm Val := fun ρ M => (m ρ M).bind frz
theorem ev_frzE {m : Sm (List Val)} (h : EvL C E te m) : EvE C E te (eFrz m) := h.frz
def eLay (m : Sm (List Val)) : Sm Val := fun ρ M => (m ρ M).bind lay
theorem ev_layE {m : Sm (List Val)} (h : EvL C E te m) : EvE C E te (eLay m) := h.lay
def eCG (f : List Val → Store → Res Val) (mA : Sm (List Val)) : Sm Val := fun ρ M => (mA ρ M).bind f
theorem ev_CG {r : List V → Hp → VK → Prop} {f : List Val → Store → Res Val} (op : CbG C E r f) (ha : EvAW C E tA mA) : EvE C E (tCB r tA) (eCG f mA) := ev_cbG op ha
def okOnly {α : Type} (r : Res α) : Res α := match r with
  | .ok a M => .ok a M
  | _ => .stuck
def eLc (mi : Sm Src) (tg : Tg) (tt : Sm Bool) (me : Sm Val) (vs : List Nat) : Sm (List Val) := fun ρ M => (mi ρ M).bind fun src M1 => okOnly (lcM src tg tt me (wipeR ρ vs) (src.len M1) 0 [] M1)
abbrev E0 : XK := fun _ _ _ => False
abbrev StoreK (mg : Tg) : Prop := ∀ x ρ M ρ' M', mg x ρ M = .ok ρ' M' → M' = M
theorem el_lcE {wi : TI} {tg : TG} {tt : TT} {vs ts : List Nat} {mi : Sm Src} {mg : Tg} {mt : Sm Bool} {me : Sm Val} (hi : EvI C E wi mi) (hg : EvG0 C tg ts mg) (hts : ∀ i ∈ ts, i ∈ vs) (store : StoreK mg)
    (ht : EvT C E0 tt mt) (he : EvE C E0 te me) : EvL C E (tLc wi tg tt te vs) (eLc mi mg mt me vs) := by
  have h := el_lc (E := E) hi hg hts store ht he
  refine Eq.mp (congrArg (EvL C E (tLc wi tg tt te vs)) ?_) h
  funext ρ M
  unfold eLc
  congr 1
  funext src M1
  cases lcM src mg mt me (wipeR ρ vs) (src.len M1) 0 [] M1 <;> rfl
def tYesM : Sm Bool := fun _ M => .ok true M
theorem et_yes : EvT C E tYes tYesM := fun H0 g M H σ ρ Q o r p => p.here o
theorem sk_name {i : Nat} : StoreK (gN i) := fun x ρ M ρ' M' e => by cases e; rfl
abbrev StoreKs (ms : List Val → Rho → Store → Res Rho) : Prop := ∀ x ρ M ρ' M', ms x ρ M = .ok ρ' M' → M' = M
theorem sk_nil : StoreKs gNilM := fun x ρ M ρ' M' e => by
  unfold gNilM at e
  split at e <;> cases e; rfl
theorem sk_cons {m : Tg} {ms : List Val → Rho → Store → Res Rho} (h : StoreK m) (hs : StoreKs ms) : StoreKs (gConsM m ms) := fun x ρ M ρ' M' e => by
  cases x with
  | nil => cases e
  | cons x r =>
    have e : ((m x ρ M).bind fun ρ1 M1 => ms r ρ1 M1) = .ok ρ' M' := e
    cases q : m x ρ M with
    | stuck => rw [q] at e; cases e
    | exn c M1 => rw [q] at e; cases e
    | ok ρ1 M1 =>
      rw [q] at e
      rw [hs _ _ _ _ _ e, h _ _ _ _ _ q]
theorem sk_tup {n : Nat} {ms : List Val → Rho → Store → Res Rho} (hs : StoreKs ms) : StoreK (gTupM n ms) := fun x ρ M ρ' M' e => by
  unfold gTupM at e
  split at e
  · split at e
    · exact hs _ _ _ _ _ e
    · cases e
  · cases e
end
section
variable {P : Program} {w : World} {K : PySem.W.Frag} {mg : Str → Option Value} {base : Heap} {N : List Str} {qual : Str} {sc : Scope} {f : Addr} {cd : Value} {A : Around} {out : List Env} {s : Shared} {H : Hp} {E : XK}
theorem tk_cx : L2N.Takes (cxOf (L2N.CX P w) P w K mg base N qual sc f cd A out s H E) (fun c d _ H => E c d H) := L2N.takes_of rfl rfl rfl rfl
theorem ps_cx : Ps (cxOf (L2N.CX P w) P w K mg base N qual sc f cd A out s H E) E := L2N.passes_call tk_cx fun _ _ _ _ h => h
theorem po_cx : PassesOwn (model P w) (cxOf (L2N.CX P w) P w K mg base N qual sc f cd A out s H E).A (cxOf (L2N.CX P w) P w K mg base N qual sc f cd A out s H E).env (cxOf (L2N.CX P w) P w K mg base N qual sc f cd A out s H E).xe := passes_of rfl
end
/-- what is known of a def that stands at the top -/
structure DefK (K : PySem.W.Frag) (mg : Str → Option Value) (x : Str) (st : Stmt) (ps : List Str) : Prop where
  ex : ∃ (f : Addr) (fd : FuncData), mg x = some (.ref f) ∧ Fun K x x st f fd ∧ Binds K fd ps []
section
variable {P : Program} {w : World} {K : PySem.W.Frag} {mg : Str → Option Value} {base : Heap} {T : List (Addr × Str)} {x : Str} {st : Stmt} {ps : List Str} {n k : Nat} {mf : List Val → Store → Res Val}
theorem FZ.mk' (d : DefK K mg x st ps) (h : ∀ (f : Addr) (fd : FuncData), Fun K x x st f fd → FnG P w K mg base k f fd ps (spZ ⟨K, mg, T⟩ n mf)) : FZ P w K mg base T k x n mf := by
  obtain ⟨f, fd, h1, h2, h3⟩ := d.ex
  exact ⟨f, fd, ps, h1, h2.kp, h3, h f fd h2⟩
theorem fnZ' {qual : Str} {f : Addr} {fd : FuncData} {N : List Str} {b : Sm Fl} (F : Fun K x qual st f fd) (S : FnScope N ps (defScope st)) (hn : ps.length = n) (hm : fnM n N.length b = mf)
    (body : ∀ (cd : Value) (A : Around) (out : List Env) (s : Shared) (H : Hp) (E : XK), A.guards = some [] → Room k (A.deeper (envOfC qual (defScope st) s.heap.objs.size f cd)) →
      ∃ t, PSs (cxOf (L2N.CX P w) P w K mg base N qual (defScope st) f cd A out s H E) (defBody st) t ∧ EvS ⟨K, mg, T⟩ E t b) : FnG P w K mg base (k + 1) f fd ps (spZ ⟨K, mg, T⟩ n mf) := by
  subst hn hm
  exact fnZ F S body
theorem zp_const {X : Cx} {x : Str} {v : V} {pos : Pos} (hg : Gl X x) (h : ∃ u, X.mg x = some u ∧ RelV v u) (hd : (x == ("__debug__" : Str)) = false := by decide) : PE X (.Name x pos) (tC v) := by
  obtain ⟨u, h1, h2⟩ := h
  exact pe_glob hg h1 h2 hd
end
theorem bb_sum : bootBuiltins "sum" = some (.builtin "sum") := by decide +kernel
theorem bb_all : bootBuiltins "all" = some (.builtin "all") := by decide +kernel
theorem bb_abs : bootBuiltins "abs" = some (.builtin "abs") := by decide +kernel
theorem bb_max : bootBuiltins "max" = some (.builtin "max") := by decide +kernel
theorem bb_min : bootBuiltins "min" = some (.builtin "min") := by decide +kernel
theorem bb_sorted : bootBuiltins "sorted" = some (.builtin "sorted") := by decide +kernel
theorem bb_divmod : bootBuiltins "divmod" = some (.builtin "divmod") := by decide +kernel
theorem bb_isinstance : bootBuiltins "isinstance" = some (.builtin "isinstance") := by decide +kernel
theorem bb_repr : bootBuiltins "repr" = some (.builtin "repr") := by decide +kernel
end Z
namespace Z
open PySem PySem.Spec PyProof.Rows L2
section
variable {K : PySem.W.Frag} {mg : Str → Option Value} {h : Heap}
theorem defK {x : Str} {st : Stmt} {ps : List Str} {f : Addr} {oc : Value} {od an : Option Addr} {osl : Array (Option Value)} {kV doc pm cdv ct : Value} (kx : K.In h) (g : h.Ns mainGlobals mg) (a : PySem.W.nsIn K mainGlobals x = some (some (.ref f)))
    (l : K.lookup f = some ⟨oc, od, .func (PySem.W.fnOf x x (defArgs st) (defBody st) (defScope st) .none kV doc pm an cdv ct), osl⟩) (c : PySem.W.codeIn K cdv x = true) (k : PySem.W.keepIn K (.ref f) = true)
    (b : ∀ (kV doc pm : Value) (an : Option Addr) (cdv ct : Value) (us : List Value), us.length = ps.length → bindArgs (PySem.W.fnOf x x (defArgs st) (defBody st) (defScope st) .none kV doc pm an cdv ct) ⟨us, []⟩ = pure (ps.zip us)) : DefK K mg x st ps :=
  ⟨f, _, PySem.W.mg_of kx g a, fun_mk l c k, (fun_mk l c k).binds b⟩
theorem excK {c : Str} {A : Addr} (kx : K.In h) (g : h.Ns mainGlobals mg) (a : PySem.W.nsIn K mainGlobals c = some (some (.ref A)))
    (e : PySem.W.excIn K A [.type "ValueError", .type "Exception", .type "BaseException", .type "object"] "ValueError.__new__" = true) (k : PySem.W.keepIn K (.ref A) = true) (b : PySem.W.subIn K (.ref A) (.type "BaseException") = some true) (t : PySem.W.typeIn K (.ref A) = some (.type "type")) : XZ K mg c :=
  ⟨A, PySem.W.mg_of kx g a, e, k, b, t⟩
end
theorem es_raiseX {C : Ctx} {E : XK} {c : Str} (h : XZ C.K C.mg c) : EvS C E (tRz C.mg c E) (sRaise c) := by
  obtain ⟨A, h1, _⟩ := h.ex
  exact es_raise h1
end Z

/-! Z, part 15: plain laws of the mirrors' words. -/
namespace Z
open PySem PySem.Spec PyProof.Rows L2

section
variable {α β : Type} {M : Store} {ρ : Rho}
@[simp] theorem bind_ite (c : Prop) [Decidable c] (a b : Res α) (f : α → Store → Res β) : (if c then a else b).bind f = if c then a.bind f else b.bind f := by split <;> rfl
@[simp] theorem fnM_eq (n N : Nat) (b : Sm Fl) (xs : List Val) : fnM n N b xs M = if xs.length = n then (b (startR N xs) M).bind outM else .stuck := rfl
@[simp] theorem startR_eq (N : Nat) (xs : List Val) : startR N xs = xs.map (fun x => some (Slot.sh x)) ++ List.replicate (N - xs.length) none := rfl
@[simp] theorem outM_rt (x : Val) : outM (.rt x) M = .ok x M := rfl
@[simp] theorem outM_nx (ρ : Rho) : outM (.nx ρ) M = .ok (.d .none) M := rfl
@[simp] theorem eVar_eq (i : Nat) : eVar i ρ M = match ρ[i]? with
  | some (some (.sh v)) => .ok v M
  | _ => .stuck := rfl
@[simp] theorem wVar_eq (i : Nat) : wVar i ρ M = match ρ[i]? with
  | some (some (.sh v)) => .ok v M
  | some (some (.ol xs)) => .ok (.d (.list xs)) M
  | some (some (.od xs)) => .ok (.d (.dict (kvD xs))) M
  | _ => .stuck := rfl
@[simp] theorem eC_eq (x : PyData) : eC x ρ M = .ok (.d x) M := rfl
@[simp] theorem e1_eq (f : PyData → Option PyData) (a : Sm Val) : e1 f a ρ M = (a ρ M).bind (lift1 f) := rfl
@[simp] theorem e2_eq (f : PyData → PyData → Option PyData) (a b : Sm Val) : e2 f a b ρ M = (a ρ M).bind fun x M1 => (b ρ M1).bind fun y M2 => lift2 f x y M2 := rfl
@[simp] theorem lift1_eq (f : PyData → Option PyData) (x : PyData) : lift1 f (.d x) M = match f x with
  | some b => .ok (.d b) M
  | none => .stuck := rfl
@[simp] theorem lift2_eq (f : PyData → PyData → Option PyData) (x y : PyData) : lift2 f (.d x) (.d y) M = match f x y with
  | some b => .ok (.d b) M
  | none => .stuck := rfl
@[simp] theorem eAnd_eq (a b : Sm Val) : eAnd a b ρ M = (a ρ M).bind fun x M1 => (asB x M1).bind fun c M2 => if c = true then b ρ M2 else .ok (.d (.bool false)) M2 := rfl
@[simp] theorem eOr_eq (a b : Sm Val) : eOr a b ρ M = (a ρ M).bind fun x M1 => (asB x M1).bind fun c M2 => if c = true then .ok (.d (.bool true)) M2 else b ρ M2 := rfl
@[simp] theorem eNot_eq (a : Sm Val) : eNot a ρ M = (a ρ M).bind fun x M1 => (asB x M1).bind fun c M2 => .ok (.d (.bool (!c))) M2 := rfl
@[simp] theorem eIsa_eq (p : PyData → Bool) (a : Sm Val) : eIsa p a ρ M = (a ρ M).bind (lift1 fun d => some (.bool (p d))) := rfl
@[simp] theorem tVal_eq (a : Sm Val) : tVal a ρ M = (a ρ M).bind asB := rfl
@[simp] theorem tNotM_eq (a : Sm Bool) : tNotM a ρ M = (a ρ M).bind fun b M1 => .ok (!b) M1 := rfl
@[simp] theorem tAndM_eq (a b : Sm Bool) : tAndM a b ρ M = (a ρ M).bind fun c M1 => if c = true then b ρ M1 else .ok false M1 := rfl
@[simp] theorem tOrM_eq (a b : Sm Bool) : tOrM a b ρ M = (a ρ M).bind fun c M1 => if c = true then .ok true M1 else b ρ M1 := rfl
@[simp] theorem tYesM_eq : tYesM ρ M = .ok true M := rfl
@[simp] theorem eIf_eq (t : Sm Bool) (a b : Sm Val) : eIf t a b ρ M = (t ρ M).bind fun c M1 => if c = true then a ρ M1 else b ρ M1 := rfl
@[simp] theorem eChain_eq (f f' : PyData → PyData → Option PyData) (a b c : Sm Val) : eChain f f' a b c ρ M = (a ρ M).bind fun x M1 => (b ρ M1).bind fun y M2 => (lift2 f x y M2).bind fun z M3 => (asB z M3).bind fun k M4 =>
  if k = true then (c ρ M4).bind fun w M5 => lift2 f' y w M5 else .ok (.d (.bool false)) M4 := rfl
@[simp] theorem aNil_eq : aNil ρ M = .ok [] M := rfl
@[simp] theorem aCons_eq (a : Sm Val) (b : Sm (List Val)) : aCons a b ρ M = (a ρ M).bind fun x M1 => (b ρ M1).bind fun xs M2 => .ok (x :: xs) M2 := rfl
@[simp] theorem eTup_eq (a : Sm (List Val)) : eTup a ρ M = ((a ρ M).bind sz).bind mkTup := rfl
@[simp] theorem lLst_eq (a : Sm (List Val)) : lLst a ρ M = (a ρ M).bind sz := rfl
@[simp] theorem sz_eq (xs : List Val) : sz xs M = if xs.length ≤ 100000 then .ok xs M else .stuck := rfl
@[simp] theorem eFrz_eq (a : Sm (List Val)) : eFrz a ρ M = (a ρ M).bind frz := rfl
@[simp] theorem eLay_eq (a : Sm (List Val)) : eLay a ρ M = (a ρ M).bind lay := rfl
@[simp] theorem lay_eq (xs : List Val) : lay xs M = .ok (.ref M.length) (M ++ [.lst xs]) := rfl
@[simp] theorem frz_eq (xs : List Val) : frz xs M = match pures xs with
  | some ds => .ok (.d (.list ds)) M
  | none => .stuck := rfl
@[simp] theorem mkTup_eq (xs : List Val) : mkTup xs M = match pures xs with
  | some ds => .ok (.d (.tuple ds)) M
  | none => .ok (.ref M.length) (M ++ [.tup xs]) := rfl
@[simp] theorem eCG_eq (f : List Val → Store → Res Val) (a : Sm (List Val)) : eCG f a ρ M = (a ρ M).bind f := rfl
@[simp] theorem eG_eq (f : Val → Val → Store → Res Val) (a b : Sm Val) : eG f a b ρ M = (a ρ M).bind fun x M1 => (b ρ M1).bind fun y M2 => f x y M2 := rfl
@[simp] theorem eCB_eq (f : List PyData → Option PyData) (a : Sm (List Val)) : eCB f a ρ M = (a ρ M).bind (liftn f) := rfl
@[simp] theorem liftn_eq (f : List PyData → Option PyData) (xs : List Val) : liftn f xs M = match loads M xs with
  | some as => match f as with
    | some b => .ok (.d b) M
    | none => .stuck
  | none => .stuck := rfl
@[simp] theorem loads_d (x : PyData) (xs : List Val) : loads M (.d x :: xs) = (loads M xs).map (x :: ·) := by
  rw [loads]; simp only [load_d]; cases loads M xs <;> rfl
@[simp] theorem eCall_eq (n : Nat) (f : List Val → Store → Res Val) (a : Sm (List Val)) : eCall n f a ρ M = (a ρ M).bind fun xs M1 => if xs.length = n then f xs M1 else .stuck := rfl
@[simp] theorem eTupOf_eq (a : Sm Val) : eTupOf a ρ M = (a ρ M).bind fun x M1 => match itemsK M1 true x with
  | some xs => mkTup xs M1
  | none => match itemsK M1 false x with
    | some _ => .ok x M1
    | none => .stuck := rfl
@[simp] theorem eSl_eq (a : Sm Val) (l h : Sm (Option Int)) : eSl a l h ρ M = (a ρ M).bind fun x M1 => (l ρ M1).bind fun lo M2 => (h ρ M2).bind fun hi M3 => lift1 (fSl lo hi) x M3 := rfl
@[simp] theorem oN_eq : oN ρ M = .ok none M := rfl
@[simp] theorem oS_eq (a : Sm Val) : oS a ρ M = (a ρ M).bind fun x M1 => match x with
  | .d (.int i) => .ok (some i) M1
  | _ => .stuck := rfl
@[simp] theorem sNext_eq : sNext ρ M = .ok (.nx ρ) M := rfl
@[simp] theorem sSeq_eq (a b : Sm Fl) : sSeq a b ρ M = (a ρ M).bind fun f M1 => match f with
  | .nx ρ1 => b ρ1 M1
  | f => .ok f M1 := rfl
@[simp] theorem sRet_eq (a : Sm Val) : sRet a ρ M = (a ρ M).bind fun x M1 => .ok (.rt x) M1 := rfl
@[simp] theorem sRetN_eq : sRetN ρ M = .ok (.rt (.d .none)) M := rfl
@[simp] theorem sDrop_eq (a : Sm Val) : sDrop a ρ M = (a ρ M).bind fun _ M1 => .ok (.nx ρ) M1 := rfl
@[simp] theorem sIf_eq (t : Sm Bool) (a b : Sm Fl) : sIf t a b ρ M = (t ρ M).bind fun c M1 => if c = true then a ρ M1 else b ρ M1 := rfl
@[simp] theorem sRaise_eq (c : Str) : sRaise c ρ M = .exn c M := rfl
@[simp] theorem sAsg_eq (a : Sm Val) (t : Tg) : sAsg a t ρ M = (a ρ M).bind fun x M1 => (t x ρ M1).bind fun ρ' M2 => .ok (.nx ρ') M2 := rfl
@[simp] theorem gN_eq (i : Nat) (x : Val) : gN i x ρ M = .ok (ρ.set i (some (.sh x))) M := rfl
@[simp] theorem gTupM_eq (n : Nat) (t : List Val → Rho → Store → Res Rho) (x : Val) : gTupM n t x ρ M = match itemsK M false x with
  | some xs => if xs.length = n then t xs ρ M else .stuck
  | none => .stuck := rfl
@[simp] theorem gNilM_eq : gNilM [] ρ M = .ok ρ M := rfl
@[simp] theorem gConsM_eq (m : Tg) (ms : List Val → Rho → Store → Res Rho) (x : Val) (xs : List Val) : gConsM m ms (x :: xs) ρ M = (m x ρ M).bind fun ρ1 M1 => ms xs ρ1 M1 := rfl
@[simp] theorem sAsgL_eq (i : Nat) (m : Sm (List Val)) : sAsgL i m ρ M = (m ρ M).bind fun xs M1 => match pures xs with
  | some ds => .ok (.nx (ρ.set i (some (.ol ds)))) M1
  | none => .stuck := rfl
@[simp] theorem sFrz_eq (i : Nat) (m : Sm Fl) : sFrz i m ρ M = m (frzR ρ i) M := rfl
@[simp] theorem sPar_eq (i j : Nat) (m : Sm (List Val)) : sPar i j m ρ M = (m ρ M).bind fun xs M1 => match xs with
  | [x, y] => .ok (.nx ((ρ.set i (some (.sh x))).set j (some (.sh y)))) M1
  | _ => .stuck := rfl
@[simp] theorem sFor_eq (ks : List Nat) (a : Sm Src) (t : Tg) (b : Sm Fl) : sFor ks a t b ρ M = (a ρ M).bind fun src M1 => forM src t (sKill ks b) (src.len M1) 0 (wipeR ρ ks) M1 := rfl
@[simp] theorem sWhile_eq (ks : List Nat) (n : Nat) (c : Sm Bool) (b : Sm Fl) : sWhile ks n c b ρ M = whileM c (sKill ks b) n (wipeR ρ ks) M := rfl
@[simp] theorem sKill_eq (ks : List Nat) (m : Sm Fl) : sKill ks m ρ M = (m ρ M).bind fun f M1 => .ok (killF ks f) M1 := rfl
@[simp] theorem sPre_eq (ks : List Nat) (m : Sm Fl) : sPre ks m ρ M = m (wipeR ρ ks) M := rfl
@[simp] theorem killF_nx (ks : List Nat) : killF ks (.nx ρ) = .nx (wipeR ρ ks) := rfl
@[simp] theorem killF_rt (ks : List Nat) (x : Val) : killF ks (.rt x) = .rt x := rfl
@[simp] theorem killF_bk (ks : List Nat) : killF ks (.bk ρ) = .bk (wipeR ρ ks) := rfl
@[simp] theorem killF_ct (ks : List Nat) : killF ks (.ct ρ) = .ct (wipeR ρ ks) := rfl

@[simp] theorem eLc_eq (a : Sm Src) (t : Tg) (c : Sm Bool) (e : Sm Val) (vs : List Nat) : eLc a t c e vs ρ M = (a ρ M).bind fun src M1 => okOnly (lcM src t c e (wipeR ρ vs) (src.len M1) 0 [] M1) := rfl
@[simp] theorem okOnly_ok (x : α) : okOnly (Res.ok x M) = .ok x M := rfl
@[simp] theorem sOne_eq (a : Sm Val) : sOne a ρ M = (a ρ M).bind fun x M1 => match kindV M1 x with
  | some k => .ok (.one k x) M1
  | none => .stuck := rfl
@[simp] theorem sRng1_eq (a : Sm (List Val)) : sRng1 a ρ M = (a ρ M).bind fun xs M1 => match xs with
  | [.d (.int j)] => if inR j = true then .ok (.rng 0 1 j.toNat) M1 else .stuck
  | _ => .stuck := rfl
@[simp] theorem lSort_eq (a : Sm Val) : lSort a ρ M = (a ρ M).bind fun x M1 => match load M1 x with
  | some (.list ds) => if okSort ds = true then .ok ((sortD ds).map Val.d) M1 else .stuck
  | _ => .stuck := rfl
@[simp] theorem lRange_eq (a : Sm Val) : lRange a ρ M = (a ρ M).bind fun x M1 => match x with
  | .d (.int n) => if 0 ≤ n ∧ n ≤ 100000 then .ok (rgD n) M1 else .stuck
  | _ => .stuck := rfl
@[simp] theorem wipeR_nil : wipeR ρ [] = ρ := rfl
@[simp] theorem wipeR_cons (i : Nat) (r : List Nat) : wipeR ρ (i :: r) = (wipeR ρ r).set i none := rfl
end
/-! numbers -/
theorem int_beq (i j : Int) : (i == j) = decide (i = j) := by
  by_cases h : i = j
  · subst h; simp
  · simp [h]
@[simp] theorem fSub_int (i j : Int) : fSub (.int i) (.int j) = some (.int (i - j)) := rfl
@[simp] theorem fAdd_int (i j : Int) : fAdd (.int i) (.int j) = some (.int (i + j)) := rfl
@[simp] theorem okLt_int (i j : Int) : okLt (.int i) (.int j) = true := by simp [okLt, PySem.W.alike, isNone, PyData.depth]
@[simp] theorem fLt_int (i j : Int) : fLt (.int i) (.int j) = some (.bool (decide (i < j))) := by simp [fLt, PySem.W.dataLt_int]
@[simp] theorem fGt_int (i j : Int) : fGt (.int i) (.int j) = some (.bool (decide (j < i))) := by simp [fGt, PySem.W.dataLt_int]
@[simp] theorem fLe_int (i j : Int) : fLe (.int i) (.int j) = some (.bool (decide (i ≤ j))) := by simp [fLe, PySem.W.dataLt_int, ← Int.not_lt]
@[simp] theorem fGe_int (i j : Int) : fGe (.int i) (.int j) = some (.bool (decide (j ≤ i))) := by simp [fGe, PySem.W.dataLt_int, ← Int.not_lt]
@[simp] theorem okEq_int (i j : Int) : okEq (.int i) (.int j) = true := by simp [okEq, PyData.plain, PyData.depth]
@[simp] theorem fEq_int (i j : Int) : fEq (.int i) (.int j) = some (.bool (decide (i = j))) := by simp only [fEq, okEq_int, if_true, PyData.eqv]; rw [int_beq]
@[simp] theorem fNe_int (i j : Int) : fNe (.int i) (.int j) = some (.bool (!decide (i = j))) := by simp only [fNe, okEq_int, if_true, PyData.eqv]; rw [int_beq]

/-! sources of data -/
def Src.items : Src → Option (List Val)
  | .one k x => itemsK [] k x
  | .rng lo c n => some ((List.range n).map fun i : Nat => .d (.int (lo + (i : Int) * c)))
  | .enum k x => match itemsK [] k x with
    | some xs => (pures xs).map fun ds => ds.zipIdx.map fun p => .d (.tuple [.int (p.2 : Int), p.1])
    | none => none
  | .zip k1 k2 x y => match itemsK [] k1 x, itemsK [] k2 y with
    | some xs, some ys => match pures xs, pures ys with
      | some as, some bs => some ((as.zip bs).map fun p => .d (.tuple [p.1, p.2]))
      | _, _ => none
    | _, _ => none
  | .str a => some ((charsS a).map fun s => .d (.str s))
theorem itemsK_up {k : Bool} {x : Val} {xs : List Val} (M : Store) (h : itemsK [] k x = some xs) : itemsK M k x = some xs := by
  cases x with
  | scr _ => cases k <;> cases h
  | ref n => cases k <;> simp [itemsK] at h
  | d x => cases k <;> cases x <;> simp [itemsK] at h ⊢ <;> exact h
theorem at_items {src : Src} {xs : List Val} (h : src.items = some xs) (M : Store) : src.len M = xs.length ∧ ∀ i, i ≤ xs.length → src.at M i = some xs[i]? := by
  cases src with
  | one k x =>
    have h := itemsK_up M h
    exact ⟨by simp [Src.len, h], fun i hi => by simp [Src.at, h]⟩
  | rng lo c n =>
    cases h
    refine ⟨by simp [Src.len], fun i hi => ?_⟩
    simp only [Src.at, List.getElem?_map]
    by_cases hlt : i < n
    · rw [if_pos hlt, List.getElem?_range hlt]; rfl
    · rw [if_neg hlt, List.getElem?_eq_none (by simpa using hlt)]; rfl
  | enum k x =>
    simp only [Src.items] at h
    cases e : itemsK [] k x with
    | none => rw [e] at h; cases h
    | some ys =>
      rw [e] at h
      simp only at h
      have e' := itemsK_up M e
      cases e2 : pures ys with
      | none => rw [e2] at h; cases h
      | some ds =>
        rw [e2] at h
        cases h
        have e3 := pures_eq e2
        subst e3
        refine ⟨by simp [Src.len, e'], fun i hi => ?_⟩
        simp only [Src.at, e', List.length_map]
        simp at hi
        by_cases hl : i = ds.length
        · rw [if_pos hl, List.getElem?_eq_none (by simp; omega)]
        · have hlt : i < ds.length := by omega
          rw [if_neg hl]
          simp [hlt]
  | zip k1 k2 x y =>
    simp only [Src.items] at h
    cases e : itemsK [] k1 x with
    | none => rw [e] at h; cases h
    | some ys =>
      cases f : itemsK [] k2 y with
      | none => rw [e, f] at h; cases h
      | some zs =>
        rw [e, f] at h
        simp only at h
        have e' := itemsK_up M e
        have f' := itemsK_up M f
        cases e2 : pures ys with
        | none => rw [e2] at h; cases h
        | some as =>
          cases f2 : pures zs with
          | none => rw [e2, f2] at h; cases h
          | some bs =>
            rw [e2, f2] at h
            cases h
            have e3 := pures_eq e2
            have f3 := pures_eq f2
            subst e3 f3
            refine ⟨by simp [Src.len, e', f'], fun i hi => ?_⟩
            simp at hi
            simp only [Src.at, e', f', List.length_map]
            by_cases hl : i = min as.length bs.length
            · rw [if_pos hl, List.getElem?_eq_none (by simp; omega)]
            · have h1 : i < as.length := by omega
              have h2 : i < bs.length := by omega
              rw [if_neg hl]
              have hz : (as.zip bs)[i]? = some (as[i], bs[i]) := List.getElem?_zip_eq_some.mpr ⟨List.getElem?_eq_getElem h1, List.getElem?_eq_getElem h2⟩
              simp [h1, h2, hz]
  | str a =>
    cases h
    exact ⟨by simp [Src.len], fun i hi => by simp only [Src.at, List.getElem?_map]⟩
/-- a loop, by an invariant -/
theorem forM_run {src : Src} {xs : List Val} (hs : src.items = some xs) {tg : Tg} {b : Sm Fl} (P : Nat → Rho → Store → Prop)
    (step : ∀ i x ρ M, xs[i]? = some x → P i ρ M → ∃ ρ1 M1 ρ2 M2, tg x ρ M = .ok ρ1 M1 ∧ b ρ1 M1 = .ok (.nx ρ2) M2 ∧ P (i + 1) ρ2 M2) :
    ∀ (k i : Nat) (ρ : Rho) (M : Store), i + k = xs.length → P i ρ M → ∃ ρ' M', forM src tg b k i ρ M = .ok (.nx ρ') M' ∧ P xs.length ρ' M'
  | 0, i, ρ, M, h, p => by
    have e : i = xs.length := by omega
    subst e
    refine ⟨ρ, M, ?_, p⟩
    simp [forM, (at_items hs M).2 _ (Nat.le_refl _)]
  | k + 1, i, ρ, M, h, p => by
    have hi : i < xs.length := by omega
    obtain ⟨ρ1, M1, ρ2, M2, e1, e2, p2⟩ := step i xs[i] ρ M (List.getElem?_eq_getElem hi) p
    obtain ⟨ρ', M', e3, p3⟩ := forM_run hs P step k (i + 1) ρ2 M2 (by omega) p2
    refine ⟨ρ', M', ?_, p3⟩
    simp [forM, (at_items hs M).2 i (by omega), hi, e1, e2, e3]
theorem forM_all {src : Src} {xs : List Val} (hs : src.items = some xs) {tg : Tg} {b : Sm Fl} {ρ : Rho} {M : Store} (P : Nat → Rho → Store → Prop)
    (p0 : P 0 ρ M) (step : ∀ i x ρ M, xs[i]? = some x → P i ρ M → ∃ ρ1 M1 ρ2 M2, tg x ρ M = .ok ρ1 M1 ∧ b ρ1 M1 = .ok (.nx ρ2) M2 ∧ P (i + 1) ρ2 M2) :
    ∃ ρ' M', forM src tg b (src.len M) 0 ρ M = .ok (.nx ρ') M' ∧ P xs.length ρ' M' := by
  rw [(at_items hs M).1]
  exact forM_run hs P step _ 0 ρ M (by omega) p0
/-- a comprehension, by an invariant -/
theorem lcM_run {src : Src} {xs : List Val} (hs : src.items = some xs) {tg : Tg} {tt : Sm Bool} {te : Sm Val} {ρ : Rho} (P : Nat → List Val → Store → Prop)
    (step : ∀ i x acc M, xs[i]? = some x → P i acc M → ∃ ρ1 M1 c M2, tg x ρ M = .ok ρ1 M1 ∧ tt ρ1 M1 = .ok c M2 ∧ (c = true → ∃ y M3, te ρ1 M2 = .ok y M3 ∧ acc.length < 16000000 ∧ P (i + 1) (acc ++ [y]) M3) ∧ (c = false → P (i + 1) acc M2)) :
    ∀ (k i : Nat) (acc : List Val) (M : Store), i + k = xs.length → P i acc M → ∃ acc' M', lcM src tg tt te ρ k i acc M = .ok acc' M' ∧ P xs.length acc' M'
  | 0, i, acc, M, h, p => by
    have e : i = xs.length := by omega
    subst e
    refine ⟨acc, M, ?_, p⟩
    simp [lcM, (at_items hs M).2 _ (Nat.le_refl _)]
  | k + 1, i, acc, M, h, p => by
    have hi : i < xs.length := by omega
    obtain ⟨ρ1, M1, c, M2, e1, e2, p2, p3⟩ := step i xs[i] acc M (List.getElem?_eq_getElem hi) p
    cases c with
    | true =>
      obtain ⟨y, M3, e4, hl, p4⟩ := p2 rfl
      obtain ⟨acc', M', e5, p5⟩ := lcM_run hs P step k (i + 1) (acc ++ [y]) M3 (by omega) p4
      refine ⟨acc', M', ?_, p5⟩
      simp [lcM, (at_items hs M).2 i (by omega), hi, e1, e2, e4, hl, e5]
    | false =>
      obtain ⟨acc', M', e5, p5⟩ := lcM_run hs P step k (i + 1) acc M2 (by omega) (p3 rfl)
      refine ⟨acc', M', ?_, p5⟩
      simp [lcM, (at_items hs M).2 i (by omega), hi, e1, e2, e5]
theorem lcM_all {src : Src} {xs : List Val} (hs : src.items = some xs) {tg : Tg} {tt : Sm Bool} {te : Sm Val} {ρ : Rho} {M : Store} (P : Nat → List Val → Store → Prop) (p0 : P 0 [] M)
    (step : ∀ i x acc M, xs[i]? = some x → P i acc M → ∃ ρ1 M1 c M2, tg x ρ M = .ok ρ1 M1 ∧ tt ρ1 M1 = .ok c M2 ∧ (c = true → ∃ y M3, te ρ1 M2 = .ok y M3 ∧ acc.length < 16000000 ∧ P (i + 1) (acc ++ [y]) M3) ∧ (c = false → P (i + 1) acc M2)) :
    ∃ acc' M', lcM src tg tt te ρ (src.len M) 0 [] M = .ok acc' M' ∧ P xs.length acc' M' := by
  rw [(at_items hs M).1]
  exact lcM_run hs P step _ 0 [] M (by omega) p0
/-- a comprehension that changes nothing -/
theorem lcM_pure {src : Src} {xs : List Val} (hs : src.items = some xs) {tg : Tg} {tt : Sm Bool} {te : Sm Val} {ρ : Rho} {M : Store} (p : Val → Bool) (f : Val → Val) (hl : xs.length < 16000000)
    (h : ∀ x ∈ xs, ∃ ρ1, tg x ρ M = .ok ρ1 M ∧ tt ρ1 M = .ok (p x) M ∧ (p x = true → te ρ1 M = .ok (f x) M)) : lcM src tg tt te ρ (src.len M) 0 [] M = .ok ((xs.filter p).map f) M := by
  obtain ⟨acc, M', e, h1, h2⟩ := lcM_all (ρ := ρ) (tg := tg) (tt := tt) (te := te) (M := M) hs (fun i acc M' => M' = M ∧ acc = ((xs.take i).filter p).map f) ⟨rfl, by simp⟩ (by
    rintro i x acc M' hx ⟨rfl, rfl⟩
    obtain ⟨ρ1, e1, e2, e3⟩ := h x (List.mem_of_getElem? hx)
    have hi := (List.getElem?_eq_some_iff.mp hx).1
    have ht : xs.take (i + 1) = xs.take i ++ [x] := by rw [List.take_succ, hx]; rfl
    refine ⟨ρ1, M', p x, M', e1, e2, fun hp => ⟨f x, M', e3 hp, ?_, rfl, ?_⟩, fun hp => ⟨rfl, ?_⟩⟩
    · have : (((xs.take i).filter p).map f).length ≤ (xs.take i).length := by rw [List.length_map]; exact List.length_filter_le _ _
      rw [List.length_take] at this; omega
    · rw [ht, List.filter_append, List.map_append]; simp [hp]
    · rw [ht, List.filter_append, List.map_append]; simp [hp])
  rw [e, h1, h2, List.take_length]
/-- .. of data, no test -/
theorem lcM_map {src : Src} {ds : List PyData} (hs : src.items = some (ds.map Val.d)) {tg : Tg} {te : Sm Val} {ρ : Rho} {M : Store} (f : PyData → PyData) (hl : ds.length < 16000000)
    (h : ∀ x ∈ ds, ∃ ρ1, tg (.d x) ρ M = .ok ρ1 M ∧ te ρ1 M = .ok (.d (f x)) M) : lcM src tg tYesM te ρ (src.len M) 0 [] M = .ok ((ds.map f).map Val.d) M := by
  have := lcM_pure (tg := tg) (tt := tYesM) (te := te) (ρ := ρ) (M := M) hs (fun _ => true) (fun v => match v with
    | .d x => .d (f x)
    | v => v) (by simpa using hl) (fun x hx => by
      obtain ⟨d, hd, rfl⟩ := List.mem_map.mp hx
      obtain ⟨ρ1, e1, e2⟩ := h d hd
      exact ⟨ρ1, e1, rfl, fun _ => e2⟩)
  rw [this, List.filter_eq_self.mpr (fun _ _ => rfl)]
  simp [List.map_map, Function.comp_def]
@[simp] theorem items_l (ds : List PyData) : (Src.one true (.d (.list ds))).items = some (ds.map Val.d) := rfl
@[simp] theorem items_t (ds : List PyData) : (Src.one false (.d (.tuple ds))).items = some (ds.map Val.d) := rfl
@[simp] theorem items_r (n : Nat) : (Src.rng 0 1 n).items = some (((List.range n).map fun i : Nat => PyData.int i).map Val.d) := by
  simp [Src.items, List.map_map, Function.comp_def]
@[simp] theorem pures_comp {α : Type} (f : α → PyData) (xs : List α) : pures (xs.map (Val.d ∘ f)) = some (xs.map f) := by
  rw [← List.map_map]; exact pures_map _
@[simp] theorem pures_fun {α : Type} (f : α → PyData) (xs : List α) : pures (xs.map fun x => Val.d (f x)) = some (xs.map f) := pures_comp f xs
@[simp] theorem bools_fun {α : Type} (p : α → Bool) (ds : List α) : boolsD (ds.map fun d => .bool (p d)) = some (ds.map p) := by
  induction ds with
  | nil => rfl
  | cons x r ih => simp [boolsD, ih]
@[simp] theorem ints_fun {α : Type} (p : α → Int) (ds : List α) : intsD (ds.map fun d => .int (p d)) = some (ds.map p) := by
  induction ds with
  | nil => rfl
  | cons x r ih => simp [intsD, ih]
section
variable {M : Store} {ρ : Rho}
@[simp] theorem wOl_eq (i : Nat) (f : List PyData → Res Fl) : wOl ρ i f = match ρ[i]? with
  | some (some (.ol xs)) => f xs
  | _ => .stuck := rfl
@[simp] theorem sApp_eq (i : Nat) (m : Sm Val) : sApp i m ρ M = wOl ρ i fun xs => (m ρ M).bind fun y M1 => match y with
  | .d y => if xs.length < 100000 then .ok (.nx (ρ.set i (some (.ol (xs ++ [y]))))) M1 else .stuck
  | _ => .stuck := rfl
@[simp] theorem sExt_eq (i : Nat) (m : Sm (List Val)) : sExt i m ρ M = wOl ρ i fun xs => (m ρ M).bind fun ys M1 => match pures ys with
  | some ds => if xs.length + ds.length < 100000 then .ok (.nx (ρ.set i (some (.ol (xs ++ ds))))) M1 else .stuck
  | none => .stuck := rfl
@[simp] theorem sSet_eq (i : Nat) (m mj : Sm Val) : sSet i m mj ρ M = wOl ρ i fun xs => (m ρ M).bind fun y M1 => (mj ρ M1).bind fun j M2 => match y, j with
  | .d y, .d (.int j) => match ixN xs.length j with
    | some n => .ok (.nx (ρ.set i (some (.ol (xs.set n y))))) M2
    | none => .stuck
  | _, _ => .stuck := rfl
@[simp] theorem frzR_eq (i : Nat) : frzR ρ i = match ρ[i]? with
  | some (some (.ol xs)) => ρ.set i (some (.sh (.d (.list xs))))
  | some (some (.od xs)) => ρ.set i (some (.sh (.d (.dict (kvD xs)))))
  | _ => ρ := rfl
@[simp] theorem sEnum_eq (a : Sm (List Val)) : sEnum a ρ M = (a ρ M).bind fun xs M1 => match xs with
  | [x] => match kindV M1 x with
    | some k => .ok (.enum k x) M1
    | none => .stuck
  | _ => .stuck := rfl
@[simp] theorem sZip_eq (a : Sm (List Val)) : sZip a ρ M = (a ρ M).bind fun xs M1 => match xs with
  | [x, y] => match kindV M1 x, kindV M1 y with
    | some k1, some k2 => .ok (.zip k1 k2 x y) M1
    | _, _ => .stuck
  | _ => .stuck := rfl
@[simp] theorem fIx_int (x : Val) (i : Int) : fIx x (.d (.int i)) M = match ixV M x i with
  | some v => .ok v M
  | none => .stuck := rfl
@[simp] theorem gSubM_eq (a b : Sm Val) (x : Val) : gSubM a b x ρ M = (a ρ M).bind fun y M1 => (b ρ M1).bind fun j M2 => match y, j with
  | .ref n, .d (.int i) => match M2[n]? with
    | some (.lst xs) => match ixN xs.length i with
      | some k => .ok ρ (M2.set n (.lst (xs.set k x)))
      | none => .stuck
    | _ => .stuck
  | _, _ => .stuck := rfl
end
@[simp] theorem atI_nil {α : Type} (i : Int) : atI ([] : List α) i = none := by
  unfold atI; cases ixN ([] : List α).length i <;> simp
theorem ixN_nat {n : Nat} {i : Nat} (h : i < n) : ixN n (i : Int) = some i := by
  unfold ixN
  rw [if_pos (by omega), if_pos (by omega)]; simp
theorem atI_nat {α : Type} (xs : List α) (i : Nat) (h : i < xs.length) : atI xs (i : Int) = some xs[i] := by
  unfold atI; rw [ixN_nat h]; simp [h]
theorem ixN_int {n : Nat} {i : Int} (h0 : 0 ≤ i) (h : i < n) : ixN n i = some i.toNat := by
  unfold ixN; rw [if_pos h0, if_pos h]
theorem atI_int {α : Type} (xs : List α) (i : Int) (h0 : 0 ≤ i) (h : i < xs.length) : atI xs i = xs[i.toNat]? := by
  unfold atI; rw [ixN_int h0 h]; rfl
theorem cMul_r (i : Int) {j : Int} (h1 : -(2 ^ 64) < j) (h2 : j < 2 ^ 64) : cMul i j = true := by
  unfold cMul; simp only [Bool.or_eq_true, Bool.and_eq_true, decide_eq_true_eq]; exact .inr ⟨h1, h2⟩
theorem cMul_l {i : Int} (j : Int) (h1 : -(2 ^ 64) < i) (h2 : i < 2 ^ 64) : cMul i j = true := by
  unfold cMul; simp only [Bool.or_eq_true, Bool.and_eq_true, decide_eq_true_eq]; exact .inl ⟨h1, h2⟩
theorem fMul_r (i : Int) {j : Int} (h1 : -(2 ^ 64) < j) (h2 : j < 2 ^ 64) : fMulI (.int i) (.int j) = some (.int (i * j)) := by simp [fMulI, cMul_r i h1 h2]
theorem fMul_l {i : Int} (j : Int) (h1 : -(2 ^ 64) < i) (h2 : i < 2 ^ 64) : fMulI (.int i) (.int j) = some (.int (i * j)) := by simp [fMulI, cMul_l j h1 h2]
theorem fDiv_int (i : Int) {j : Int} (h1 : 0 < j) (h2 : j < 1073741824) : fDiv (.int i) (.int j) = some (.int (i / j)) := by simp [fDiv, h1, h2]
theorem fMod_int (i : Int) {j : Int} (h1 : 0 < j) : fMod (.int i) (.int j) = some (.int (i % j)) := by simp [fMod, h1]
theorem noPylong (i : Int) {j : Int} (h1 : 0 < j) (h2 : j < 1073741824) : Builtin.divisionGoesByPylong i j = false := by
  have h : j.natAbs.log2 / 30 = 0 := by
    have : j.natAbs < 2 ^ 30 := by omega
    have := (Nat.log2_lt (by omega)).mpr this
    omega
  have hj : j ≠ 0 := by omega
  simp [Builtin.divisionGoesByPylong, h, hj]
theorem fDivmod_int (i : Int) {j : Int} (M : Store) (h1 : 0 < j) (h2 : j < 1073741824) : fDivmod [.d (.int i), .d (.int j)] M = .ok (.d (.tuple [.int (i / j), .int (i % j)])) M := by
  simp [fDivmod, h1, noPylong i h1 h2]
end Z

/-! Z, part 16: repr of data; count and index in lists of data. -/
namespace Z
open PySem PySem.Spec PyProof.Rows L2

/-- what repr may be asked of -/
def okR (d : PyData) : Bool := d.showable && decide (d.depth ≤ 90) && decide (d.shown.length ≤ sizeLine)
def Mods (base : Heap) : Prop := ∃ o, base.get? sysModules = some o
section
variable {X : Cx}
theorem noMods {pins : List (Addr × Obj)} {σ : L2.St} {H : Hp} {s : Shared} {as : List Addr} (I : Inv X pins σ H s) (m : Mods X.base) (t : Trk H as) : sysModules ∉ as := fun z => by
  obtain ⟨o, e⟩ := t _ z
  obtain ⟨u, hu⟩ := m
  have := (I.env0.bs _ _ hu).2
  rw [e] at this
  cases this
def rReprZ (K : PySem.W.Frag) : List V → Hp → VK → Prop := fun xs H Q => ∃ v d, xs = [v] ∧ Rp K H v d ∧ okR d = true ∧ Q (.str d.shown) H
theorem cb_repr (hg : X.A.guards = some []) (hu : Hu X) (m : Mods X.base) : CallR X (.builtin "repr") (rReprZ X.K) := by
  intro pins s σ H xs us Q I r h
  obtain ⟨v, d, rfl, rd, ok, q⟩ := h
  simp only [okR, Bool.and_eq_true, decide_eq_true_eq] at ok
  obtain ⟨⟨k1, k2⟩, k3⟩ := ok
  obtain ⟨u, rfl, ru⟩ := r.one
  obtain ⟨as, rr, tr⟩ := Rp.readsT I (Same.refl H) d v u rd ru
  have big : X.A.units + (d.depth + 1) < cLine := by unfold Hu at hu; omega
  have byRef : ∀ a, u = .ref a → wpAny (model X.prog X.w) X.A (call (.builtin "repr") [u]) (EP X pins σ Q) X.xe s := fun a e => by
    subst e
    exact repr_of_reads' rr k1 (fun _ => noMods I m tr) hg big (fun _ _ e => e) (fun h' u tk hk => ⟨.str _, H, I.kept hk, ⟨_, rfl⟩, q⟩) k3
  cases rr with
  | none => exact P.repr_of_none ⟨.str _, H, I.tok _, ⟨_, rfl⟩, by simpa [PyData.shown] using q⟩
  | bool b => exact P.repr_of_bool ⟨.str _, H, I.tok _, ⟨_, rfl⟩, by simpa [PyData.shown] using q⟩
  | int i t => exact P.repr_of_int (by simpa [PyData.showable] using k1) ⟨.str _, H, I.tok _, ⟨_, rfl⟩, by simpa [PyData.shown] using q⟩
  | str x t => exact P.repr_of_str ⟨.str _, H, I.tok _, ⟨_, rfl⟩, by simpa [PyData.shown] using q⟩ (by simpa [PyData.shown] using k3)
  | list _ _ _ _ => exact byRef _ rfl
  | tuple _ _ _ _ => exact byRef _ rfl
  | dict _ _ _ _ _ => exact byRef _ rfl
def fRepr : PyData → Option PyData := fun d => if okR d = true then some (.str d.shown) else none
end
section
variable {X : Cx} {C : Ctx} {E : XK} {te tb : TE} {m mb : Sm Val}
/-! xs.count(y), xs.index(y) -/
def rCntZ (K : PySem.W.Frag) : V → List V → Hp → VK → Prop := fun x xs H Q => ∃ y a ds d, xs = [y] ∧ x = .ref a ∧ Rp K H x (.list ds) ∧ Rp K H y d ∧ okIn d ds = true ∧ Q (.int ((ds.countP fun z => PyData.eqv z d : Nat) : Int)) H
def rIdxZ (K : PySem.W.Frag) : V → List V → Hp → VK → Prop := fun x xs H Q => ∃ y a ds d j, xs = [y] ∧ x = .ref a ∧ Rp K H x (.list ds) ∧ Rp K H y d ∧ okIn d ds = true ∧ ds.length ≤ 100000 ∧ ds.findIdx? (fun z => PyData.eqv z d) = some j ∧ Q (.int (j : Nat)) H
theorem Rp.isList {pins : List (Addr × Obj)} {σ : L2.St} {H : Hp} {s : Shared} {a : Addr} {ds : List PyData} (I : Inv X pins σ H s) (h : Rp X.K H (.ref a) (.list ds)) : ∃ (its : List Value) (as : List Addr), s.heap.IsList a its.toArray ∧ ReadsAll s.heap its ds as := by
  cases h with
  | lst hs ha =>
    obtain ⟨its, rv, hl, _⟩ := I.list (SqL.of hs)
    obtain ⟨as, hr⟩ := Rp.readsAll I (Same.refl H) ds _ its ha rv
    exact ⟨its, as, hl.isList, hr⟩
theorem mt_countZ (hu : Hu X) : MtR X "list.count" (rCntZ X.K) := by
  intro pins s σ H x xs v us Q I rx rxs h
  obtain ⟨y, a, ds, d, rfl, rfl, rl, rd, ok, q⟩ := h
  simp only [okIn, Bool.and_eq_true, decide_eq_true_eq] at ok
  obtain ⟨⟨k1, k2⟩, k3⟩ := ok
  cases rx
  obtain ⟨u, rfl, ru⟩ := rxs.one
  obtain ⟨its, as, hl, hr⟩ := Rp.isList I rl
  obtain ⟨bs, r2⟩ := Rp.reads I (Same.refl H) d y u rd ru
  exact PySem.SeqAt.count_list_data hl hr r2 k1 k2 (by unfold Hu at hu; omega) ⟨.int _, H, I.tok _, ⟨_, rfl⟩, q⟩
theorem mt_indexZ (hu : Hu X) : MtR X "list.index" (rIdxZ X.K) := by
  intro pins s σ H x xs v us Q I rx rxs h
  obtain ⟨y, a, ds, d, j, rfl, rfl, rl, rd, ok, hz, hj, q⟩ := h
  simp only [okIn, Bool.and_eq_true, decide_eq_true_eq] at ok
  obtain ⟨⟨k1, k2⟩, k3⟩ := ok
  cases rx
  obtain ⟨u, rfl, ru⟩ := rxs.one
  obtain ⟨its, as, hl, hr⟩ := Rp.isList I rl
  obtain ⟨bs, r2⟩ := Rp.reads I (Same.refl H) d y u rd ru
  obtain ⟨⟨cls, dd, data, sl⟩, ho, hc, n, hd'⟩ := id hl
  simp only at hc hd'
  subst hc hd'
  obtain ⟨hj1, hit, hno⟩ := PySem.SeqAt.hit_at hr k1 hj
  have hlen := PySem.SeqAt.len_at hr
  have big : X.A.units + 1 + min (PyData.depthAll ds) d.depth < cLine := by unfold Hu at hu; omega
  refine call_meets PySem.F.slot_list_index ⟨_, ho, rfl⟩ PySem.F.entry_list_index (PySem.F.args_list_index_2 _ _) (PySem.SeqAt.list_indexAt a its.toArray n dd sl u _ j hj1 (by rw [hlen] at hj1; omega) hit hno) ⟨ho, PySem.SeqAt.items_plain hr r2 k1 k2 big, ⟨.int _, H, I.tok _, ⟨_, rfl⟩, q⟩⟩
end
end Z

/-! Z, part 17: a lambda handed to a def that calls it. -/
namespace Z
open PySem PySem.Spec PyProof.Rows L2 LamX

/-- how the heap stands behind the making of a lambda -/
def TabStep (T : List (Addr × Str)) (q : Str) (c' : Addr) (H H1 : Hp) : Prop :=
  Tabs T H1 ∧ H1 c' = some (CodeO c' q) ∧ (H1 = H ∨ ∃ (P : Addr) (ps ps' : Array Value), H P = some (.tbl ps) ∧ H c' = none ∧ H1 = upd (upd H P (.tbl ps')) c' (CodeO c' q))
section
variable {X : Cx} {pins : List (Addr × Obj)} {σ : L2.St} {H : Hp} {s : Shared}
theorem make_lam {T : List (Addr × Str)} {c P : Addr} {pr : Arguments} {body : Expr} {sc : Scope} {pos : Pos} {E Q : Value → Shared → Prop} (I : Inv X pins σ H s) (TB : TabB X.base X.mg c P) (hc0 : X.env.code = .ref c)
    (hm : (P, X.env.qual ++ "<lambda>") ∈ T) (huq : ∀ p ∈ T, p.1 = P → p.2 = X.env.qual ++ "<lambda>") (hT : Tabs T H) (hd0 : defaultsOf pr X.env = ([], [])) (hfr : ∀ y ∈ sc.names, y.2 = .free → ∃ c, X.env.cells.lookup y.1 = some c)
    (fin : ∀ (f c' : Addr) (pm ctv : Value) (H1 : Hp) (s' : Shared), Inv X pins σ H1 s' → TabStep T (X.env.qual ++ "<lambda>") c' H H1 →
      s'.heap.get? f = some (PySem.W.kla_obj "<lambda>" (X.env.qual ++ "<lambda>") pr body sc (cloFrom X.env.cells sc.names []) pm c' ctv) → H1 f = none → f ∉ frs X.stack → Q (.ref f) s') :
    wpAny (model X.prog X.w) X.A (eval (.Lambda pr body sc pos) X.env) Q E s := by
  obtain ⟨ps, eP, ok3, among⟩ := hT _ hm
  have gP : s.heap.get? P = some { cls := .none, data := .fields ps } := I.hok P _ eP
  have off : ∀ f, s.heap.objs.size ≤ f → f ∉ frs X.stack := fun f hf z => by
    rcases List.mem_cons.mp (I.stkSub _ z) with e | e
    · have q := I.lt
      rw [← e] at q
      exact absurd (Nat.lt_of_lt_of_le q hf) (Nat.lt_irrefl _)
    · exact I.nofs hf e
  refine PySem.W.kla_eval hd0 ?_
  cases ec : codeAmong pos ps.toList with
  | some cv =>
    obtain ⟨c', rfl, hco⟩ := among pos cv ec
    refine PySem.W.kla_makeFunctionHit (mg := X.mg) (c := c) (P := P) (ps := ps) (closure_ok hfr) I.ok.glob (I.mod.glob.keeps I.bk) hc0 (TB.code.keeps I.bk) gP ok3 ec (TB.bm.keeps I.bk) fun ctv h' tk hx hsz => ?_
    exact fin h'.objs.size c' ((X.mg "__name__").getD .none) ctv H _ (I.kept fun b o e => Heap.get?_push_of_some _ (hx b o e)) ⟨hT, hco, .inl rfl⟩ (Heap.get?_push_size _ rfl) (I.hok.fresh hsz) (off _ hsz)
  | none =>
    refine PySem.W.kla_makeFunction (mg := X.mg) (c := c) (P := P) (ps := ps) (closure_ok hfr) I.ok.glob (I.mod.glob.keeps I.bk) hc0 (TB.code.keeps I.bk) gP ok3 ec TB.gP (TB.bm.keeps I.bk) fun c' ctv h' tk hx hge hlt hrec htb => ?_
    obtain ⟨c2, oc, vs, t, e2, hoc, hd, hv⟩ := hrec
    cases e2
    have nC : H c' = none := I.hok.fresh hge
    have nPc : P ≠ c' := ne_of_none eP nC
    have J := inv_table (t' := tk) (more := #[rawInt pos.line, rawInt pos.col, .ref c']) (h' := h'.push (PySem.W.kla_obj "<lambda>" (X.env.qual ++ "<lambda>") pr body sc (cloFrom X.env.cells sc.names []) ((X.mg "__name__").getD .none) c' ctv)) I eP
      (fun b o hb e => Heap.get?_push_of_some _ (hx b o hb e)) (Heap.get?_push_of_some _ htb) hge ⟨oc, vs, t, Heap.get?_push_of_some _ hoc, hd, hv⟩
    have up : ∀ b o, H b = some o → (∀ qs, o ≠ .tbl qs) → upd (upd H P (.tbl (ps ++ #[rawInt pos.line, rawInt pos.col, .ref c']))) c' (CodeO c' (X.env.qual ++ "<lambda>")) b = some o := fun b o e n => by
      have b1 : b ≠ c' := ne_of_none e nC
      have b2 : b ≠ P := fun z => by rw [z, eP] at e; exact n ps (Option.some.inj e).symm
      rw [upd_ne b1, upd_ne b2]; exact e
    have lst : (ps ++ #[rawInt pos.line, rawInt pos.col, .ref c']).toList = ps.toList ++ [rawInt pos.line, rawInt pos.col, .ref c'] := by simp
    have sz : s.heap.objs.size ≤ h'.objs.size := by omega
    have T1 : Tabs T (upd (upd H P (.tbl (ps ++ #[rawInt pos.line, rawInt pos.col, .ref c']))) c' (CodeO c' (X.env.qual ++ "<lambda>"))) := fun p hp => by
      by_cases hb : p.1 = P
      · rw [huq p hp hb, hb]
        refine ⟨_, (upd_ne nPc).trans upd_same, by rw [lst]; exact PySem.TriplesOk_snoc _ _ _ _ ok3, fun p' cv hcv => ?_⟩
        rw [lst] at hcv
        rcases among_app _ ok3 hcv with z | z
        · obtain ⟨c0, q1, q2⟩ := among p' cv z
          exact ⟨c0, q1, up _ _ q2 codeO_ne⟩
        · exact ⟨c', z, upd_same⟩
      · obtain ⟨qs, a1, a2, a3⟩ := hT p hp
        refine ⟨qs, by rw [upd_ne (ne_of_none a1 nC), upd_ne hb]; exact a1, a2, fun p' cv hcv => ?_⟩
        obtain ⟨c0, q1, q2⟩ := a3 p' cv hcv
        exact ⟨c0, q1, up _ _ q2 codeO_ne⟩
    refine fin h'.objs.size c' ((X.mg "__name__").getD .none) ctv _ _ J ⟨T1, upd_same, .inr ⟨P, ps, _, eP, nC, rfl⟩⟩ (Heap.get?_push_size _ rfl) ?_ (off _ sz)
    rw [upd_ne (Nat.ne_of_gt hlt), upd_ne (Nat.ne_of_gt (Nat.lt_of_lt_of_le (Heap.lt_size gP) sz))]
    exact I.hok.fresh sz

/-! ### the body of the lambda -/
abbrev lamN (X : Cx) (A : Around) (out : List Env) (s : Shared) (H : Hp) (E : XK) (sc : Scope) (f c : Addr) : Cx :=
  (lamCx X A out s H E sc f c).tr [] fun e s' => wpAny (model X.prog X.w) (A.deeper (lamEnv X sc s.heap.objs.size f c)) (leaving (lamEnv X sc s.heap.objs.size f c) e) (fun _ z => L2N.CX X.prog X.w out H s E e z) (fun e' z => L2N.CX X.prog X.w out H s E e' z) s'
theorem tk_lam {A : Around} {out : List Env} {E : XK} {sc : Scope} {f c : Addr} : L2N.Takes (lamN X A out s H E sc f c) (fun c d _ H => E c d H) := L2N.takes_of rfl rfl rfl rfl
theorem ps_lam {A : Around} {out : List Env} {E : XK} {sc : Scope} {f c : Addr} : Ps (lamN X A out s H E sc f c) E := L2N.passes_call tk_lam fun _ _ _ _ h => h
/-- x(), x the lambda: Z is the context in which it is called -/
theorem pe_actN {CXg : CXT} {Eg : XK} {Ng : List Str} {qg : Str} {sg : Scope} {g f c' : Addr} {cdg pm ctv : Value} {pr : Arguments} {body : Expr} {sc : Scope} {k i : Nat} {a : Str} {pn : List (Addr × Obj)} {xe : Value → Shared → Prop} {W : WX} {E : XK} {tb : TE} {p1 p2 : Pos}
    (I : Inv X pins σ H s) (L : LamS X.env.scope sc) (hg0 : X.A.guards = some []) (hf : s.heap.get? f = some (PySem.W.kla_obj "<lambda>" (X.env.qual ++ "<lambda>") pr body sc (cloFrom X.env.cells sc.names []) pm c' ctv)) (nf : H f = none) (nfr : f ∉ frs X.stack)
    (hb : bindArgs (PySem.W.kla_fn "<lambda>" (X.env.qual ++ "<lambda>") pr body sc (cloFrom X.env.cells sc.names []) pm (.ref c') ctv) ⟨[], []⟩ = pure [])
    (tk : L2N.Takes ((cxOf CXg X.prog X.w X.K X.mg X.base Ng qg sg g cdg X.A X.stack s H Eg).nox.tr pn xe) W) (hW : ∀ cls d σ' H', E cls d H' → W cls d σ' H') (hr : Room (k + 1) (X.A.deeper (envOfC qg sg s.heap.objs.size g cdg)))
    (hbody : ∀ (A : Around) (out : List Env) (s : Shared) (H : Hp), A.guards = some [] → Room k (A.deeper (lamEnv X sc s.heap.objs.size f c')) → PE (lamN X A out s H E sc f c') body tb)
    (hN : Ng[i]? = some a) (hv : Vis sg a) (hd : (a == ("__debug__" : Str)) = false := by decide) (hcd : (a == ("__classdict__" : Str)) = false := by decide) :
    PE ((cxOf CXg X.prog X.w X.K X.mg X.base Ng qg sg g cdg X.A X.stack s H Eg).nox.tr pn xe) (.Call (.Name a p1) [] [] p2)
      (fun σZ HZ Q => σZ[i]? = some (some (.ref f)) ∧ HZ c' = some (CodeO c' (X.env.qual ++ "<lambda>")) ∧ tb σ HZ Q) := by
  constructor
  rintro pinsZ sZ σZ HZ Q IZ ⟨hs, hc, ht⟩
  refine wpAny_Call_Name_kw (thn ((pe_var (pos := p1) (i := i) hN hv hd hcd).run pinsZ sZ σZ HZ (fun v H1 => v = .ref f ∧ H1 = HZ) IZ ⟨.ref f, hs, rfl, rfl⟩) ?_)
  rintro u s1 ⟨v, H1, I1, r1, rfl, rfl⟩
  obtain rfl : u = Value.ref f := r1
  have at1 := I1.base.keep f _ hf nf nfr (fun z => nomatch (show f ∈ ([] : List Addr) from z))
  refine PySem.W.callWith_F0 ⟨_, _, _, _, at1⟩ ?_
  obtain ⟨⟨oc, vs, t, hoc, hdc, hvc⟩, _, _⟩ := I1.hok c' _ hc
  have hx : Passes (L2N.CX X.prog X.w) ((cxOf CXg X.prog X.w X.K X.mg X.base Ng qg sg g cdg X.A X.stack s H Eg).nox.tr pn xe) E := L2N.passes_call tk hW
  have run : codeAny (model X.prog X.w) (X.A.deeper (envOfC qg sg s.heap.objs.size g cdg)) (.call (.ref f) ⟨[], []⟩) (CR (L2N.CX X.prog X.w) (envOfC qg sg s.heap.objs.size g cdg :: X.stack) X.prog X.w H1 s1 Q E) s1 := by
    refine PySem.W.kla_callFunE hr.depth at1 rfl L.co L.gen rfl ⟨c', oc, vs, t, rfl, hoc, hdc, hvc⟩ ?_
    rw [hb]
    refine wpAny_pure (wpAny_newFunctionEnv (fun y hy => (L.own y hy).2) (fun y hy => absurd hy (by simp)) (fun h₁ hns hsb => ⟨I1.nolimit.fresh _ hsb, ?_⟩) L.kind)
    have kp : ∀ b o, s1.heap.get? b = some o → h₁.get? b = some o := fun b o e => hsb.extBut b o (Nat.ne_of_lt (Heap.lt_size e)) (Heap.get?_push_of_some _ e)
    have J := (lam_start2 (A := X.A.deeper (envOfC qg sg s.heap.objs.size g cdg)) (outer := envOfC qg sg s.heap.objs.size g cdg :: X.stack) (E := E) (f := f) (c' := c') (tk := s1.toks + ([] : List (Str × Value)).length) I L I1.env0 hr.hd I1.base hns kp).toTry fun e s' => wpAny (model X.prog X.w) ((X.A.deeper (envOfC qg sg s.heap.objs.size g cdg)).deeper (lamEnv X sc s1.heap.objs.size f c')) (leaving (lamEnv X sc s1.heap.objs.size f c') e) (fun _ z => L2N.CX X.prog X.w (envOfC qg sg s.heap.objs.size g cdg :: X.stack) H1 s1 E e z) (fun e' z => L2N.CX X.prog X.w (envOfC qg sg s.heap.objs.size g cdg :: X.stack) H1 s1 E e' z) s'
    refine PySem.W.kla_codeExpr (wpAny_mono ((hbody (X.A.deeper (envOfC qg sg s.heap.objs.size g cdg)) _ s1 H1 hg0 (hr.deeper _)).run [] _ _ H1 Q J ht) ?_ (fun e s' hq => hq))
    rintro v s' ⟨w', H', J', rv, q⟩
    exact ⟨w', H', J'.os, J'.bare, J'.base, J'.hok, rv, q⟩
  refine wpAny_call (codeAny_mono run fun r s' hq => ?_)
  match r, hq with
  | .error e, hq => exact hx pinsZ σZ H1 s1 e s' I1 hq
  | .ok (.ret u), hq => exact I1.after hq
  | .ok .next, hq => exact False.elim hq
  | .ok .brk, hq => exact False.elim hq
  | .ok .cont, hq => exact False.elim hq
end
end Z

/-! Z, part 18: the word of a refusal, told within an except suite. -/
namespace Z
open PySem PySem.Spec PyProof.Rows L2 LamX

/-- the refusals, in the order in which their words stand -/
def refs : List Str := ["NoRule", "NoSack", "NoRights", "NoSpeeds", "NoWater", "NoMoment", "NoBook", "NoNumber", "NoWeights", "NoHouses", "NoDeed", "NoText", "NoWord", "TooMuch", "TooMany"]
def refW : List Str := ["rule", "sack", "rights", "speeds", "water", "moment", "book", "number", "weights", "houses", "deed", "text", "word", "much", "many"]
def bang : Str := "! "
def wordOf (c : Str) : Option Str := match refs.findIdx? (fun x => x == c) with
  | some i => (refW[i]?).map fun w => bang ++ w
  | none => none
def Ext (H H' : Hp) : Prop := ∀ b o, H b = some o → H' b = some o
theorem Ext.refl (H : Hp) : Ext H H := fun _ _ h => h
theorem Ext.trans {H H1 H2 : Hp} (a : Ext H H1) (b : Ext H1 H2) : Ext H H2 := fun c o h => b c o (a c o h)
theorem Ext.new {H : Hp} {p : Addr} {o : HO} (h : H p = none) : Ext H (upd H p o) := fun b u e => by rw [upd_ne (ne_of_none e h)]; exact e
theorem Ok.ext {C : Ctx} {g : G} {M : Store} {H H' : Hp} (k : Ok C g M H) (e : Ext H H') : Ok C g M H' ∧ Step g H g H' := by
  refine ⟨⟨fun b u hb => e _ _ (k.ex _ _ hb), k.len, k.nd, k.sep, fun n a nd h1 h2 => ?_, k.tabs.ext e, k.nt⟩, ⟨⟨[], by simp⟩, Same.refl _, fun b o _ _ h => e _ _ h, fun b h => ?_, fun b h => .inl h, fun b o h => .inl h⟩⟩
  · have := k.node n a nd h1 h2
    cases nd with
    | lst xs => obtain ⟨vs, h1, h2⟩ := this; exact ⟨vs, e _ _ h1, h2⟩
    | tup xs => obtain ⟨vs, h1, h2⟩ := this; exact ⟨vs, rdMono e h1, h2⟩
    | dic xs => obtain ⟨vs, h1, h2⟩ := this; exact ⟨vs, e _ _ h1, h2⟩
    | obj c xs => obtain ⟨A, dx, vf, h1, h2, h3⟩ := this; exact ⟨A, dx, vf, e _ _ h1, h2, h3⟩
    | dead => exact this
  · cases q : H b with
    | none => rfl
    | some o => rw [e _ _ q] at h; cases h

/-! ### a def that is called with the exception in hand -/
structure WZ (P : Program) (w : World) (K : PySem.W.Frag) (mg : Str → Option Value) (base : Heap) (k : Nat) (f : Addr) (fd : FuncData) : Prop where
  go : ∀ (A : Around) (out : List Env) (s : Shared) (H : Hp) (p : Addr × Obj) (D : Addr) (c wd : Str) (Q : VK), L2H.RoomH k A → L2H.Hot1 A p → L2H.PinOk out H s p → Env0 P w K mg base A out s H → L2N.Zn (.ref D) none p.2 → mg c = some (.ref D) → wordOf c = some wd →
    (∀ H', Ext H H' → Q (.str wd) H') → BindsTo s fd ⟨[.ref p.1], []⟩ [("_law_e", .ref p.1)] → codeAny (model P w) A (.call (.ref f) ⟨[.ref p.1], []⟩) (CR C8.CX0 out P w H s Q C8.E0) s
section
variable {P : Program} {w : World} {K : PySem.W.Frag} {mg : Str → Option Value} {base : Heap}
theorem wz_of {x qual : Str} {st : Stmt} {f : Addr} {fd : FuncData} {N : List Str} {k : Nat} (F : Fun K x qual st f fd) (S : FnScope N ["_law_e"] (defScope st))
    (body : ∀ (cd : Value) (A : Around) (out : List Env) (s : Shared) (H : Hp) (p : Addr × Obj) (D : Addr) (c wd : Str) (Q : VK), L2H.Hot1 A p → L2H.RoomH k (A.deeper (envOfC qual (defScope st) s.heap.objs.size f cd)) → L2N.Zn (.ref D) none p.2 → mg c = some (.ref D) → wordOf c = some wd →
      (∀ H', Ext H H' → Q (.str wd) H') → ∃ t, PSs (L2H.cxH C8.CX0 P w K mg base N qual (defScope st) f cd A out s H C8.E0 p) (defBody st) t ∧ t { nx := fun _ H' => Q .non H', rt := Q } (L2.start N [.ref p.1]) H) : WZ P w K mg base (k + 1) f fd := by
  obtain ⟨oc, od, kV, doc, pm, an, cd, ct, osl, e, look, code⟩ := F.ex
  subst e
  constructor
  intro A out s H p D c wd Q room hot pin en z hm hw hQ bd
  have old : ∀ b o, base.get? b = some o → s.heap.get? b = some o := fun b o q => (en.bs b o q).1
  have kx := en.mod.kin.keeps old
  have kinds : ∀ y ∈ (["_law_e"] : List Str).zip [Value.ref p.1], (defScope st).names.lookup y.1 = some .local ∨ ((defScope st).names.lookup y.1 = some .cell ∧ ((cellsFrom (s.heap.objs.size + 1) (defScope st).names []).lookup y.1).isSome = true) := by
    rintro ⟨n, v⟩ hy
    rcases S.par n (List.of_mem_zip hy).1 with q | q
    · left; exact q
    · right; exact ⟨q, PySem.W.cellsFrom_some _ _ _ (.inl q)⟩
  refine codeAny_call_function room.depth (kx _ _ look) rfl S.co S.gen rfl (PySem.W.codeRec_of kx code) (bd _ _ _ _ ?_)
  refine wpAny_newFunctionEnv_cells (binds := (["_law_e"] : List Str).zip [Value.ref p.1]) S.kind kinds fun env ee s1 xx => ?_
  subst ee
  refine ⟨(en.mod.nolimit.keeps old).keeps xx.toInCall.keep, codeAny_func ?_⟩
  obtain ⟨t, ht, hq⟩ := body cd A out s H p D c wd Q hot (room.deeper _) z hm hw hQ
  have J0 := L2H.inv_startH (CX := C8.CX0) (E := C8.E0) (vs := [.ref p.1]) (us := [.ref p.1]) S pin en rfl (.cons rfl .nil) xx
  refine wpAny_mono (ht.run [] s1 _ H _ J0 hq) ?_ (fun _ _ z => z)
  intro fl s' z
  cases fl with
  | ret u => obtain ⟨v, _, H', J, r, q⟩ := z; exact ⟨v, H', J.os, J.bare, J.base, J.hok, r, q⟩
  | next => obtain ⟨_, H', J, q⟩ := z; exact ⟨.non, H', J.os, J.bare, J.base, J.hok, rfl, q⟩
  | brk => obtain ⟨_, _, _, q⟩ := z; exact q.elim
  | cont => obtain ⟨_, _, _, q⟩ := z; exact q.elim
end

/-! ### what is known of the classes -/
structure ErrK (K : PySem.W.Frag) (mg : Str → Option Value) : Prop where
  at_ : ∀ (i : Nat) (c : Str), refs[i]? = some c → ∃ A, mg c = some (.ref A) ∧ ExcC K A ∧ PySem.W.kitOne K (.ref A) (.type "ValueError") = some true ∧
    (∀ (j : Nat) (c' : Str), refs[j]? = some c' → ∃ A', mg c' = some (.ref A') ∧ PySem.W.keepIn K (.ref A') = true ∧ PySem.W.kitOne K (.ref A) (.ref A') = some (decide (j = i)))
  mill : ∃ B, mg "MillError" = some (.ref B) ∧ ∀ (i : Nat) (c : Str), refs[i]? = some c → ∃ A, mg c = some (.ref A) ∧ PySem.W.exmOne K (.ref A) (.ref B) = some true
theorem word_at {c wd : Str} (h : wordOf c = some wd) : ∃ (i : Nat) (w : Str), refs[i]? = some c ∧ refW[i]? = some w ∧ wd = bang ++ w := by
  unfold wordOf at h
  cases e : refs.findIdx? (fun x => x == c) with
  | none => rw [e] at h; cases h
  | some i =>
    rw [e] at h
    simp only [Option.map_eq_some_iff] at h
    obtain ⟨w, h1, h2⟩ := h
    obtain ⟨hlt, h3, _⟩ := List.findIdx?_eq_some_iff_getElem.mp e
    exact ⟨i, w, by rw [List.getElem?_eq_getElem hlt, eq_of_beq h3], h1, h2.symm⟩

/-! ### isinstance of the exception in hand -/
section
variable {X : Cx}
theorem call_isP {a D : Addr} {oe : Obj} (C : ExcC X.K D) (hz : L2N.Zn (.ref D) none oe) (hf : ∃ vs, oe.data = .fields vs) (hp : (a, oe) ∈ X.pn) : CallR X (.builtin "isinstance") (rIsE X.K D a) := by
  rintro pins s σ H xs us Q I r ⟨c, cv, b, rfl, hcv, e, q⟩
  cases r with
  | cons rx rr =>
    cases rr with
    | cons rt rn =>
    cases rn
    cases rx
    cases hcv _ rt
    have got := (I.pin (a, oe) (List.mem_append_left _ hp)).1
    obtain ⟨vs, hv⟩ := hf
    obtain ⟨oc, od, oda, osl⟩ := oe
    obtain ⟨h1, h2, _⟩ := hz
    dsimp only at h1 h2 hv
    subst h1 h2 hv
    exact PySem.W.kia_one (PySem.W.handS_kitx_exc C.hg C.hk C.hs C.hd C.ha C.hn C.ht C.hm) I.kIn ⟨got, rfl, rfl, trivial⟩ e (fun z => nomatch z) fun tk => ⟨.bl b, H, I.kept (t' := tk) fun _ _ z => z, rfl, q⟩
/-- the reading of isinstance(e, C) -/
def tIsP (a : Addr) (b : Bool) : TE := fun σ H Q => σ[0]? = some (some (.ref a)) ∧ Q (.bl b) H
theorem PE.of {e : Expr} {t t' : TE} (h : PE X e t) (i : ∀ σ H Q, t' σ H Q → t σ H Q) : PE X e t' := ⟨fun pins s σ H Q I q => h.run pins s σ H Q I (i _ _ _ q)⟩
theorem pe_isP {a D A : Addr} {oe : Obj} {n x : Str} {b : Bool} {p p2 p3 pos : Pos} (C : ExcC X.K D) (hz : L2N.Zn (.ref D) none oe) (hf : ∃ vs, oe.data = .fields vs) (hp : (a, oe) ∈ X.pn) (hg : Gl X "isinstance") (hm : X.mg "isinstance" = none) (he : PE X (.Name n p2) (tVar 0)) (hgx : Gl X x)
    (hx : X.mg x = some (.ref A)) (hk : PySem.W.kitOne X.K (.ref D) (.ref A) = some b) (hd : (x == ("__debug__" : Str)) = false := by decide) (hs : starEach [.Name n p2, .Name x p3] X.env = (false, eval (.Name n p2) X.env) :: starEach [.Name x p3] X.env := by rfl)
    (hs2 : starEach [.Name x p3] X.env = (false, eval (.Name x p3) X.env) :: starEach [] X.env := by rfl) (hpl : (backTo pos (starEach [.Name x p3] X.env)).any (·.1) = false := by rfl) :
    PE X (.Call (.Name "isinstance" p) [.Name n p2, .Name x p3] [] pos) (tIsP a b) :=
  PE.of (pe_callB (call_isP C hz hf hp) hg hm bb_isinstance (pa_cons he (pa_cons (pe_glob (v := .ref A) hgx hx rfl hd) pa_nil hs2) hs) (hpl := hpl)) fun σ H Q ⟨h1, h2⟩ => ⟨_, h1, _, .ref A, b, rfl, fun u r => r, hk, h2⟩
theorem pe_isV {a D : Addr} {oe : Obj} {n : Str} {p p2 p3 pos : Pos} (C : ExcC X.K D) (hz : L2N.Zn (.ref D) none oe) (hf : ∃ vs, oe.data = .fields vs) (hp : (a, oe) ∈ X.pn) (hg : Gl X "isinstance") (hm : X.mg "isinstance" = none) (he : PE X (.Name n p2) (tVar 0)) (hgx : Gl X "ValueError")
    (hx : X.mg "ValueError" = none) (hk : PySem.W.kitOne X.K (.ref D) (.type "ValueError") = some true) (hs : starEach [.Name n p2, .Name "ValueError" p3] X.env = (false, eval (.Name n p2) X.env) :: starEach [.Name "ValueError" p3] X.env := by rfl)
    (hs2 : starEach [.Name "ValueError" p3] X.env = (false, eval (.Name "ValueError" p3) X.env) :: starEach [] X.env := by rfl) (hpl : (backTo pos (starEach [.Name "ValueError" p3] X.env)).any (·.1) = false := by rfl) :
    PE X (.Call (.Name "isinstance" p) [.Name n p2, .Name "ValueError" p3] [] pos) (tIsP a true) :=
  PE.of (pe_callB (call_isP C hz hf hp) hg hm bb_isinstance (pa_cons he (pa_cons (pe_bltn (v := .ty "ValueError") hgx hx (by decide +kernel) rfl) pa_nil hs2) hs) (hpl := hpl)) fun σ H Q ⟨h1, h2⟩ => ⟨_, h1, _, .type "ValueError", true, rfl, fun u r => r, hk, h2⟩
end
end Z

/-! Z, part 19: the reading of the refusal's word. -/
namespace Z
open PySem PySem.Spec PyProof.Rows L2 LamX

def tIsL (a : Addr) (i : Nat) : List Nat → TA
  | [] => tNil
  | j :: r => tCons (tIsP a (decide (j = i))) (tIsL a i r)
theorem isL_reads {a : Addr} {i : Nat} {σ : L2.St} {H : Hp} (h : σ[0]? = some (some (.ref a))) : ∀ (l : List Nat) (R : List V → Hp → Prop), R (l.map fun j => V.bl (decide (j = i))) H → tIsL a i l σ H R
  | [], R, q => q
  | j :: r, R, q => ⟨h, isL_reads h r _ q⟩
def tStrL : List Str → TA
  | [] => tNil
  | x :: r => tCons (tC (.str x)) (tStrL r)
theorem strL_reads {σ : L2.St} {H : Hp} : ∀ (l : List Str) (R : List V → Hp → Prop), R (l.map V.str) H → tStrL l σ H R
  | [], R, q => q
  | x :: r, R, q => strL_reads r (fun xs H2 => R (V.str x :: xs) H2) q
def tAsk (a : Addr) (i : Nat) (l : List Nat) : TS := tAsg (tOp rCat (tVar 1) (tLst (tIsL a i l))) (gName 1)
def wdA : List Str := ["rule", "sack", "rights", "speeds", "water", "moment", "book", "number", "weights", "houses", "deed"]
def wdB : List Str := ["text", "word", "much", "many"]
def tWordB (K : PySem.W.Frag) (a : Addr) (i : Nat) : TS :=
  tSeq (tAsg (tLst (tIsL a i [0, 1, 2, 3])) (gName 1))
  (tSeq (tAsk a i [4, 5, 6, 7]) (tSeq (tAsk a i [8, 9, 10, 11]) (tSeq (tAsk a i [12, 13, 14])
  (tSeq (tIfS (tOr (tNot (tB (tIsP a true))) (tTest (tOp (rF2 K fNe) (tBM K "list" (rCntZ K) (tVar 1) (tCons (tC (.bl true)) tNil)) (tC (.int 1))))) (tRet (tC (.str "! none of them"))) tNext)
  (tSeq (tAsg (tLst (tStrL wdA)) (gName 2))
  (tRet (tOp (rF2 K fAddF) (tC (.str bang)) (tOp (rIxL K) (tOp rCat (tVar 2) (tLst (tStrL wdB))) (tBM K "list" (rIdxZ K) (tVar 1) (tCons (tC (.bl true)) tNil))))))))))
theorem asked {a : Addr} {i : Nat} {l : List Nat} {σ : L2.St} {H : Hp} {D : Ends} {q : Addr} {bs : List V} (h0 : σ[0]? = some (some (.ref a))) (h1 : σ[1]? = some (some (.ref q))) (hq : H q = some (.lst bs)) (hb : bs.length ≤ 15) (hl : l.length ≤ 4)
    (k : ∀ q' H', Ext H H' → H' q' = some (.lst (bs ++ l.map fun j => V.bl (decide (j = i)))) → D.nx (σ.set 1 (some (.ref q'))) H') : tAsk a i l D σ H := by
  refine ⟨_, h1, isL_reads h0 l _ ⟨?_, fun p np => ?_⟩⟩
  · rw [List.length_map, sizeLine_eq]; omega
  · refine ⟨q, p, bs, _, rfl, rfl, ?_, upd_same, ?_, fun p2 np2 => ?_⟩
    · rw [upd_ne (ne_of_none hq np)]; exact hq
    · rw [List.length_map, sizeLine_eq]; omega
    · exact k p2 _ ((Ext.new np).trans (Ext.new np2)) upd_same
theorem bits_facts : ∀ i, i < 15 → (((List.range 15).map fun j => PyData.bool (decide (j = i))).countP fun z => PyData.eqv z (.bool true)) = 1 ∧ ((List.range 15).map fun j => PyData.bool (decide (j = i))).findIdx? (fun z => PyData.eqv z (.bool true)) = some i := by decide
theorem bits_ok : ∀ i, i < 15 → okIn (.bool true) ((List.range 15).map fun j => PyData.bool (decide (j = i))) = true := by decide
theorem word_reads {K : PySem.W.Frag} {a : Addr} {i : Nat} {c w : Str} {H : Hp} {D : Ends} (hc : refs[i]? = some c) (hw : refW[i]? = some w) (k : ∀ H', Ext H H' → D.rt (.str (bang ++ w)) H') : tWordB K a i D (L2.start ["_law_e", "_law_kinds", "_law_words"] [.ref a]) H := by
  have hi : i < 15 := (List.getElem?_eq_some_iff.mp hc).1
  have st0 : L2.start ["_law_e", "_law_kinds", "_law_words"] [.ref a] = [some (.ref a), none, none] := rfl
  rw [st0]
  refine isL_reads rfl _ _ ⟨by rw [sizeLine_eq]; simp, fun q1 n1 => ?_⟩
  refine asked (q := q1) rfl rfl upd_same (by simp) (by decide) fun q2 H2 e2 s2 => ?_
  refine asked (q := q2) rfl rfl s2 (by simp) (by decide) fun q3 H3 e3 s3 => ?_
  refine asked (q := q3) rfl rfl s3 (by simp) (by decide) fun q4 H4 e4 s4 => ?_
  have lst : ((([0, 1, 2, 3].map fun j => V.bl (decide (j = i))) ++ [4, 5, 6, 7].map fun j => V.bl (decide (j = i))) ++ [8, 9, 10, 11].map fun j => V.bl (decide (j = i))) ++ [12, 13, 14].map (fun j => V.bl (decide (j = i))) = (List.range 15).map fun j => V.bl (decide (j = i)) := by rfl
  rw [lst] at s4
  have rp : ∀ {H' : Hp}, Ext H4 H' → Rp K H' (.ref q4) (.list ((List.range 15).map fun j => PyData.bool (decide (j = i)))) := fun {H'} e => by
    refine .lst (e _ _ s4) ?_
    generalize List.range 15 = l
    induction l with
    | nil => exact .nil
    | cons x r ih => exact .cons (.bl _) ih
  obtain ⟨f1, f2⟩ := bits_facts i hi
  refine ⟨rfl, true, rfl, ?_⟩
  refine ⟨_, rfl, .inl ⟨rfl, _, SqL.of s4⟩, ⟨_, q4, _, .bool true, rfl, rfl, rp (Ext.refl _), .bl true, bits_ok i hi, ?_⟩⟩
  rw [f1]
  refine ⟨.int 1, .int 1, .bool false, .bl false, .int _, .int _, by simp, rfl, false, rfl, ?_⟩
  refine strL_reads _ _ ⟨by rw [sizeLine_eq]; decide, fun q5 n5 => ?_⟩
  refine ⟨_, rfl, strL_reads _ _ ⟨by rw [sizeLine_eq]; decide, fun q6 n6 => ?_⟩⟩
  have n56 : q5 ≠ q6 := ne_of_none upd_same n6
  refine ⟨q5, q6, _, _, rfl, rfl, (upd_ne n56).trans upd_same, upd_same, by rw [sizeLine_eq]; decide, fun q7 n7 => ?_⟩
  have e7 : Ext H4 (upd (upd (upd H4 q5 (.lst (wdA.map V.str))) q6 (.lst (wdB.map V.str))) q7 (.lst (wdA.map V.str ++ wdB.map V.str))) :=
    ((Ext.new n5).trans (Ext.new n6)).trans (Ext.new n7)
  refine ⟨_, rfl, .inl ⟨rfl, _, SqL.of (e7 _ _ s4)⟩, ⟨_, q4, _, .bool true, i, rfl, rfl, rp e7, .bl true, bits_ok i hi, by simp, f2, ?_⟩⟩
  refine ⟨q7, _, (i : Int), .str w, rfl, rfl, SqL.of upd_same, ?_, ?_⟩
  · have : wdA.map V.str ++ wdB.map V.str = refW.map V.str := rfl
    rw [this, atI_nat _ i (by rw [List.length_map]; exact hi)]
    simp only [List.getElem_map]
    rw [(List.getElem?_eq_some_iff.mp hw).2]
  · have wl : w.length ≤ 10 := by
      have : ∀ i, i < 15 → ∀ w, refW[i]? = some w → w.length ≤ 10 := by decide
      exact this i hi w hw
    refine ⟨.str bang, .str w, .str (bang ++ w), .str (bang ++ w), .str _, .str _, ?_, rfl, ?_⟩
    · have b2 : bang.length = 2 := rfl
      simp only [fAddF]
      rw [if_pos (by rw [sizeLine_eq]; omega)]
    · exact k _ ((((((Ext.new n1).trans e2).trans e3).trans e4).trans e7))
end Z

/-! Z, part 20: what a call tells, or the word of its refusal. -/
namespace Z
open PySem PySem.Spec PyProof.Rows L2 LamX

/-- what is known of the def that tells it -/
structure SaidK (K : PySem.W.Frag) (mg : Str → Option Value) : Prop where
  ex : ∃ (g : Addr) (fd : FuncData) (st : Stmt), mg "_law_said" = some (.ref g) ∧ Fun K "_law_said" "_law_said" st g fd ∧ Binds K fd ["_law_call"] [] ∧ FnScope ["_law_call", "_law_e"] ["_law_call"] (defScope st) ∧ Vis (defScope st) "_law_call" ∧ Vis (defScope st) "_law_e" ∧
    (defScope st).names.lookup ("_law_e" : Str) = some .local ∧ (defScope st).names.lookup ("repr" : Str) = some .globalImplicit ∧ (defScope st).names.lookup ("MillError" : Str) = some .globalImplicit ∧ (defScope st).names.lookup ("_law_word" : Str) = some .globalImplicit ∧
    ∃ p1 p2 p3 p4 p5 p6 p7 p8 p9 p10 p11 p12 : Pos, defBody st = [.Try [.Return (some (.Call (.Name "repr" p1) [.Call (.Name "_law_call" p2) [] [] p3] [] p4)) p5]
      [.ExceptHandler (some (.Name "MillError" p6)) (some "_law_e") [.Return (some (.Call (.Name "_law_word" p7) [.Name "_law_e" p8] [] p9)) p10] p11] [] [] p12]
/-- the def that is called there -/
structure WordZ (P : Program) (w : World) (K : PySem.W.Frag) (mg : Str → Option Value) (base : Heap) (k : Nat) : Prop where
  ex : ∃ (f : Addr) (fd : FuncData), mg "_law_word" = some (.ref f) ∧ PySem.W.keepIn K (.ref f) = true ∧ Binds K fd ["_law_e"] [] ∧ WZ P w K mg base k f fd
def ESaid (mg : Str → Option Value) (Q : VK) : XK := fun cls d H' => ∃ c A wd, cls = .ref A ∧ d = none ∧ mg c = some (.ref A) ∧ wordOf c = some wd ∧ ∀ H2, Ext H' H2 → Q (.str wd) H2
def tSaid (K : PySem.W.Frag) (mg : Str → Option Value) (T : List (Addr × Str)) (q : Str) (t : XK → TE) : TE := fun σ H Q => Tabs T H ∧ ∀ c' H1, TabStep T q c' H H1 → t (ESaid mg Q) σ H1 fun v H' => rReprZ K [v] H' Q
section
variable {X : Cx}
theorem pe_said {T : List (Addr × Str)} {c P0 : Addr} {k j : Nat} {t : XK → TE} {pr : Arguments} {body : Expr} {sc : Scope} {p lpos pos : Pos} (S : SaidK X.K X.mg) (W : WordZ X.prog X.w X.K X.mg X.base j) (EK : ErrK X.K X.mg) (hgl : Gl X "_law_said") (hm : X.mg "repr" = none) (hg : X.A.guards = some []) (hr : Room (k + 2) X.A) (hj : j ≤ k + 1)
    (m : Mods X.base) (TB : TabB X.base X.mg c P0) (hc0 : X.env.code = .ref c) (hmT : (P0, X.env.qual ++ "<lambda>") ∈ T) (huq : ∀ p ∈ T, p.1 = P0 → p.2 = X.env.qual ++ "<lambda>") (L : LamS X.env.scope sc) (hd0 : defaultsOf pr X.env = ([], []))
    (hb : ∀ (q : Str) (cl : List (Str × Addr)) (pm cv ctv : Value), bindArgs (PySem.W.kla_fn "<lambda>" q pr body sc cl pm cv ctv) ⟨[], []⟩ = pure [])
    (hbody : ∀ (A : Around) (out : List Env) (s : Shared) (H : Hp) (E : XK) (f c' : Addr), A.guards = some [] → Room k (A.deeper (lamEnv X sc s.heap.objs.size f c')) → PE (lamN X A out s H E sc f c') body (t E)) :
    PE X (.Call (.Name "_law_said" p) [.Lambda pr body sc lpos] [] pos) (tSaid X.K X.mg T (X.env.qual ++ "<lambda>") t) := by
  obtain ⟨g, fd, st, mgS, F, bS, scS, vc, ve, vl, gr, gm, gw, p1, p2, p3, p4, p5, p6, p7, p8, p9, p10, p11, p12, hst⟩ := S.ex
  obtain ⟨oc, od, kV, doc, pm0, an, cdv, ct, osl, efd, look, code⟩ := F.ex
  subst efd
  obtain ⟨B, mgB, subB⟩ := EK.mill
  constructor
  rintro pins s σ H Q I ⟨hT, h⟩
  refine wpAny_Call_Name_kw (ld_glob I hgl mgS ?_ (by decide))
  refine PySem.W.callWith_K (h₀ := X.base) I.ok.mod.kin F.kp ?_ (by rfl) (by rfl)
  show wpAny _ _ (spliced ((false, eval (.Lambda pr body sc lpos) X.env) :: backTo pos (starEach [] X.env))) _ _ s
  refine Calls.spliced_cons (make_lam I TB hc0 hmT huq hT hd0 (L.has I.ok) fun f c' pm' ctv H1 s' I1 ts hf nf nfr => ?_)
  refine Calls.spliced_nil ⟨I1.kIn, ?_⟩
  have hq0 := h c' H1 ts
  have run : codeAny (model X.prog X.w) X.A (.call (.ref g) ⟨[.ref f], []⟩) (CR C8.CX0 X.stack X.prog X.w H1 s' Q C8.E0) s' := by
    refine run_ofS (N := ["_law_call", "_law_e"]) (ps := ["_law_call"]) (us := [.ref f]) (vs := [.ref f]) look code scS hr I1.env0 (bS s' [.ref f] I1.kIn rfl) (.cons rfl .nil) rfl fun hr' => ?_
    have gm' : Gl (cxOf C8.CX0 X.prog X.w X.K X.mg X.base ["_law_call", "_law_e"] "_law_said" (defScope st) g cdv X.A X.stack s' H1 C8.E0).nox "MillError" := gm
    rw [hst]
    refine ⟨_, (pss_one (L2N.ps_try_as (X := (cxOf C8.CX0 X.prog X.w X.K X.mg X.base ["_law_call", "_law_e"] "_law_said" (defScope st) g cdv X.A X.stack s' H1 C8.E0).nox) (c := .ref B) (i := 1) (Wout := fun _ _ _ _ => False)
      (tb := fun W D σZ HZ => ∃ Ech : XK, (∀ cls d σ' H', Ech cls d H' → W cls d σ' H') ∧ σZ[0]? = some (some (.ref f)) ∧ HZ c' = some (CodeO c' (X.env.qual ++ "<lambda>")) ∧ t Ech σ HZ fun v H' => rReprZ X.K [v] H' D.rt)
      (ts := fun a cls d D σZ HZ => (∃ σ' : L2.St, σZ = σ'.set 1 (some (.ref a))) ∧ ESaid X.mg D.rt cls d HZ) rfl rfl scS.nd rfl vl ⟨gm', by decide, .inl mgB⟩ (fun _ _ x => ?_) (fun W0 pn xe tk _ => ?_) (fun a oe cls d pn hz hf' => ?_))).nox, ?_⟩
    · obtain ⟨_, _, _, _, _, _, _, _, _, _, _, _, _, _, _, _, z⟩ := x
      exact z.elim
    · constructor
      rintro pinsZ sZ σZ HZ D IZ ⟨Ech, hW, h1, h2, h3⟩
      have act := pe_actN (X := X) (CXg := C8.CX0) (Eg := C8.E0) (Ng := ["_law_call", "_law_e"]) (qg := "_law_said") (sg := defScope st) (g := g) (cdg := cdv) (i := 0) (p1 := p2) (p2 := p3) (a := "_law_call") (E := Ech) I1 L hg hf nf nfr (hb _ _ _ _ _) tk hW hr' (fun A out s H ga ro => hbody A out s H Ech f c' ga ro) rfl vc
      have hu : Hu ((cxOf C8.CX0 X.prog X.w X.K X.mg X.base ["_law_call", "_law_e"] "_law_said" (defScope st) g cdv X.A X.stack s' H1 C8.E0).nox.tr pn xe) := by have := hr'.un; unfold Hu; show (X.A.deeper _).units + 180 < cLine; omega
      have rp := pe_callB (X := (cxOf C8.CX0 X.prog X.w X.K X.mg X.base ["_law_call", "_law_e"] "_law_said" (defScope st) g cdv X.A X.stack s' H1 C8.E0).nox.tr pn xe) (p := p1) (pos := p4) (cb_repr hg hu m) gr hm bb_repr (pa_cons act pa_nil)
      exact (pss_one (ps_ret (pos := p5) rp)).run pinsZ sZ σZ HZ D IZ ⟨h1, h2, h3⟩
    · constructor
      rintro pinsZ sZ σZ HZ D IZ ⟨⟨σ0, h0⟩, c0, A0, wd, rfl, rfl, hmA, hwd, hq1⟩
      obtain ⟨fw, fdw, mgW, kpW, bW, WW⟩ := W.ex
      obtain ⟨vs, hvs⟩ := hf'
      have h1 : σZ[1]? = some (some (.ref a)) := by
        have hl : σZ.length = 2 := IZ.len
        rw [h0] at hl ⊢
        rw [List.length_set] at hl
        exact List.getElem?_set_self (by omega)
      have pe : PE ((cxOf C8.CX0 X.prog X.w X.K X.mg X.base ["_law_call", "_law_e"] "_law_said" (defScope st) g cdv X.A X.stack s' H1 C8.E0).nox.suite a ((a, oe) :: pn)) (.Call (.Name "_law_word" p7) [.Name "_law_e" p8] [] p9)
          (fun σ H Q => σ[1]? = some (some (.ref a)) ∧ ∀ H2, Ext H H2 → Q (.str wd) H2) := by
        constructor
        rintro pinsY sY σY HY QY IY ⟨e1, e2⟩
        refine wpAny_Call_Name_kw (ld_glob IY gw mgW ?_ (by decide))
        refine PySem.W.callWith_K (h₀ := X.base) IY.ok.mod.kin kpW (thn ((pa_cons (pe_var (i := 1) (X := (cxOf C8.CX0 X.prog X.w X.K X.mg X.base ["_law_call", "_law_e"] "_law_said" (defScope st) g cdv X.A X.stack s' H1 C8.E0).nox.suite a ((a, oe) :: pn)) rfl ve) pa_nil).run p9 pinsY sY σY HY (fun vs H2 => vs = [.ref a] ∧ H2 = HY) IY ⟨_, e1, rfl, rfl⟩) ?_) (by rfl) (by rfl)
        rintro us s3 ⟨vs3, H3, I3, r3, rfl, rfl⟩
        refine ⟨I3.kIn, ?_⟩
        obtain ⟨u, rfl, ru⟩ := r3.one
        cases ru
        have bd := bW s3 [.ref a] I3.kIn rfl
        rw [List.append_nil] at bd
        have P1 := I3.pin (a, oe) (List.mem_append_left _ List.mem_cons_self)
        refine wpAny_call (codeAny_mono (WW.go _ _ s3 H3 (a, oe) A0 c0 wd QY (L2H.RoomH.mono (k := k + 1) ⟨hr'.dp, hr'.un⟩ hj) ⟨rfl, vs, hvs, hz.2.2 vs hvs⟩
          ⟨P1.1, P1.2.1, fun hm => (List.mem_cons.mp (I3.stkSub a hm)).elim P1.2.2.1 P1.2.2.2.1, P1.2.2.2.2⟩ I3.env0 hz hmA hwd e2 bd) fun r s4 hq => ?_)
        match r, hq with
        | .error e, hq => exact (show False from hq).elim
        | .ok (.ret u), hq => exact I3.after hq
        | .ok .next, hq => exact False.elim hq
        | .ok .brk, hq => exact False.elim hq
        | .ok .cont, hq => exact False.elim hq
      exact (pss_one (ps_ret (pos := p10) pe)).run pinsZ sZ σZ HZ D IZ ⟨h1, hq1⟩
    · refine ⟨ESaid X.mg Q, fun cls d σ' H' he => ?_, rfl, ts.2.1, hq0⟩
      obtain ⟨c0, A0, wd, rfl, rfl, hmA, hwd, hq1⟩ := he
      obtain ⟨i, wi, hi, _, _⟩ := word_at hwd
      obtain ⟨A1, hA1, hx⟩ := subB i c0 hi
      rw [hmA] at hA1
      cases hA1
      refine ⟨true, hx, fun _ a ha => ⟨⟨σ', rfl⟩, c0, A0, wd, rfl, rfl, hmA, hwd, hq1⟩, fun z => nomatch z⟩
  refine wpAny_call (codeAny_mono run fun r s2 hq => ?_)
  match r, hq with
  | .error e, hq => exact (show False from hq).elim
  | .ok (.ret u), hq => exact I1.after hq
  | .ok .next, hq => exact False.elim hq
  | .ok .brk, hq => exact False.elim hq
  | .ok .cont, hq => exact False.elim hq
end
end Z

/-! Z, part 21: the mirror of a told call; defs that make lambdas; slots forgotten. -/
namespace Z
open PySem PySem.Spec PyProof.Rows L2 LamX

section
variable {C : Ctx} {E : XK} {g g' : G} {H H' H0 H1 : Hp} {M M' : Store} {σ : L2.St} {ρ : Rho}
theorem tab_ok {q : Str} {c' : Addr} (k : Ok C g M H) (ts : TabStep C.T q c' H H1) : Ok C g M H1 ∧ Step g H g H1 := by
  obtain ⟨t1, _, h | ⟨P, ps, ps', eP, nc, rfl⟩⟩ := ts
  · subst h; exact ⟨k, Step.refl _ _⟩
  have nPc : P ≠ c' := ne_of_none eP nc
  have up : ∀ b o, H b = some o → (∀ qs, o ≠ .tbl qs) → upd (upd H P (.tbl ps')) c' (CodeO c' q) b = some o := fun b o e n => by
    have b1 : b ≠ c' := ne_of_none e nc
    have b2 : b ≠ P := fun z => by rw [z, eP] at e; exact n ps (Option.some.inj e).symm
    rw [upd_ne b1, upd_ne b2]; exact e
  refine ⟨⟨fun b u hb => up _ _ (k.ex _ _ hb) fun qs z => k.nt b qs (by rw [hb, z]), k.len, k.nd, k.sep, fun n a nd h1 h2 => ?_, t1, k.nt⟩, ⟨⟨[], by simp⟩, Same.refl _, fun b o _ n h => up _ _ h n, fun b h => ?_, fun b h => .inl h, fun b o h => .inl h⟩⟩
  · have := k.node n a nd h1 h2
    cases nd with
    | lst xs => obtain ⟨vs, h1, h2⟩ := this; exact ⟨vs, up _ _ h1 (fun _ z => by cases z), h2⟩
    | tup xs => obtain ⟨vs, h1, h2⟩ := this; exact ⟨vs, h1.imp (fun z => up _ _ z (fun _ z => by cases z)) fun ⟨ob, z⟩ => ⟨ob, up _ _ z (fun _ z => by cases z)⟩, h2⟩
    | dic xs => obtain ⟨vs, h1, h2⟩ := this; exact ⟨vs, up _ _ h1 (fun _ z => by cases z), h2⟩
    | obj c xs => obtain ⟨A, dx, vf, h1, h2, h3⟩ := this; exact ⟨A, dx, vf, up _ _ h1 (fun _ z => by cases z), h2, h3⟩
    | dead => exact this
  · by_cases b1 : b = c'
    · subst b1; exact nc
    · rw [upd_ne b1] at h
      by_cases b2 : b = P
      · subst b2; rw [upd_same] at h; cases h
      · rw [upd_ne b2] at h; exact h
def saidR (r : Res Val) : Res Val := match r with
  | .ok v M' => lift1 fRepr v M'
  | .exn c M' => match wordOf c with
    | some w => .ok (.d (.str w)) M'
    | none => .stuck
  | .stuck => .stuck
def eSaid (m : Sm Val) : Sm Val := fun ρ M => saidR (m ρ M)
theorem ev_said {t : XK → TE} {m : Sm Val} {q : Str} (hb : ∀ E', EvE C E' (t E') m) : EvE C E (tSaid C.K C.mg C.T q t) (eSaid m) := fun H0 g M H σ ρ Q o r p => by
  refine ⟨o.tabs, fun c' H1 ts => ?_⟩
  obtain ⟨o1, s1⟩ := tab_ok o ts
  refine hb _ H0 g M H1 σ ρ _ o1 (r.step s1) ?_
  have p : Post C E g H (saidR (m ρ M)) (fun x g' _ H' => ∀ v, Rep C g' v x → Q v H') := p
  cases e : m ρ M with
  | stuck => rw [e] at p; exact p
  | exn c M' =>
    rw [e] at p
    simp only [saidR] at p
    cases ew : wordOf c with
    | none => rw [ew] at p; exact p.elim
    | some w =>
      rw [ew] at p
      intro g2 H2 A o2 s2 hA
      refine ⟨c, A, w, rfl, rfl, hA, ew, fun H3 e3 => ?_⟩
      obtain ⟨o3, s3⟩ := o2.ext e3
      exact p g2 H3 o3 ((s1.trans s2).trans s3) _ (.str w)
  | ok v M' =>
    rw [e] at p
    simp only [saidR, lift1] at p
    cases el : load M' v with
    | none => rw [el] at p; exact p.elim
    | some d =>
      rw [el] at p
      simp only [fRepr] at p
      by_cases hok : okR d = true
      · rw [if_pos hok] at p
        intro g2 H2 o2 s2 u ru
        exact ⟨u, d, rfl, (ru.x.load o2 el).rp o2.ex, hok, p g2 H2 o2 (s1.trans s2) _ (.str _)⟩
      · rw [if_neg hok] at p; exact p.elim

@[simp] theorem eSaid_eq (m : Sm Val) : eSaid m ρ M = saidR (m ρ M) := rfl
@[simp] theorem saidR_exn (c : Str) : saidR (.exn c M) = match wordOf c with
    | some w => .ok (.d (.str w)) M
    | none => .stuck := rfl
@[simp] theorem saidR_ok (v : Val) : saidR (.ok v M) = lift1 fRepr v M := rfl
end

/-! ### a def that makes lambdas -/
structure DefL (K : PySem.W.Frag) (mg : Str → Option Value) (x : Str) (st : Stmt) (ps : List Str) (c : Addr) : Prop where
  ex : ∃ (f : Addr) (fd : FuncData), mg x = some (.ref f) ∧ Fun K x x st f fd ∧ Binds K fd ps [] ∧ fd.code = .ref c
theorem DefL.k {K : PySem.W.Frag} {mg : Str → Option Value} {x : Str} {st : Stmt} {ps : List Str} {c : Addr} (d : DefL K mg x st ps c) : DefK K mg x st ps := let ⟨f, fd, a, b, e, _⟩ := d.ex; ⟨f, fd, a, b, e⟩
section
variable {P : Program} {w : World} {K : PySem.W.Frag} {mg : Str → Option Value} {base : Heap} {T : List (Addr × Str)} {x : Str} {st : Stmt} {ps N : List Str} {n k : Nat} {mf : List Val → Store → Res Val} {b : Sm Fl} {c : Addr}
theorem FZ.mkL (d : DefL K mg x st ps c) (S : FnScope N ps (defScope st)) (hn : ps.length = n) (hm : fnM n N.length b = mf)
    (body : ∀ (f : Addr) (A : Around) (out : List Env) (s : Shared) (H : Hp) (E : XK), A.guards = some [] → Room k (A.deeper (envOfC x (defScope st) s.heap.objs.size f (.ref c))) →
      ∃ t, PSs (cxOf (L2N.CX P w) P w K mg base N x (defScope st) f (.ref c) A out s H E) (defBody st) t ∧ EvS ⟨K, mg, T⟩ E t b) : FZ P w K mg base T (k + 1) x n mf := by
  obtain ⟨f, fd, h1, h2, h3, h4⟩ := d.ex
  subst hn hm
  refine ⟨f, fd, ps, h1, h2.kp, h3, fnZC h2 S fun cd A out s H E hcd hg hr => ?_⟩
  rw [h4] at hcd
  subst hcd
  exact body f A out s H E hg hr
end
end Z

/-! Z, part 22: unary minus, small displays of dicts; the law's tables. -/
namespace Z
open PySem PySem.Spec PyProof.Rows L2 LamX

section
variable {C : Ctx} {E : XK} {g g' : G} {H H' H0 H1 : Hp} {M M' : Store} {σ : L2.St} {ρ : Rho} {te tk tv : TE} {m mk mv : Sm Val}
def fNeg : PyData → Option PyData
  | .int i => some (.int (-i))
  | _ => none
@[simp] theorem fNeg_int (i : Int) : fNeg (.int i) = some (.int (-i)) := rfl
def keyOf : PyData → Option Key
  | .int i => some (.inl i)
  | .str x => some (.inr x)
  | _ => none
theorem key_rp {K : PySem.W.Frag} {S : Hp} {v : V} {d : PyData} {k : Key} (r : Rp K S v d) (e : keyOf d = some k) : v = kV k := by
  cases d with
  | int i => cases e; exact rint r
  | str x => cases e; exact rstr r
  | _ => cases e
def dNil : Sm (List (Key × Val)) := fun _ M => .ok [] M
theorem ed_nil : EvD C E tDNewK dNil := fun H0 g M H σ ρ Q o r p => fun q hq => by
  have nw := o.newO (o := .dK []) hq
  exact p g _ nw.1 nw.2 q [] upd_same .nil (o.free hq).1 (o.free hq).2 hq
def dOne (mk mv : Sm Val) : Sm (List (Key × Val)) := fun ρ M => (mk ρ M).bind fun x M1 => (mv ρ M1).bind fun y M2 => match x with
  | .d d => match keyOf d with
    | some k => .ok [(k, y)] M2
    | none => .stuck
  | _ => .stuck
def eFrzD (m : Sm (List (Key × Val))) : Sm Val := fun ρ M => (m ρ M).bind frzD
@[simp] theorem eFrzD_eq (m : Sm (List (Key × Val))) : eFrzD m ρ M = (m ρ M).bind frzD := rfl
@[simp] theorem dNil_eq : dNil ρ M = .ok [] M := rfl
@[simp] theorem dOne_eq (a b : Sm Val) : dOne a b ρ M = (a ρ M).bind fun x M1 => (b ρ M1).bind fun y M2 => match x with
  | .d d => match keyOf d with
    | some k => .ok [(k, y)] M2
    | none => .stuck
  | _ => .stuck := rfl
@[simp] theorem frzD_eq (xs : List (Key × Val)) : frzD xs M = match pureKv xs with
  | some ds => .ok (.d (.dict ds)) M
  | none => .stuck := rfl
@[simp] theorem pureKv_nil : pureKv [] = some [] := rfl
@[simp] theorem pureKv_cons (k : Key) (x : PyData) (r : List (Key × Val)) : pureKv ((k, .d x) :: r) = (pureKv r).map ((keyD k, x) :: ·) := rfl
@[simp] theorem keyOf_int (i : Int) : keyOf (.int i) = some (.inl i) := rfl
@[simp] theorem keyOf_str (x : Str) : keyOf (.str x) = some (.inr x) := rfl
end
end Z
namespace Z
open PySem PySem.Spec PyProof.Rows L2 LamX
theorem ob_eq {b : Option Bool} {c : Bool} (h : (b == some c) = true) : b = some c := by
  cases b with
  | none => exact absurd h (by simp)
  | some d => simpa using h
def errB (K : PySem.W.Frag) (As : List Addr) (B : Addr) : Bool :=
  (As.zipIdx.all fun p => PySem.W.kitOne K (.ref p.1) (.type "ValueError") == some true && PySem.W.keepIn K (.ref p.1) && PySem.W.exmOne K (.ref p.1) (.ref B) == some true &&
    As.zipIdx.all fun q => PySem.W.kitOne K (.ref p.1) (.ref q.1) == some (decide (q.2 = p.2)))
theorem errK_of {K : PySem.W.Frag} {mg : Str → Option Value} {As : List Addr} {B : Addr} (hB : mg "MillError" = some (.ref B)) (hA : ∀ (i : Nat) (c : Str) , refs[i]? = some c → ∃ A, As[i]? = some A ∧ mg c = some (.ref A) ∧ ExcC K A) (h : errB K As B = true) : ErrK K mg := by
  simp only [errB, List.all_eq_true, Bool.and_eq_true] at h
  have mem : ∀ {i : Nat} {A : Addr}, As[i]? = some A → (A, i) ∈ As.zipIdx := fun {i A} e => by
    obtain ⟨hl, rfl⟩ := List.getElem?_eq_some_iff.mp e
    exact List.mem_zipIdx_iff_getElem?.mpr (by simpa using e)
  constructor
  · intro i c hc
    obtain ⟨A, e, m, x⟩ := hA i c hc
    obtain ⟨⟨⟨h1, h2⟩, h3⟩, h4⟩ := h _ (mem e)
    refine ⟨A, m, x, ob_eq h1, fun j c' hc' => ?_⟩
    obtain ⟨A', e', m', _⟩ := hA j c' hc'
    obtain ⟨⟨⟨_, k2⟩, _⟩, _⟩ := h _ (mem e')
    exact ⟨A', m', k2, ob_eq (h4 _ (mem e'))⟩
  · refine ⟨B, hB, fun i c hc => ?_⟩
    obtain ⟨A, e, m, _⟩ := hA i c hc
    obtain ⟨⟨⟨_, _⟩, h3⟩, _⟩ := h _ (mem e)
    exact ⟨A, m, ob_eq h3⟩
theorem excC_of {K : PySem.W.Frag} {D : Addr} (hg : PySem.W.findIn K (.ref D) "__getattribute__" = some (some (.builtin "BaseException.__getattribute__"))) (hk : PySem.W.findIn K (.ref D) "__getattr__" = some none) (hs : PySem.W.subIn K (.ref D) (.type "BaseException") = some true)
    (hd : PySem.W.hasDictIn K D = true) (ha : PySem.W.findIn K (.ref D) "__class__" = some (some (.builtin "object.__class__"))) (hn : PySem.W.specialIn K (.builtin "object.__class__") "__get__" = some (some (.builtin "getset_descriptor.__get__"))) (ht : PySem.W.takesIn K (.builtin "object.__class__") = some true)
    (hm : PySem.W.mroIn K D (.type "object") = some true) : ExcC K D := ⟨hg, hk, hs, hd, ha, hn, ht, hm⟩
theorem all15 {P : Nat → Str → Prop} (h0 : P 0 "NoRule") (h1 : P 1 "NoSack") (h2 : P 2 "NoRights") (h3 : P 3 "NoSpeeds") (h4 : P 4 "NoWater") (h5 : P 5 "NoMoment") (h6 : P 6 "NoBook") (h7 : P 7 "NoNumber") (h8 : P 8 "NoWeights") (h9 : P 9 "NoHouses") (h10 : P 10 "NoDeed") (h11 : P 11 "NoText")
    (h12 : P 12 "NoWord") (h13 : P 13 "TooMuch") (h14 : P 14 "TooMany") : ∀ (i : Nat) (c : Str), refs[i]? = some c → P i c := fun i c h => by
  match i, h with
  | 0, h => cases h; exact h0
  | 1, h => cases h; exact h1
  | 2, h => cases h; exact h2
  | 3, h => cases h; exact h3
  | 4, h => cases h; exact h4
  | 5, h => cases h; exact h5
  | 6, h => cases h; exact h6
  | 7, h => cases h; exact h7
  | 8, h => cases h; exact h8
  | 9, h => cases h; exact h9
  | 10, h => cases h; exact h10
  | 11, h => cases h; exact h11
  | 12, h => cases h; exact h12
  | 13, h => cases h; exact h13
  | 14, h => cases h; exact h14
  | n + 15, h => exact absurd (List.getElem?_eq_some_iff.mp h).1 (by show ¬ n + 15 < 15; omega)
theorem codeHd_mk {K : PySem.W.Frag} {h : Heap} {c P : Addr} {od : Option Addr} {vs : Array Value} {sl : Array (Option Value)} {f : Str} {tf tg tt : Tok} {fl n : Int} {b : Bool} (X : K.In h) (hk : K.lookup c = some ⟨.type "code", od, .fields vs, sl⟩) (h11 : vs[11]? = some (.ref P)) (h18 : vs.getD 18 .none = .str f tf)
    (h7 : vs.getD 7 .none = .int fl tg) (h9 : vs.getD 9 .none = .bool b) (h10 : vs.getD 10 .none = .int n tt) (hne : c ≠ P) : PySem.W.CodeHd h c P :=
  ⟨_, vs, f, tf, fl, tg, b, n, tt, X _ _ hk, rfl, rfl, h11, by rw [Array.getD_eq_getD_getElem?, h11]; rfl, h18, h7, h9, h10, hne⟩
theorem defL {K : PySem.W.Frag} {mg : Str → Option Value} {h : Heap} {x : Str} {st : Stmt} {ps : List Str} {f c : Addr} {oc : Value} {od an : Option Addr} {osl : Array (Option Value)} {kV doc pm ct : Value} (kx : K.In h) (g : h.Ns mainGlobals mg) (a : PySem.W.nsIn K mainGlobals x = some (some (.ref f)))
    (l : K.lookup f = some ⟨oc, od, .func (PySem.W.fnOf x x (defArgs st) (defBody st) (defScope st) .none kV doc pm an (.ref c) ct), osl⟩) (cc : PySem.W.codeIn K (.ref c) x = true) (k : PySem.W.keepIn K (.ref f) = true)
    (b : ∀ (kV doc pm : Value) (an : Option Addr) (cdv ct : Value) (us : List Value), us.length = ps.length → bindArgs (PySem.W.fnOf x x (defArgs st) (defBody st) (defScope st) .none kV doc pm an cdv ct) ⟨us, []⟩ = pure (ps.zip us)) : DefL K mg x st ps c :=
  ⟨f, _, PySem.W.mg_of kx g a, fun_mk l cc k, (fun_mk l cc k).binds b, rfl⟩
theorem saidK {K : PySem.W.Frag} {mg : Str → Option Value} {st : Stmt} (d : DefK K mg "_law_said" st ["_law_call"]) (sc : FnScope ["_law_call", "_law_e"] ["_law_call"] (defScope st)) (vc : (defScope st).names.lookup ("_law_call" : Str) = some .local) (ve : (defScope st).names.lookup ("_law_e" : Str) = some .local)
    (gr : (defScope st).names.lookup ("repr" : Str) = some .globalImplicit) (gm : (defScope st).names.lookup ("MillError" : Str) = some .globalImplicit) (gw : (defScope st).names.lookup ("_law_word" : Str) = some .globalImplicit)
    (hb : ∃ p1 p2 p3 p4 p5 p6 p7 p8 p9 p10 p11 p12 : Pos, defBody st = [.Try [.Return (some (.Call (.Name "repr" p1) [.Call (.Name "_law_call" p2) [] [] p3] [] p4)) p5]
      [.ExceptHandler (some (.Name "MillError" p6)) (some "_law_e") [.Return (some (.Call (.Name "_law_word" p7) [.Name "_law_e" p8] [] p9)) p10] p11] [] [] p12]) : SaidK K mg := by
  obtain ⟨f, fd, h1, h2, h3⟩ := d.ex
  exact ⟨f, fd, st, h1, h2, h3, sc, .inl vc, .inl ve, ve, gr, gm, gw, hb⟩
end Z

/-! Z, part 23: products with lists and tuples; t[::-1]. -/
namespace Z
open PySem PySem.Spec PyProof.Rows L2

section
variable {prog : Program} {w : World} {A : Around} {E : Value → Shared → Prop} {s : Shared}
end
section
variable {C : Ctx} {E : XK} {g g' : G} {H H' H0 H1 : Hp} {M M' : Store} {σ : L2.St} {ρ : Rho} {te ta tb : TE} {m ma mb : Sm Val} {X : Cx}
def fBack : PyData → Option PyData
  | .tuple ds => some (.tuple ds.reverse)
  | _ => none
def eBack (m : Sm Val) : Sm Val := fun ρ M => (m ρ M).bind (lift1 fBack)
@[simp] theorem eBack_eq (m : Sm Val) : eBack m ρ M = (m ρ M).bind (lift1 fBack) := rfl
@[simp] theorem fBack_t (ds : List PyData) : fBack (.tuple ds) = some (.tuple ds.reverse) := rfl
end
end Z

/-! Z, part 24: methods of lists by reference; sorted(set(..)); defs that call themselves. -/
namespace Z
open PySem PySem.Spec PyProof.Rows L2

section
variable {C : Ctx} {E : XK} {g g' : G} {H H' H0 H1 : Hp} {M M' : Store} {σ : L2.St} {ρ : Rho} {te ta tb : TE} {m ma mb : Sm Val} {tA : TA} {mA : Sm (List Val)} {X : Cx}
def lstAt (M : Store) (y : Val) : Option (Nat × List Val) := match y with
  | .ref n => match M[n]? with
    | some (.lst xs) => some (n, xs)
    | _ => none
  | _ => none
@[simp] theorem lstAt_ref (n : Nat) : lstAt M (.ref n) = match M[n]? with
    | some (.lst xs) => some (n, xs)
    | _ => none := rfl
theorem lst_inv {y : Val} {n : Nat} {xs : List Val} (o : Ok C g M H) (h : lstAt M y = some (n, xs)) : y = .ref n ∧ ∃ a vs, g.phi[n]? = some a ∧ H a = some (.lst vs) ∧ Reps C g vs xs ∧ M[n]? = some (.lst xs) := by
  cases y with
  | d x => cases h
  | scr x => cases h
  | ref k =>
    simp only [lstAt_ref] at h
    split at h
    · rename_i ys hk
      cases h
      have hl := (List.getElem?_eq_some_iff.mp hk).1
      have hl2 : n < g.phi.length := by rw [o.len]; exact hl
      obtain ⟨vs, h1, h2⟩ := o.node n g.phi[n] _ (List.getElem?_eq_getElem hl2) hk
      exact ⟨rfl, g.phi[n], vs, List.getElem?_eq_getElem hl2, h1, h2, hk⟩
    · cases h
abbrev LmF := List Val → List Val → Option (Val × List Val)
def eLm (mo : Sm Val) (mA : Sm (List Val)) (f : LmF) : Sm Val := fun ρ M => (mo ρ M).bind fun y M1 => match lstAt M1 y with
  | some _ => (mA ρ M1).bind fun as M2 => match lstAt M2 y with
    | some (n, xs) => match f xs as with
      | some (r, ys) => .ok r (M2.set n (.lst ys))
      | none => .stuck
    | none => .stuck
  | none => .stuck
@[simp] theorem eLm_eq (mo : Sm Val) (mA : Sm (List Val)) (f : LmF) : eLm mo mA f ρ M = (mo ρ M).bind fun y M1 => match lstAt M1 y with
  | some _ => (mA ρ M1).bind fun as M2 => match lstAt M2 y with
    | some (n, xs) => match f xs as with
      | some (r, ys) => .ok r (M2.set n (.lst ys))
      | none => .stuck
    | none => .stuck
  | none => .stuck := rfl
def LmR (C : Ctx) (r : V → List V → Hp → VK → Prop) (f : LmF) : Prop := ∀ (g : G) (M : Store) (H : Hp) (a : Addr) (n : Nat) (vs : List V) (xs : List Val) (us : List V) (as : List Val) (rv : Val) (ys : List Val) (Q : VK), Ok C g M H → g.phi[n]? = some a → H a = some (.lst vs) →
  Reps C g vs xs → Reps C g us as → f xs as = some (rv, ys) → (∀ v vs', Rep C g v rv → Reps C g vs' ys → Q v (upd H a (.lst vs'))) → r (.ref a) us H Q
theorem ev_lm {r : V → List V → Hp → VK → Prop} {f : LmF} (R : LmR C r f) (ho : EvE C E ta ma) (ha : EvA C E tA mA) : EvE C E (tBM C.K "list" r ta tA) (eLm ma mA f) := fun H0 g M H σ ρ Q o rs p =>
  ho H0 g M H σ ρ _ o rs (p.bind.imp fun y g1 M1 H1 o1 s1 k1 v rv => by
    cases e1 : lstAt M1 y with
    | none => simp only [e1] at k1; exact k1.elim
    | some q1 =>
      obtain ⟨n, xs⟩ := q1
      simp only [e1] at k1
      obtain ⟨rfl, a, vs, ea, h1, h2, hm⟩ := lst_inv o1 e1
      obtain ⟨a', ea', rfl⟩ := rv
      have : a' = a := Option.some.inj (ea'.symm.trans ea)
      subst this
      refine ⟨.inl ⟨rfl, _, SqL.of h1⟩, ha H0 g1 M1 H1 σ ρ _ o1 (rs.step s1) (k1.bind.imp fun as g2 M2 H2 o2 s2 k2 us ru => ?_)⟩
      cases e2 : lstAt M2 (.ref n) with
      | none => simp only [e2] at k2; exact k2.elim
      | some q2 =>
        obtain ⟨n', xs'⟩ := q2
        simp only [e2] at k2
        obtain ⟨en, b, vs', eb, g1', g2', gm⟩ := lst_inv o2 e2
        cases en
        have : b = a' := Option.some.inj (eb.symm.trans (s2.get ea))
        subst this
        cases ef : f xs' as with
        | none => simp only [ef] at k2; exact k2.elim
        | some q =>
          obtain ⟨rv, ys⟩ := q
          simp only [ef] at k2
          refine R g2 M2 H2 b n vs' xs' us as rv ys Q o2 eb g1' g2' ru ef fun v ws rvv rws => ?_
          have w := o2.setM (o := .lst ws) (nd := .lst ys) eb (.inl ⟨_, g1'⟩) ⟨ws, upd_same, rws⟩
          exact k2.at w v rvv)
def lmPopAt : LmF := fun xs as => match as with
  | [.d (.int i)] => if -9223372036854775808 ≤ i ∧ i < 9223372036854775808 then match seqIndex? i xs.length with
    | some k => match xs[k]? with
      | some y => some (y, xs.eraseIdx k)
      | none => none
    | none => none else none
  | _ => none
theorem Reps.erase {vs : List V} {xs : List Val} (h : Reps C g vs xs) : ∀ k : Nat, Reps C g (vs.eraseIdx k) (xs.eraseIdx k) := by
  induction h with
  | nil => intro k; simp; exact .nil
  | cons h1 h2 ih =>
    intro k
    cases k with
    | zero => simpa using h2
    | succ k => exact .cons h1 (ih k)
theorem lr_popAt : LmR C rPopAt lmPopAt := fun g M H a n vs xs us as rv ys Q o e h r ru ef k => by
  unfold lmPopAt at ef
  split at ef
  · rename_i i
    split at ef
    · rename_i hz
      split at ef
      · rename_i j hj
        split at ef
        · rename_i y hy
          cases ef
          cases ru with
          | cons r1 r2 =>
            cases r2
            have := rint r1
            subst this
            obtain ⟨v, hv, rv⟩ := reps_getX r hy
            exact ⟨a, vs, i, j, v, rfl, rfl, h, by omega, by omega, by rw [Paired.length r]; exact hj, hv, k _ _ rv (r.erase j)⟩
        · cases ef
      · cases ef
    · cases ef
  · cases ef
theorem Reps.take {vs : List V} {xs : List Val} (h : Reps C g vs xs) : ∀ k : Nat, Reps C g (vs.take k) (xs.take k) := by
  induction h with
  | nil => intro k; simp; exact .nil
  | cons h1 h2 ih =>
    intro k
    cases k with
    | zero => simp; exact .nil
    | succ k => exact .cons h1 (ih k)
theorem Reps.drop {vs : List V} {xs : List Val} (h : Reps C g vs xs) : ∀ k : Nat, Reps C g (vs.drop k) (xs.drop k) := by
  induction h with
  | nil => intro k; simp; exact .nil
  | cons h1 h2 ih =>
    intro k
    cases k with
    | zero => exact .cons h1 h2
    | succ k => exact ih k
theorem Reps.append {vs us : List V} {xs ys : List Val} (h : Reps C g vs xs) (k : Reps C g us ys) : Reps C g (vs ++ us) (xs ++ ys) := by
  induction h with
  | nil => exact k
  | cons h1 h2 ih => exact .cons h1 ih
/-! count, index of lists of data -/
def eLq (f : List PyData → PyData → Option PyData) (mo mv : Sm Val) : Sm Val := fun ρ M => (mo ρ M).bind fun y M1 => match load M1 y with
  | some (.list _) => (mv ρ M1).bind fun z M2 => match load M2 y, load M2 z with
    | some (.list ds), some d => match f ds d with
      | some r => .ok (.d r) M2
      | none => .stuck
    | _, _ => .stuck
  | _ => .stuck
@[simp] theorem eLq_eq (f : List PyData → PyData → Option PyData) (mo mv : Sm Val) : eLq f mo mv ρ M = (mo ρ M).bind fun y M1 => match load M1 y with
  | some (.list _) => (mv ρ M1).bind fun z M2 => match load M2 y, load M2 z with
    | some (.list ds), some d => match f ds d with
      | some r => .ok (.d r) M2
      | none => .stuck
    | _, _ => .stuck
  | _ => .stuck := rfl
/-! ### sorted(set(t)), t a tuple of whole numbers -/
def insS (x : Int) : List Int → List Int
  | [] => [x]
  | y :: r => if x < y then x :: y :: r else if x = y then y :: r else y :: insS x r
def sortS (ns : List Int) : List Int := ns.foldr insS []
def lSortSet (m : Sm Val) : Sm (List Val) := fun ρ M => (m ρ M).bind fun x M1 => match x with
  | .d (.tuple ds) => match intsD ds with
    | some ns => if ns.length < 60 then .ok ((sortS ns).map fun i => .d (.int i)) M1 else .stuck
    | none => .stuck
  | _ => .stuck
@[simp] theorem lSortSet_eq (m : Sm Val) : lSortSet m ρ M = (m ρ M).bind fun x M1 => match x with
  | .d (.tuple ds) => match intsD ds with
    | some ns => if ns.length < 60 then .ok ((sortS ns).map fun i => .d (.int i)) M1 else .stuck
    | none => .stuck
  | _ => .stuck := rfl
end
/-! ### a def that calls itself -/
section
variable {P : Program} {w : World} {K : PySem.W.Frag} {mg : Str → Option Value} {base : Heap} {T : List (Addr × Str)} {x : Str} {st : Stmt} {ps : List Str} {n k : Nat}
theorem FZ.zero (d : DefK K mg x st ps) (hn : ps.length = n) : FZ P w K mg base T k x n (fun _ _ => .stuck) := by
  subst hn
  refine FZ.mk' d fun f fd F => ⟨fun vs H Q E h => h.1, fun A out s H args us vs Q E hg hr e0 hb rv h => ?_⟩
  obtain ⟨_, g, M, xs, o, r, p⟩ := h
  exact p.elim
theorem FZ.up {mf : List Val → Store → Res Val} {j : Nat} (F : FZ P w K mg base T j x n mf) (h : j ≤ k) : FZ P w K mg base T k x n mf := by
  obtain ⟨f, fd, ps, h1, h2, h3, h4⟩ := F.ex
  exact ⟨f, fd, ps, h1, h2, h3, h4.up h⟩
end
end Z

/-! Z, part 25: a list read backwards; a tuple taken once. -/
namespace Z
open PySem PySem.Spec PyProof.Rows L2
section
variable {X : Cx}
end
section
variable {C : Ctx} {E : XK} {g g' : G} {H H' H0 H1 : Hp} {M M' : Store} {σ : L2.St} {ρ : Rho} {te ta tb : TE} {m ma mb : Sm Val} {X : Cx}
def fBackL : PyData → Option PyData
  | .list ds => some (.list ds.reverse)
  | _ => none
def eBackL (m : Sm Val) : Sm Val := fun ρ M => (m ρ M).bind (lift1 fBackL)
@[simp] theorem eBackL_eq (m : Sm Val) : eBackL m ρ M = (m ρ M).bind (lift1 fBackL) := rfl
@[simp] theorem fBackL_l (ds : List PyData) : fBackL (.list ds) = some (.list ds.reverse) := rfl
end
end Z

/-! Z, part 26: lists of unlike lengths. -/
namespace Z
open PySem PySem.Spec PyProof.Rows L2
def rNeE (K : PySem.W.Frag) : R2 := fun x y H Q => ∃ a b xs ys, x = .ref a ∧ y = .ref b ∧ SqL K H a xs ∧ SqL K H b ys ∧ xs.length ≠ ys.length ∧ Q (.bl true) H
section
variable {X : Cx}
theorem oz_neE (hu : Hu X) : OpR X (compareOp .NotEq) (rNeE X.K) := fun pins s σ H x y v u Q I rx ry ⟨a, b, xs, ys, e1, e2, h1, h2, hl, q⟩ => by
  subst e1 e2
  cases rx; cases ry
  obtain ⟨its, r, ht, hz⟩ := I.list h1
  obtain ⟨jts, r2, ht2, hz2⟩ := I.list h2
  have l1 := r.length
  have l2 := r2.length
  exact PySem.SeqAt.RcNeAt.lists_lengths ht.isList ht2.isList (by simp; omega) (by unfold Hu at hu; omega) X.prog X.w _ _ ⟨.bl _, H, I, rfl, q⟩
def rNeL (K : PySem.W.Frag) : R2 := fun x y H Q => rF2 K fNe x y H Q ∨ rNeE K x y H Q
theorem oz_neL (hu : Hu X) : OpR X (compareOp .NotEq) (rNeL X.K) := (oz_ne hu).or (oz_neE hu)
end
section
variable {C : Ctx} {E : XK} {g g' : G} {H H' H0 H1 : Hp} {M M' : Store} {σ : L2.St} {ρ : Rho} {te ta tb : TE} {m ma mb : Sm Val} {X : Cx}
def fNeL (x y : PyData) : Option PyData := match x, y with
  | .list ds, .list es => if ds.length ≠ es.length then some (.bool true) else fNe x y
  | _, _ => fNe x y
theorem op2_neL : Op2 C E (rNeL C.K) fNeL := fun g M H v u x y z Q o rx ry e p => by
  unfold fNeL at e
  split at e
  · rename_i ds es
    split at e
    · rename_i hc
      cases e
      obtain ⟨a, vs, rfl, ha, h1⟩ := RpC.list o.ex rx
      obtain ⟨b, us, rfl, hb, h2⟩ := RpC.list o.ex ry
      exact .inr ⟨a, b, vs, us, rfl, rfl, SqL.of ha, SqL.of hb, by rw [h1.length, h2.length]; exact hc, p.here o _ (.bl _)⟩
    · exact .inl (op2_flat fl_ne g M H v u _ _ z Q o rx ry e p)
  · exact .inl (op2_flat fl_ne g M H v u x y z Q o rx ry e p)
end
end Z

/-! Z, part 27: a dict beside a tuple. -/
namespace Z
open PySem PySem.Spec PyProof.Rows L2
section
variable {X : Cx}
end
section
variable {C : Ctx} {E : XK} {g g' : G} {H H' H0 H1 : Hp} {M M' : Store} {σ : L2.St} {ρ : Rho} {te ta tb : TE} {m ma mb : Sm Val} {X : Cx}
end
end Z

/-! Z, part 28: dicts of one's own: get, d[k], d[k] = v, sorted(d). -/
namespace Z
open PySem PySem.Spec PyProof.Rows L2
variable {C : Ctx} {E : XK} {H0 : Hp} {g0 g g' : G} {M M' : Store} {H H' : Hp} {σ : L2.St} {ρ : Rho} {i : Nat}
def valP (kvs : List (Key × PyData)) (k : Key) : Option PyData := (kvs.find? fun kv => decide (kv.1 = k)).map (·.2)
def putP (kvs : List (Key × PyData)) (k : Key) (d : PyData) : List (Key × PyData) :=
  if (kvs.any fun kv => decide (kv.1 = k)) = true then kvs.map (fun kv => if kv.1 = k then (kv.1, d) else kv) else kvs ++ [(k, d)]
theorem valP_pos {p : Key × PyData} {r : List (Key × PyData)} {k : Key} (e : p.1 = k) : valP (p :: r) k = some p.2 := by simp [valP, List.find?_cons, e]
theorem valP_neg {p : Key × PyData} {r : List (Key × PyData)} {k : Key} (e : ¬ p.1 = k) : valP (p :: r) k = valP r k := by simp [valP, List.find?_cons, e]
theorem KvD.val {S : Hp} (k : Key) : ∀ {vs : List (Key × V)} {xs : List (Key × PyData)}, KvD C S vs xs → (valV vs k = none ∧ valP xs k = none) ∨ ∃ v d, valV vs k = some v ∧ valP xs k = some d ∧ Rp C.K S v d
  | _, _, .nil => .inl ⟨rfl, rfl⟩
  | (k1, v) :: vs, (k2, x) :: xs, .cons ⟨h1, h2⟩ t => by
    simp only at h1
    subst h1
    by_cases e : k1 = k
    · exact .inr ⟨v, x, valV_pos e, valP_pos e, h2⟩
    · rw [valV_neg e, valP_neg e]; exact KvD.val k t
theorem KvD.any {S : Hp} (k : Key) : ∀ {vs : List (Key × V)} {xs : List (Key × PyData)}, KvD C S vs xs → (vs.any fun kv => decide (kv.1 = k)) = xs.any fun kv => decide (kv.1 = k)
  | _, _, .nil => rfl
  | (k1, v) :: vs, (k2, x) :: xs, .cons ⟨h1, h2⟩ t => by
    simp only at h1
    subst h1
    simp only [List.any_cons, KvD.any k t]
theorem KvD.len {S : Hp} {vs : List (Key × V)} {xs : List (Key × PyData)} (h : KvD C S vs xs) : vs.length = xs.length := Paired.length h
theorem KvD.keys {S : Hp} : ∀ {vs : List (Key × V)} {xs : List (Key × PyData)}, KvD C S vs xs → vs.map (·.1) = xs.map (·.1)
  | _, _, .nil => rfl
  | (k1, v) :: vs, (k2, x) :: xs, .cons ⟨h1, h2⟩ t => by
    simp only at h1
    subst h1
    simp only [List.map_cons, KvD.keys t]
theorem KvD.snoc {S : Hp} {k : Key} {v : V} {d : PyData} (rv : Rp C.K S v d) : ∀ {vs : List (Key × V)} {xs : List (Key × PyData)}, KvD C S vs xs → KvD C S (vs ++ [(k, v)]) (xs ++ [(k, d)])
  | _, _, .nil => .cons ⟨rfl, rv⟩ .nil
  | _ :: _, _ :: _, .cons h t => .cons h (KvD.snoc rv t)
theorem KvD.repl {S : Hp} {k : Key} {v : V} {d : PyData} (rv : Rp C.K S v d) : ∀ {vs : List (Key × V)} {xs : List (Key × PyData)}, KvD C S vs xs → KvD C S (vs.map fun kv => if kv.1 = k then (kv.1, v) else kv) (xs.map fun kv => if kv.1 = k then (kv.1, d) else kv)
  | _, _, .nil => .nil
  | (k1, w) :: vs, (k2, x) :: xs, .cons ⟨h1, h2⟩ t => by
    simp only at h1
    subst h1
    simp only [List.map_cons]
    by_cases e : k1 = k
    · simp only [if_pos e]; exact .cons ⟨rfl, rv⟩ (KvD.repl rv t)
    · simp only [if_neg e]; exact .cons ⟨rfl, h2⟩ (KvD.repl rv t)
theorem KvD.put {S : Hp} {vs : List (Key × V)} {xs : List (Key × PyData)} (h : KvD C S vs xs) (k : Key) {v : V} {d : PyData} (rv : Rp C.K S v d) : KvD C S (putK vs k v) (putP xs k d) := by
  unfold putK putP
  rw [h.any k]
  split
  · exact KvD.repl rv h
  · exact KvD.snoc rv h
def wOd {α : Type} (ρ : Rho) (i : Nat) (f : List (Key × PyData) → Res α) : Res α := match ρ[i]? with
  | some (some (.od xs)) => f xs
  | _ => .stuck
theorem wOd_inv {α : Type} {f : List (Key × PyData) → Res α} {k : α → G → Store → Hp → Prop} (r : RSt C H0 g H σ ρ) (p : Post C E g H (wOd ρ i f) k) :
    ∃ xs a vs, ρ[i]? = some (some (.od xs)) ∧ σ[i]? = some (some (.ref a)) ∧ H a = some (.dK vs) ∧ KvD C g.S vs xs ∧ g.S a = none ∧ a ∉ g.phi ∧ H0 a = none ∧ Post C E g H (f xs) k := by
  unfold wOd at p
  split at p
  · rename_i xs hx
    obtain ⟨a, vs, h⟩ := r.od i xs hx
    exact ⟨xs, a, vs, hx, h.1, h.2.1, h.2.2.1, h.2.2.2.1, h.2.2.2.2.1, h.2.2.2.2.2, p⟩
  · exact p.elim
theorem wOd_invS {f : List (Key × PyData) → Res Fl} {D : Ends} (r : RSt C H0 g H σ ρ) (p : PostS C E H0 g0 g (wOd ρ i f) D) :
    ∃ xs a vs, ρ[i]? = some (some (.od xs)) ∧ σ[i]? = some (some (.ref a)) ∧ H a = some (.dK vs) ∧ KvD C g.S vs xs ∧ g.S a = none ∧ a ∉ g.phi ∧ H0 a = none ∧ PostS C E H0 g0 g (f xs) D := by
  unfold wOd at p
  split at p
  · rename_i xs hx
    obtain ⟨a, vs, h⟩ := r.od i xs hx
    exact ⟨xs, a, vs, hx, h.1, h.2.1, h.2.2.1, h.2.2.2.1, h.2.2.2.2.1, h.2.2.2.2.2, p⟩
  · exact p.elim
/-- d.get(k, x) of one's own dict -/
def dgetR (kvs : List (Key × PyData)) (k x : Val) (M : Store) : Res Val := match k, x with
  | .d k, .d x => match keyOf k with
    | some k => .ok (.d ((valP kvs k).getD x)) M
    | none => .stuck
  | _, _ => .stuck
def eDGet (i : Nat) (mk mx : Sm Val) : Sm Val := fun ρ M => wOd ρ i fun kvs => (mk ρ M).bind fun k M1 => (mx ρ M1).bind fun x M2 => dgetR kvs k x M2
theorem ev_dget {mk mx : Sm Val} {tk tx : TE} (hk : EvE C E tk mk) (hx : EvE C E tx mx) : EvE C E (tDGet2 (tVar i) tk tx) (eDGet i mk mx) := fun H0 g M H σ ρ Q o r p => by
  obtain ⟨xs, a, vs, hi, k1, k2, k3, k4, k5, k6, p⟩ := wOd_inv r p
  refine ⟨_, k1, a, rfl, .inl ⟨vs, .inl k2⟩, hk H0 g M H σ ρ _ o r (p.bind.imp fun k g' M' H' o' st q v rv => hx H0 g' M' H' σ ρ _ o' (r.step st) (q.bind.imp fun x g2 M2 H2 o2 st2 q2 u ru => ?_))⟩
  unfold dgetR at q2
  split at q2
  · rename_i k x
    split at q2
    · rename_i kk hkk
      have ss := st.trans st2
      obtain ⟨q3, q4, q5⟩ := own_keep ss k2 (fun _ z => by cases z) k4 k5
      have rd := KvD.mono ss.ex k3
      have rk : Rp C.K g'.S v k := rv
      have ek := key_rp rk hkk
      subst ek
      refine ⟨_, DGet.k q3, q2.here o2 _ ?_⟩
      show Rp C.K g2.S _ _
      rcases rd.val kk with ⟨e1, e2⟩ | ⟨v', d', e1, e2, e3⟩
      · rw [e1, e2]; exact ru
      · rw [e1, e2]; exact e3
    · exact q2.elim
  · exact q2.elim
/-- d[k] of one's own dict, there -/
def dixR (kvs : List (Key × PyData)) (k : Val) (M : Store) : Res Val := match k with
  | .d k => match keyOf k with
    | some k => match valP kvs k with
      | some x => .ok (.d x) M
      | none => .stuck
    | none => .stuck
  | _ => .stuck
def eDIx (i : Nat) (mk : Sm Val) : Sm Val := fun ρ M => wOd ρ i fun kvs => (mk ρ M).bind fun k M1 => dixR kvs k M1
theorem ev_dix {mk : Sm Val} {tk : TE} (hk : EvE C E tk mk) : EvE C E (tDGet (tVar i) tk) (eDIx i mk) := fun H0 g M H σ ρ Q o r p => by
  obtain ⟨xs, a, vs, hi, k1, k2, k3, k4, k5, k6, p⟩ := wOd_inv r p
  refine ⟨_, k1, hk H0 g M H σ ρ _ o r (p.bind.imp fun k g' M' H' o' st q v rv => ?_)⟩
  unfold dixR at q
  split at q
  · rename_i k
    split at q
    · rename_i kk hkk
      split at q
      · rename_i x hxx
        obtain ⟨q3, q4, q5⟩ := own_keep st k2 (fun _ z => by cases z) k4 k5
        have rd := KvD.mono st.ex k3
        have rk : Rp C.K g'.S v k := rv
        have ek := key_rp rk hkk
        subst ek
        rcases rd.val kk with ⟨e1, e2⟩ | ⟨v', d', e1, e2, e3⟩
        · rw [hxx] at e2; cases e2
        · rw [hxx] at e2; cases e2
          exact ⟨a, v', rfl, e1 ▸ DGet.k q3, q.here o' _ e3⟩
      · exact q.elim
    · exact q.elim
  · exact q.elim
/-- how a statement on one's own dict ends -/
theorem od_fin (o : Ok C g' M' H') (s : Step g0 H0 g' H') (l : Gle g g') (r : RSt C H0 g' H' σ ρ) {xs ys : List (Key × PyData)} {a : Addr} {vs us : List (Key × V)} {D : Ends} (hx : ρ[i]? = some (some (.od xs))) (ha : σ[i]? = some (some (V.ref a))) (h1 : H' a = some (.dK vs)) (h2 : g'.S a = none) (h3 : a ∉ g'.phi) (h4 : H0 a = none)
    (ru : KvD C g'.S us ys) (k : PostS C E H0 g0 g (.ok (.nx (ρ.set i (some (.od ys)))) M') D) : D.nx σ (upd H' a (.dK us)) :=
  k g' _ σ (o.setO h2 h3 (.inr (.inl ⟨_, h1⟩))) (s.setO h4 (by rw [h1]; exact fun z => by cases z)) l (r.wr (i := i) (sl := .od ys) (by rw [hx]; trivial) ha h4 h2 h3 ⟨_, rfl, ru⟩)
/-- d[k] = v of one's own dict -/
def dsetR (ρ : Rho) (i : Nat) (kvs : List (Key × PyData)) (k x : Val) (M : Store) : Res Fl := match k, x with
  | .d k, .d x => match keyOf k with
    | some k => if kvs.length < 100000 then .ok (.nx (ρ.set i (some (.od (putP kvs k x))))) M else .stuck
    | none => .stuck
  | _, _ => .stuck
def sDSet (i : Nat) (m mk : Sm Val) : Sm Fl := fun ρ M => wOd ρ i fun kvs => (m ρ M).bind fun x M1 => (mk ρ M1).bind fun k M2 => dsetR ρ i kvs k x M2
theorem es_dset {m mk : Sm Val} {te tb : TE} (h : EvE C E te m) (hk : EvE C E tb mk) : EvS C E (tAsg te (gSub (tVar i) tb rSetD)) (sDSet i m mk) := fun H0 g0 g M H σ ρ D o s r p => by
  obtain ⟨xs, a, vs, hx, k1, k2, k3, k4, k5, k6, p⟩ := wOd_invS r p
  refine h H0 g M H σ ρ _ o r ((PostS.bind s p).imp fun y g' M' H' o' st k v rv => ?_)
  refine ⟨_, k1, hk H0 g' M' H' σ ρ _ o' (r.step st) ((PostS.bind (s.trans st) k).imp fun j g2 M2 H2 o2 st2 q2 u ru => ?_)⟩
  unfold dsetR at q2
  split at q2
  · rename_i kd x
    split at q2
    · rename_i kk hkk
      split at q2
      · rename_i hl
        have ss := st.trans st2
        obtain ⟨q3, q4, q5⟩ := own_keep ss k2 (fun _ z => by cases z) k4 k5
        have rd := KvD.mono ss.ex k3
        have rk : Rp C.K g2.S u kd := ru
        have ek := key_rp rk hkk
        subst ek
        have rl := rd.len
        exact ⟨a, _, rfl, DPut.k q3 (by rw [rl, sizeLine_eq]; omega), od_fin o2 (s.trans ss) (Gle.refl _) (r.step ss) hx k1 q3 q4 q5 k6 (rd.put kk (rv.step st2)) q2⟩
      · exact q2.elim
    · exact q2.elim
  · exact q2.elim
/-! sorted(d), d's keys all ints -/
def intKeys : List (Key × PyData) → Option (List Int)
  | [] => some []
  | (.inl i, _) :: r => (intKeys r).map (i :: ·)
  | _ :: _ => none
theorem intKeys_eq : ∀ {kvs : List (Key × PyData)} {ks : List Int}, intKeys kvs = some ks → kvs.map (·.1) = ks.map Sum.inl
  | [], ks, h => by simp [intKeys] at h; subst h; rfl
  | (.inl i, d) :: r, ks, h => by
    simp only [intKeys, Option.map_eq_some_iff] at h
    obtain ⟨l, hl, rfl⟩ := h
    simp [intKeys_eq hl]
  | (.inr s, d) :: r, ks, h => by simp [intKeys] at h
def sortI (ks : List Int) : List Int := ks.mergeSort fun a b => decide (a ≤ b)
theorem sortI_asc (ks : List Int) : (sortI ks).Pairwise (· ≤ ·) := by
  have := List.pairwise_mergeSort (le := fun a b : Int => decide (a ≤ b)) (fun a b c h1 h2 => by simp at *; omega) (fun a b => by simp; omega) ks
  exact this.imp (by simp)
theorem sortI_perm (ks : List Int) : (sortI ks).Perm ks := List.mergeSort_perm ..
theorem sortI_uniq {ys ks : List Int} (h1 : ys.Perm ks) (h2 : ys.Pairwise (· ≤ ·)) : ys = sortI ks :=
  List.Perm.eq_of_pairwise (le := (· ≤ ·)) (fun a b _ _ h h' => Int.le_antisymm h h') h2 (sortI_asc ks) (h1.trans (sortI_perm ks).symm)
def rSortDI : List V → Hp → VK → Prop := fun xs H Q => ∃ (a : Addr) (kvs : List (Key × V)) (ks : List Int), xs = [.ref a] ∧ Rd H a (.dK kvs) ∧ kvs.map (·.1) = ks.map Sum.inl ∧ ks.length < 64 ∧
    ∀ (ys : List Int) (p : Addr), ys.Perm ks → ys.Pairwise (· ≤ ·) → H p = none → Q (.ref p) (upd H p (.lst (ys.map V.int)))
theorem cb_sortDI {X : Cx} (hc : X.calm = true) : CallR X (.builtin "sorted") rSortDI := call_sortedDI hc
def sortDR (kvs : List (Key × PyData)) (M : Store) : Res (List Val) := match intKeys kvs with
  | some ks => if ks.length < 64 then .ok ((sortI ks).map fun i => .d (.int i)) M else .stuck
  | none => .stuck
def lSortD (i : Nat) : Sm (List Val) := fun ρ M => wOd ρ i fun kvs => sortDR kvs M
theorem reps_intV : ∀ ys : List Int, Reps C g (ys.map V.int) (ys.map fun i => Val.d (.int i))
  | [] => .nil
  | y :: r => .cons (.int y) (reps_intV r)
theorem el_sortD : EvL C E (tCB rSortDI (tCons (tVar i) tNil)) (lSortD i) := fun H0 g M H σ ρ Q o r p => by
  obtain ⟨xs, a, vs, hi, k1, k2, k3, k4, k5, k6, p⟩ := wOd_inv r p
  refine ⟨_, k1, ?_⟩
  unfold sortDR at p
  split at p
  · rename_i ks hks
    split at p
    · rename_i hl
      refine ⟨a, vs, ks, rfl, .inl k2, k3.keys.trans (intKeys_eq hks), hl, fun ys q hp hw hq => ?_⟩
      have nw := o.newO (o := .lst (ys.map V.int)) hq
      have e := sortI_uniq hp hw
      subst e
      exact p g _ nw.1 nw.2 q _ upd_same (reps_intV _) (o.free hq).1 (o.free hq).2 hq
    · exact p.elim
  · exact p.elim
section
variable {X : Cx} {o e f i : Expr} {apos cpos pos : Pos} {td ty tx : TE}
theorem hu_line {X : Cx} (hu : Hu X) : X.A.units + 1 < cLine := by have := hu; unfold Hu at this; omega
theorem pe_dget2Z (hu : Hu X) (ho : PE X o td) (he : PE X e ty) (hf : PE X f tx) (m : M2 X o "get" apos e f cpos) : PE X (.Call (.Attribute o "get" apos) [e, f] [] cpos) (tDGet2 td ty tx) := pe_dget2 (hu_line hu) ho he hf m
theorem pe_dgetZ (hu : Hu X) (ho : PE X o td) (hi : PE X i ty) (hs : NoSl i) : PE X (.Subscript o i pos) (tDGet td ty) := pe_dget (hu_line hu) ho hi hs
theorem set_dictZ (hu : Hu X) : PSet X rSetD := set_dict (hu_line hu)
end
end Z

/-! Z, part 29: words of texts: find, startswith, split, partition, join, upper. -/
namespace Z
open PySem PySem.Spec PyProof.Rows L2
section
variable {C : Ctx} {E : XK} {H0 : Hp} {g g' : G} {M M' : Store} {H H' : Hp} {σ : L2.St} {ρ : Rho} {i : Nat} {ta tb te : TE} {mo mb m : Sm Val}
def onStr {α : Type} (x : Val) (f : Str → Res α) : Res α := match x with
  | .d (.str a) => f a
  | _ => .stuck
@[simp] theorem onStr_str {α : Type} (a : Str) (f : Str → Res α) : onStr (.d (.str a)) f = f a := rfl
/-- a method of a text with one text, a flat answer -/
def eT1 (f : Str → Str → Option PyData) (mo mb : Sm Val) : Sm Val := fun ρ M => (mo ρ M).bind fun x M1 => onStr x fun a => (mb ρ M1).bind fun y M2 => onStr y fun b => match f a b with
  | some z => .ok (.d z) M2
  | none => .stuck
def lSplit (mo mb : Sm Val) : Sm (List Val) := fun ρ M => (mo ρ M).bind fun x M1 => onStr x fun a => (mb ρ M1).bind fun y M2 => onStr y fun b =>
  if (b.length == 0) = false ∧ a.length + 2 ≤ sizeLine then .ok ((Txt.split a b).map fun s => .d (.str s)) M2 else .stuck
def partD (a b : Str) : PyData := .tuple [.str (Txt.partition a b).1, .str (Txt.partition a b).2.1, .str (Txt.partition a b).2.2]
def ePart (mo mb : Sm Val) : Sm Val := fun ρ M => (mo ρ M).bind fun x M1 => onStr x fun a => (mb ρ M1).bind fun y M2 => onStr y fun b =>
  if (b.length == 0) = false ∧ a.length ≤ sizeLine then .ok (.d (partD a b)) M2 else .stuck
/-- x.join(a list of texts) -/
def strsD : List PyData → Option (List Str)
  | [] => some []
  | .str a :: r => (strsD r).map (a :: ·)
  | _ :: _ => none
@[simp] theorem strsD_map (ys : List Str) : strsD (ys.map PyData.str) = some ys := by
  induction ys with
  | nil => rfl
  | cons y r ih => simp [strsD, ih]
def joinR (a : Str) (z : Val) (M : Store) : Res Val := match load M z with
  | some (.list ds) => match strsD ds with
    | some ys => if (ys.map (·.length)).sum + ys.length * a.length ≤ 16777216 then .ok (.d (.str (Txt.join a ys))) M else .stuck
    | none => .stuck
  | _ => .stuck
def eJoin (mo ml : Sm Val) : Sm Val := fun ρ M => (mo ρ M).bind fun x M1 => onStr x fun a => (ml ρ M1).bind fun z M2 => joinR a z M2
/-- a loop over a text's signs -/
def sStr (m : Sm Val) : Sm Src := fun ρ M => (m ρ M).bind fun x M1 => onStr x fun a => .ok (.str a) M1
end
end Z

/-! Z, part 30: instances: their attributes, their methods, how they are made. -/
namespace Z
open PySem PySem.Spec PyProof.Rows L2

/-- a method that may be called -/
structure MZ (P : Program) (w : World) (K : PySem.W.Frag) (mg : Str → Option Value) (base : Heap) (T : List (Addr × Str)) (k : Nat) (c m : Str) (n : Nat) (mf : List Val → Store → Res Val) : Prop where
  ex : ∃ (A f : Addr) (fd : FuncData) (ps : List Str), mg c = some (.ref A) ∧ Cls K A ∧ Meth K A m f ∧ Binds K fd ps [] ∧ FnG P w K mg base k f fd ps (spZ ⟨K, mg, T⟩ n mf)
/-- a class that may be called -/
structure KZ (P : Program) (w : World) (K : PySem.W.Frag) (mg : Str → Option Value) (base : Heap) (T : List (Addr × Str)) (k : Nat) (c : Str) (n : Nat) (mf : List Val → Store → Res Val) : Prop where
  ex : ∃ (A f : Addr) (fd : FuncData) (ps : List Str), mg c = some (.ref A) ∧ Mk K A f ∧ Binds K fd ps [] ∧ FnG P w K mg base k f fd ps (spZ ⟨K, mg, T⟩ n mf)
/-- what is known of a method that stands in a class -/
structure MetK (K : PySem.W.Frag) (mg : Str → Option Value) (c m qual : Str) (st : Stmt) (ps : List Str) : Prop where
  ex : ∃ (A f : Addr) (fd : FuncData), mg c = some (.ref A) ∧ Cls K A ∧ Meth K A m f ∧ Fun K m qual st f fd ∧ Binds K fd ps []
structure MakK (K : PySem.W.Frag) (mg : Str → Option Value) (c qual : Str) (st : Stmt) (ps : List Str) : Prop where
  ex : ∃ (A f : Addr) (fd : FuncData), mg c = some (.ref A) ∧ Mk K A f ∧ Fun K "__init__" qual st f fd ∧ Binds K fd ps []
section
variable {P : Program} {w : World} {K : PySem.W.Frag} {mg : Str → Option Value} {base : Heap} {T : List (Addr × Str)} {c m qual : Str} {st : Stmt} {ps : List Str} {n k : Nat} {mf : List Val → Store → Res Val}
theorem MZ.mk' (d : MetK K mg c m qual st ps) (h : ∀ (f : Addr) (fd : FuncData), Fun K m qual st f fd → FnG P w K mg base k f fd ps (spZ ⟨K, mg, T⟩ n mf)) : MZ P w K mg base T k c m n mf := by
  obtain ⟨A, f, fd, h1, h2, h3, h4, h5⟩ := d.ex
  exact ⟨A, f, fd, ps, h1, h2, h3, h5, h f fd h4⟩
theorem KZ.mk' (d : MakK K mg c qual st ps) (h : ∀ (f : Addr) (fd : FuncData), Fun K "__init__" qual st f fd → FnG P w K mg base k f fd ps (spZ ⟨K, mg, T⟩ n mf)) : KZ P w K mg base T k c n mf := by
  obtain ⟨A, f, fd, h1, h2, h4, h5⟩ := d.ex
  exact ⟨A, f, fd, ps, h1, h2, h5, h f fd h4⟩
end
section
variable {C : Ctx} {E : XK} {g g' g0 : G} {H H' H0 H1 : Hp} {M M' : Store} {σ : L2.St} {ρ : Rho} {te ta tb : TE} {mo m ma mb : Sm Val} {tA : TA} {mA : Sm (List Val)} {c f : Str}
def objAt (M : Store) (c : Str) (y : Val) : Option (Nat × List (Str × Val)) := match y with
  | .ref n => match M[n]? with
    | some (.obj c' fs) => if c' = c then some (n, fs) else none
    | _ => none
  | _ => none
@[simp] theorem objAt_ref (n : Nat) : objAt M c (.ref n) = match M[n]? with
    | some (.obj c' fs) => if c' = c then some (n, fs) else none
    | _ => none := rfl
theorem PReps.len {vf : List (Str × V)} {fs : List (Str × Val)} (h : PReps C g vf fs) : vf.length = fs.length := Paired.length h
/-! o.f -/
def eFld (c f : Str) (mo : Sm Val) : Sm Val := fun ρ M => (mo ρ M).bind fun y M1 => match objAt M1 c y with
  | some (_, fs) => match fs.lookup f with
    | some x => .ok x M1
    | none => .stuck
  | none => .stuck
@[simp] theorem eFld_eq (mo : Sm Val) : eFld c f mo ρ M = (mo ρ M).bind fun y M1 => match objAt M1 c y with
  | some (_, fs) => match fs.lookup f with
    | some x => .ok x M1
    | none => .stuck
  | none => .stuck := rfl
/-! o.f = e -/
def putZ (f : Str) (x : Val) : List (Str × Val) → List (Str × Val)
  | [] => [(f, x)]
  | (g, y) :: r => if g = f then (g, x) :: r else (g, y) :: putZ f x r
def sFldM (c f : Str) (mo m : Sm Val) : Sm Fl := fun ρ M => (m ρ M).bind fun x M1 => (mo ρ M1).bind fun y M2 => match objAt M2 c y with
  | some (n, fs) => if fs.length < 1000 then .ok (.nx ρ) (M2.set n (.obj c (putZ f x fs))) else .stuck
  | none => .stuck
@[simp] theorem sFldM_eq (mo m : Sm Val) : sFldM c f mo m ρ M = (m ρ M).bind fun x M1 => (mo ρ M1).bind fun y M2 => match objAt M2 c y with
  | some (n, fs) => if fs.length < 1000 then .ok (.nx ρ) (M2.set n (.obj c (putZ f x fs))) else .stuck
  | none => .stuck := rfl
end
section
variable {X : Cx} {T : List (Addr × Str)} {k n : Nat} {mf : List Val → Store → Res Val} {E : XK} {c m x : Str} {p pos apos : Pos} {e o : Expr} {es : List Expr} {t : TA} {ta : TE} {pl : Sem Bool}
end
end Z

/-! Z, part 31: products of lists laid in the store; dicts laid; what the top tells of methods and classes. -/
namespace Z
open PySem PySem.Spec PyProof.Rows L2
section
variable {C : Ctx} {E : XK} {g g' g0 : G} {H H' H0 H1 : Hp} {M M' : Store} {σ : L2.St} {ρ : Rho} {te ta tb : TE} {mo m ma mb : Sm Val} {tA : TA} {mA : Sm (List Val)} {c f : Str}
def eLayD (m : Sm (List (Key × Val))) : Sm Val := fun ρ M => (m ρ M).bind layD
@[simp] theorem eLayD_eq (m : Sm (List (Key × Val))) : eLayD m ρ M = (m ρ M).bind layD := rfl
@[simp] theorem layD_eq (xs : List (Key × Val)) : layD xs M = .ok (.ref M.length) (M ++ [.dic xs]) := rfl
end
section
variable {K : PySem.W.Frag} {mg : Str → Option Value} {h : Heap}
end
end Z

/-! Z, part 32: a, b, c = x, y, z; texts times a number; replace of written texts. -/
namespace Z
open PySem PySem.Spec PyProof.Rows L2
section
variable {C : Ctx} {E : XK} {g g' g0 : G} {H H' H0 H1 : Hp} {M M' : Store} {σ : L2.St} {ρ : Rho} {te ta tb : TE} {mo m ma mb : Sm Val} {tA : TA} {mA : Sm (List Val)} {X : Cx}
def sPar3 (i j l : Nat) (mA : Sm (List Val)) : Sm Fl := fun ρ M => (mA ρ M).bind fun xs M1 => match xs with
  | [x, y, z] => .ok (.nx (((ρ.set i (some (.sh x))).set j (some (.sh y))).set l (some (.sh z)))) M1
  | _ => .stuck
@[simp] theorem sPar3_eq (i j l : Nat) (m : Sm (List Val)) : sPar3 i j l m ρ M = (m ρ M).bind fun xs M1 => match xs with
  | [x, y, z] => .ok (.nx (((ρ.set i (some (.sh x))).set j (some (.sh y))).set l (some (.sh z)))) M1
  | _ => .stuck := rfl
end
end Z

/-! Z, part 33: reversed(range(n)). -/
namespace Z
open PySem PySem.Spec PyProof.Rows L2
section
variable {C : Ctx} {E : XK}
end
end Z

/-! Z, part 34: sorted by a lambda that tells the first of each. -/
namespace Z
open PySem PySem.Spec PyProof.Rows L2 LamX

def key1 : PyData → PyData
  | .tuple (k :: _) => k
  | d => d
def key1Ok : PyData → Bool
  | .tuple (.tuple [.int _, .int _] :: _) => true
  | _ => false
def leK (a b : PyData) : Bool := leD (key1 a) (key1 b)
def sortK (ds : List PyData) : List PyData := ds.mergeSort leK
def okSortK (ds : List PyData) : Bool := ds.all key1Ok && okSort (ds.map key1)
section
variable {X : Cx} {pins : List (Addr × Obj)} {σ : L2.St} {H : Hp} {s : Shared}
end
section
variable {C : Ctx} {E : XK} {te : TE} {m : Sm Val} {ρ : Rho} {M : Store}
def lSortK (m : Sm Val) : Sm (List Val) := fun ρ M => (m ρ M).bind fun x M1 => match load M1 x with
  | some (.list ds) => if okSortK ds = true then .ok ((sortK ds).map Val.d) M1 else .stuck
  | _ => .stuck
@[simp] theorem lSortK_eq (a : Sm Val) : lSortK a ρ M = (a ρ M).bind fun x M1 => match load M1 x with
  | some (.list ds) => if okSortK ds = true then .ok ((sortK ds).map Val.d) M1 else .stuck
  | _ => .stuck := rfl
end
end Z

/-! Z, part 35: dicts by reference: d[k], d.get(k, x), d[k] = v, displays; a list extended by a tuple. -/
namespace Z
open PySem PySem.Spec PyProof.Rows L2
section
variable {C : Ctx} {E : XK} {g g' : G} {H H' H0 : Hp} {M M' : Store} {σ : L2.St} {ρ : Rho} {to tk tx tv : TE} {mo mk mx mv : Sm Val} {te : TE}
end
end Z

/-! Z, part 36: displays of dicts laid in the store; a list extended by a tuple. -/
namespace Z
open PySem PySem.Spec PyProof.Rows L2
section
variable {C : Ctx} {E : XK} {g g' : G} {H H' H0 : Hp} {M M' : Store} {σ : L2.St} {ρ : Rho} {tk tv : TE} {mk mv : Sm Val} {trs : List (TE × TE)}
end
section
variable {X : Cx} {C : Ctx} {E : XK}
end
end Z

/-! Z, part 37: dict(pairs), of a list or a tuple; sorted(d.items()) of one's own dict. -/
namespace Z
open PySem PySem.Spec PyProof.Rows L2
section
variable {X : Cx} {C : Ctx} {E : XK} {g g' : G} {H H' H0 : Hp} {M M' : Store} {σ : L2.St} {ρ : Rho} {te : TE} {m : Sm Val}
/-! dict(x) -/
abbrev PrV (K : PySem.W.Frag) (H : Hp) : List V → List (Key × V) → Prop := Paired fun v kv => ∃ p, v = .ref p ∧ SqT K H p [kV kv.1, kv.2]
def rDictZ (K : PySem.W.Frag) : List V → Hp → VK → Prop := fun xs H Q => ∃ a vs kvs, xs = [.ref a] ∧ (SqL K H a vs ∨ StrT H a vs) ∧ PrV K H vs kvs ∧ ∀ p, H p = none → Q (.ref p) (upd H p (.dK (mergeK [] kvs)))
theorem prV_refs {K : PySem.W.Frag} : ∀ {vs : List V} {kvs : List (Key × V)}, PrV K H vs kvs → ∃ ps : List Addr, vs = ps.map V.ref ∧ Paired (fun p kv => SqT K H p [kV kv.1, kv.2]) ps kvs
  | _, _, .nil => ⟨[], rfl, .nil⟩
  | _, _, .cons ⟨p, e, h⟩ t => by
    obtain ⟨ps, e2, h2⟩ := prV_refs t
    subst e e2
    exact ⟨p :: ps, rfl, .cons h h2⟩
theorem pairs_told {pins : List (Addr × Obj)} {s : Shared} (I : Inv X pins σ H s) : ∀ {ps : List Addr} {kvs : List (Key × V)}, Paired (fun p kv => SqT X.K H p [kV kv.1, kv.2]) ps kvs →
    ∃ (pvs : List (Value × Value)) (prs : List (Key × Value)), KV kvs prs ∧ prs.length = ps.length ∧ pvs.length = ps.length ∧
      ∀ (j : Nat) (k v : Value), pvs[j]? = some (k, v) → ∃ (b : Addr) (key : Key), ps[j]? = some b ∧ IsTup s.heap b #[k, v] ∧ prs[j]? = some (key, v) ∧ keyIs key k = true
  | _, _, .nil => ⟨[], [], .nil, rfl, rfl, fun j k v e => by simp at e⟩
  | _, _, .cons (a := p) (b := kv) h t => by
    obtain ⟨pvs, prs, r, l1, l2, hp⟩ := pairs_told I t
    obtain ⟨its, rv, ht, -⟩ := I.tuple h
    obtain ⟨u, y, rfl, ru, ry⟩ := vals2 rv
    refine ⟨(u, y) :: pvs, (kv.1, y) :: prs, .cons ⟨rfl, ry⟩ r, by simp [l1], by simp [l2], fun j k v e => ?_⟩
    cases j with
    | zero =>
      simp only [List.getElem?_cons_zero, Option.some.injEq, Prod.mk.injEq] at e
      obtain ⟨rfl, rfl⟩ := e
      exact ⟨p, kv.1, rfl, ht, rfl, kV_is (P := X.prog) (w := X.w) ru⟩
    | succ j => simpa using hp j k v (by simpa using e)
theorem cb_dictZ (hc : X.calm = true) : CallR X (.type "dict") (rDictZ X.K) := by
  rintro pins s σ H _ us Q I r ⟨a, vs, kvs, rfl, hl | ⟨ob, ho, hd⟩, hp, q⟩
  · obtain ⟨ps, rfl, h2⟩ := prV_refs hp
    exact call_dictP hc pins s σ H _ us Q I r ⟨a, ps, kvs, rfl, hl, h2, q⟩
  · obtain ⟨ps, rfl, h2⟩ := prV_refs hp
    rw [Vals.ref1 r]
    obtain ⟨e0, hz, its, rv, o2, e2, hcl, n, hda⟩ := I.hok a _ ho
    obtain rfl : ob = o2 := Option.some.inj (e0.symm.trans e2)
    have ei := refs_at rv
    subst ei
    obtain ⟨pvs, prs, rel, l1, l2, hpr⟩ := pairs_told I h2
    rw [List.length_map] at hz
    have P := PairArg.tuple (prog := X.prog) (w := X.w) a (ps.map Value.ref).toArray (fun j => (ps[j]?).getD 0) pvs
    refine PySem.call_dict_pairs (knd := mixKind X.prog X.w) (kvs := prs) P (I.ok.hd hc) ⟨⟨ob, n, e0, hcl, hd, hda⟩, by simp [l2], fun j k v e => ?_⟩ ⟨by rw [l1, l2], fun i key v e => ?_⟩ (by rw [l2]; exact hz) fun h' tk hd' k => ?_
    · obtain ⟨b, key, e1, e3, -, -⟩ := hpr j k v e
      obtain ⟨o3, f1, f2, f3, f4⟩ := e3
      have e5 : (ps[j]?).getD 0 = b := by rw [e1]; rfl
      refine ⟨by simp [e1], .inl ?_⟩
      show s.heap.IsTuple ((ps[j]?).getD 0) #[k, v]
      rw [e5]
      exact ⟨o3, f1, f2, f3, f4⟩
    · obtain ⟨b, ky, -, -, e3, e4⟩ := hpr i key v e
      exact ⟨ky, e3, e4⟩
    · have hm : (s.heap.objs.size == sysModules) = false := beq_eq_false_iff_ne.mpr (Nat.ne_of_gt I.big)
      have le : (mergeK [] kvs).length ≤ sizeLine := by
        have l3 := length_mergeK kvs []
        have l4 : kvs.length = prs.length := rel.length
        simp only [List.length_nil] at l3
        omega
      refine ⟨.ref _, upd H s.heap.objs.size (.dK (mergeK [] kvs)), I.laid (t' := tk) (fun b o e => k b o (fun z => nomatch z) e) (Nat.le_refl _) ?_, rfl, q _ (I.hok.fresh (Nat.le_refl _))⟩
      exact ⟨le, hm, merged [] prs, KV.merge rel .nil, hd'⟩
/-- pairs, their keys told -/
def pairsK : List PyData → Option (List (Key × PyData))
  | [] => some []
  | .tuple [k, v] :: r => match keyOf k, pairsK r with
    | some k, some ps => some ((k, v) :: ps)
    | _, _ => none
  | _ :: _ => none
def mergeP (acc more : List (Key × PyData)) : List (Key × PyData) := more.foldl (fun a kv => putP a kv.1 kv.2) acc
theorem KvD.merge {S : Hp} : ∀ {vs : List (Key × V)} {xs : List (Key × PyData)} {av : List (Key × V)} {ax : List (Key × PyData)}, KvD C S vs xs → KvD C S av ax → KvD C S (mergeK av vs) (mergeP ax xs)
  | _, _, _, _, .nil, h => h
  | (k1, v) :: vs, (k2, x) :: xs, av, ax, .cons ⟨h1, h2⟩ t, h => by
    simp only at h1
    subst h1
    show KvD C S (mergeK (putK av k1 v) vs) (mergeP (putP ax k1 x) xs)
    exact KvD.merge t (h.put k1 h2)
theorem pairsK_rp {K : PySem.W.Frag} {S : Hp} : ∀ {ds : List PyData} {ps : List (Key × PyData)} {vs : List V}, pairsK ds = some ps → RpAll K S vs ds → ∃ kvs : List (Key × V), PrV K S vs kvs ∧ Paired (fun (p : Key × V) (q : Key × PyData) => p.1 = q.1 ∧ Rp K S p.2 q.2) kvs ps
  | [], ps, vs, e, h => by cases e; cases h; exact ⟨[], .nil, .nil⟩
  | d :: r, ps, vs, e, h => by
    unfold pairsK at e
    split at e
    · rename_i e0; cases e0
    · rename_i k v r' e0
      cases e0
      split at e
      · rename_i k' ps' e1 e2
        cases e
        cases h with
        | cons h1 h2 =>
          obtain ⟨kvs, a1, a2⟩ := pairsK_rp e2 h2
          cases h1 with
          | tup t1 t2 =>
            obtain ⟨x, y, rfl, r1, r2⟩ := rps2 t2
            have ek := key_rp r1 e1
            subst ek
            exact ⟨(k', y) :: kvs, .cons ⟨_, rfl, t1.1⟩ a1, .cons ⟨rfl, r2⟩ a2⟩
      · cases e
    · cases e
theorem pairsK_sack : ∀ {ds : List PyData} {ps : List (Key × PyData)}, pairsK ds = some ps → ds ≠ [] → sackish ds = true := by
  have key : ∀ {ds : List PyData} {ps : List (Key × PyData)}, pairsK ds = some ps → ds.all pairD = true := by
    intro ds
    induction ds with
    | nil => intro ps _; rfl
    | cons d r ih =>
      intro ps e
      unfold pairsK at e
      split at e
      · rename_i e0; cases e0
      · rename_i k v r' e0
        cases e0
        split at e
        · rename_i k' ps' e1 e2
          simp only [List.all_cons, ih e2, Bool.and_true]; rfl
        · cases e
      · cases e
  intro ds ps e ne
  unfold sackish
  rw [key e]
  cases ds with
  | nil => exact absurd rfl ne
  | cons _ _ => rfl
theorem PrV.mono {K : PySem.W.Frag} {S S' : Hp} (s : Same S S') {vs : List V} {kvs : List (Key × V)} (h : PrV K S vs kvs) : PrV K S' vs kvs := Paired.mapP h fun _ _ ⟨p, e, r⟩ => ⟨p, e, sqtMono s r⟩
/-- dict(x): a new dict -/
def dOf (m : Sm Val) : Sm (List (Key × Val)) := fun ρ M => (m ρ M).bind fun x M1 => match x with
  | .d (.tuple ds) => match pairsK ds with
    | some ps => if ds ≠ [] then .ok ((mergeP [] ps).map fun p => (p.1, .d p.2)) M1 else .stuck
    | none => .stuck
  | .d (.list ds) => match pairsK ds with
    | some ps => .ok ((mergeP [] ps).map fun p => (p.1, .d p.2)) M1
    | none => .stuck
  | _ => .stuck
theorem prs_of {S : Hp} {φ : List Addr} : ∀ {vs : List (Key × V)} {xs : List (Key × PyData)}, KvD C S vs xs → PReps C ⟨φ, S⟩ vs (xs.map fun p => (p.1, Val.d p.2))
  | _, _, .nil => .nil
  | _, _, .cons h t => .cons ⟨h.1, h.2⟩ (prs_of t)
theorem ed_dict (h : EvE C E te m) : EvD C E (tCB (rDictZ C.K) (tCons te tNil)) (dOf m) := fun H0 g M H σ ρ Q o r p =>
  h H0 g M H σ ρ _ o r (p.bind0.imp fun x g' M' H' o' st k v rv => by
    have fin : ∀ (kvs : List (Key × V)) (ps : List (Key × PyData)), KvD C g'.S kvs ps → Post C E g H (.ok ((mergeP [] ps).map fun p => (p.1, Val.d p.2)) M') (fun xs g' x H' => ∀ (p : Addr) (vs : List (Key × V)), H' p = some (.dK vs) → PReps C g' vs xs → g'.S p = none → ¬p ∈ g'.phi → H p = none → Q (.ref p) H') → ∀ p, H' p = none → Q (.ref p) (upd H' p (.dK (mergeK [] kvs))) := fun kvs ps hk k q hq => by
      have nw := o'.newO (o := .dK (mergeK [] kvs)) hq
      exact k g' _ nw.1 (st.trans nw.2) q _ upd_same (prs_of (φ := g'.phi) (KvD.merge hk .nil)) (o'.free hq).1 (o'.free hq).2 (st.fresh q hq)
    cases x with
    | ref n => exact k.elim
    | scr n => exact k.elim
    | d x =>
      cases x with
      | tuple ds =>
        simp only at k
        cases e : pairsK ds with
        | none => simp only [e] at k; exact k.elim
        | some ps =>
          simp only [e] at k
          by_cases hz : ds ≠ []
          · simp only [if_pos hz] at k
            have rv : Rp C.K g'.S v (.tuple ds) := rv
            cases rv with
            | @tup a vs _ t1 t2 =>
              obtain ⟨kvs, a1, a2⟩ := pairsK_rp e t2
              exact ⟨a, vs, kvs, rfl, .inr ((t1.2 (pairsK_sack e hz)).mono o'.ex), a1.mono o'.ex, fin kvs ps a2 k⟩
          · simp only [if_neg hz] at k; exact k.elim
      | list ds =>
        simp only at k
        cases e : pairsK ds with
        | none => simp only [e] at k; exact k.elim
        | some ps =>
          simp only [e] at k
          have rv : Rp C.K g'.S v (.list ds) := rv
          cases rv with
          | @lst a vs _ t1 t2 =>
            obtain ⟨kvs, a1, a2⟩ := pairsK_rp e t2
            exact ⟨a, vs, kvs, rfl, .inl (SqL.of (o'.ex _ _ t1)), a1.mono o'.ex, fin kvs ps a2 k⟩
      | _ => exact k.elim)
@[simp] theorem dOf_eq (m : Sm Val) : dOf m ρ M = (m ρ M).bind fun x M1 => match x with
  | .d (.tuple ds) => match pairsK ds with
    | some ps => if ds ≠ [] then .ok ((mergeP [] ps).map fun p => (p.1, .d p.2)) M1 else .stuck
    | none => .stuck
  | .d (.list ds) => match pairsK ds with
    | some ps => .ok ((mergeP [] ps).map fun p => (p.1, .d p.2)) M1
    | none => .stuck
  | _ => .stuck := rfl
end
end Z

/-! Z, part 38: sorted(d.items()) of one's own dict. -/
namespace Z
open PySem PySem.Spec PyProof.Rows L2
section
variable {X : Cx} {C : Ctx} {E : XK} {g g' : G} {H H' H0 : Hp} {M M' : Store} {σ : L2.St} {ρ : Rho} {i : Nat}
def itemsZ (p d : Addr) : HO := .ext fun h => h.IsItemsView p d
def rItemsZ : V → List V → Hp → VK → Prop := fun x xs H Q => ∃ (a : Addr) (kvs : List (Key × V)), x = .ref a ∧ xs = [] ∧ H a = some (.dK kvs) ∧ ∀ p, H p = none → Q (.ref p) (upd H p (itemsZ p a))
theorem itemsZ_ok {P : Program} {w : World} {h : Heap} {p d : Addr} (e : h.get? p = some { cls := .type "dict_items", data := .fields #[.ref d] }) : ObjOk P w H h p (itemsZ p d) :=
  ⟨⟨_, e, rfl, rfl⟩, ⟨_, e⟩, fun _ _ ⟨o, ho, r⟩ k => ⟨o, k o ho, r⟩⟩
theorem mt_itemsZ : MtR X "dict.items" rItemsZ := by
  rintro pins s σ H _ _ v us Q I rx rxs ⟨a, kvs, rfl, rfl, ha, q⟩
  cases rx; cases rxs
  obtain ⟨-, h0, vs, -, hd⟩ := I.hok a _ ha
  refine call_meetsIn PySem.F.slot_dict_items hd.typeIs PySem.F.entry_dict_items (PySem.F.args_dict_items_1 _) (meets_dict_items (mixKind X.prog X.w) a h0) ⟨⟨vs, hd⟩, ?_⟩
  refine ⟨.ref _, _, I.laid (t' := s.toks) (o := itemsZ s.heap.objs.size a) (fun _ _ e => Heap.get?_push_of_some _ e) (Nat.le_refl _) ?_, rfl, q _ (I.hok.fresh (Nat.le_refl _))⟩
  exact itemsZ_ok (Heap.get?_push_size _ rfl)
def pairKD (p : Key × PyData) : PyData := .tuple [keyD p.1, p.2]
abbrev KvR (K : PySem.W.Frag) (S : Hp) : List (Key × V) → List (Key × PyData) → Prop := Paired fun p q => p.1 = q.1 ∧ Rp K S p.2 q.2
/-- the pairs that the view gives, tracked -/
theorem items_put {pins : List (Addr × Obj)} {s : Shared} {h' : Heap} {tk : Nat} {kvs : List (Key × V)} {vs : List (Key × Value)} {as : List Addr} (I : Inv X pins σ H s) (kv : KV kvs vs) (hk : ∀ b o, s.heap.get? b = some o → h'.get? b = some o)
    (hl : as.length = vs.length) (hG : PySem.W.KdxG (mixKind X.prog X.w) vs s.heap.objs.size h' as) : as.Nodup ∧ (∀ t ∈ as, H t = none) ∧ Inv X pins σ (LiI.putT H as kvs) { s with heap := h', toks := tk } := by
  have nd : as.Nodup := hG.rise.imp fun z => Nat.ne_of_lt z
  have nw : ∀ t ∈ as, H t = none := fun t m => I.hok.fresh (Nat.le_of_lt (hG.above t m))
  have lk : kvs.length = vs.length := Paired.length kv
  have told := LiI.putT_at as kvs H (by omega) nd
  have out : ∀ b o, s.heap.get? b = some o → b ∉ as := fun b o e m => Nat.lt_irrefl _ (Nat.lt_trans (Heap.lt_size e) (hG.above b m))
  have up : ∀ b u, H b = some u → LiI.putT H as kvs b = some u := fun b u e => by
    rw [LiI.putT_off as kvs H fun m => by rw [nw b m] at e; cases e]; exact e
  refine ⟨nd, nw, I.call' (ch := []) rfl ?_ (fun b u q => ?_) I.bare fun b m => nomatch m⟩
  · exact { keep := fun b o e _ _ _ => hk b o e, slot := fun b o e _ _ _ => ⟨o.slots, hk b o e⟩, free := fun b o e n _ => by rw [LiI.putT_off as kvs H (out b o e)]; exact n,
            there := fun b o e _ => ⟨o, hk b o e⟩, tups := fun b _ e => up b _ e, frzs := fun b _ _ e => up b _ e, tbls := fun b _ e => ⟨#[], by rw [up b _ e]; simp⟩ }
  · by_cases m : b ∈ as
    · obtain ⟨j, pk, e1, e2, e3⟩ := LiI.paired_ix told m
      obtain ⟨key, k, x, f1, f2, f3⟩ := hG.pairs j b e1
      obtain ⟨_, g1, g2, g3⟩ := LiI.paired_get kv e2
      rw [f1] at g1
      cases g1
      rw [e3] at q
      cases q
      have rk : RelV (kV pk.1) key := by rw [g2]; exact relV_key (show keyIs k key = true from f2)
      exact ⟨by show 2 ≤ sizeLine; decide, [key, x], .cons rk (.cons g3 .nil), _, f3, rfl, _, rfl⟩
    · rw [LiI.putT_off as kvs H m] at q
      exact (I.hok b u q).stay (fun d v _ y => hk d v y) (fun d y => up d _ y) fun d _ y => up d _ y
theorem items_rp {K : PySem.W.Frag} {S : Hp} : ∀ {as : List Addr} {kvs : List (Key × V)} {ps : List (Key × PyData)}, Paired (fun (t : Addr) (p : Key × V) => S t = some (.tup [kV p.1, p.2])) as kvs → KvR K S kvs ps → RpAll K S (as.map V.ref) (ps.map pairKD)
  | _, _, _, .nil, .nil => .nil
  | _, _, _, .cons h t, .cons (b := q) ⟨e, r⟩ t2 => by
    refine .cons ?_ (items_rp t t2)
    rw [e] at h
    obtain ⟨k, d⟩ := q
    refine .tup ⟨SqT.of h, fun z => ?_⟩ (.cons ?_ (.cons r .nil))
    · cases k <;> cases z
    · cases k with
      | inl i => exact .int i
      | inr x => exact .str x
def rSortIZ (K : PySem.W.Frag) : List V → Hp → VK → Prop := fun xs H Q => ∃ (p d : Addr) (kvs : List (Key × V)) (ps : List (Key × PyData)), xs = [.ref p] ∧ H p = some (itemsZ p d) ∧ H d = some (.dK kvs) ∧ KvR K H kvs ps ∧ okSort (ps.map pairKD) = true ∧
  ∀ (as : List Addr) (q : Addr), as.length = kvs.length → as.Nodup → (∀ a ∈ as, H a = none) → LiI.putT H as kvs q = none → Q (.ref q) (upd (LiI.putT H as kvs) q (.lst ((((as.map V.ref).zip (ps.map pairKD)).mergeSort leP).map Prod.fst)))
theorem putT_same {as : List Addr} {kvs : List (Key × V)} (nw : ∀ t ∈ as, H t = none) : Same H (LiI.putT H as kvs) := fun b u e => by
  rw [LiI.putT_off as kvs H fun m => by rw [nw b m] at e; cases e]; exact e
theorem cb_sortIZ (hc : X.calm = true) (hu : Hu X) : CallR X (.builtin "sorted") (rSortIZ X.K) := by
  rintro pins s σ H _ us Q I r ⟨p, d, kvs, ps, rfl, hp, hd, hr, ok, q⟩
  rw [Vals.ref1 r]
  have view : s.heap.IsItemsView p d := (show ObjOk X.prog X.w H s.heap p (itemsZ p d) from I.hok p _ hp).1
  obtain ⟨hz, h0, vs, kv, hdo⟩ := I.hok d _ hd
  obtain ⟨ep, hat⟩ := hdo.dictAt
  have lk : kvs.length = vs.length := Paired.length kv
  have lp : kvs.length = ps.length := Paired.length hr
  obtain ⟨o1, o2, o3, o4⟩ := okSort_inv ok
  refine Calls.call_function_entry PyProof.Rows.kind_sorted PyProof.Rows.plain_sorted PyProof.Rows.entry_sorted (PyProof.Rows.args_sorted1 _) ?_
  unfold Builtin.«sorted»
  refine wpAny_bind (m := checkCount "sorted" 1 1 _) (wpAny_pure ?_)
  refine wpAny_bind (PySem.W.kdx_collect (A := X.A.in1) (knd := mixKind X.prog X.w) (kvs := vs) (ep := ep) (I.ok.hd hc) view hat (by omega) ?_)
  intro h' tk as hk hl hG
  obtain ⟨nd, nw, I1⟩ := items_put (tk := tk) I kv hk hl hG
  have la : as.length = kvs.length := by omega
  refine wpAny_bind (wpAny_newList ?_ (by rw [List.length_map]; omega))
  have I2 : Inv X pins σ (LiI.putT H as kvs) { s with heap := h'.push { cls := .type "list", data := .seq (as.map Value.ref).toArray }, toks := tk } := I1.kept (t' := tk) fun b o e => Heap.get?_push_of_some _ e
  have nB : LiI.putT H as kvs h'.objs.size = none := I1.hok.fresh (Nat.le_refl _)
  have rpA : RpAll X.K (LiI.putT H as kvs) (as.map V.ref) (ps.map pairKD) := items_rp (LiI.putT_at as kvs H la nd) (Paired.mapP hr fun a b z => ⟨z.1, Rp.mono (putT_same nw) _ _ z.2⟩)
  have rv : Vals (as.map V.ref) (as.map Value.ref) := LiI.vals_refs as
  have hsnd := snd_zip rpA
  have hlen : ((as.map V.ref).zip (ps.map pairKD)).length = ps.length := by rw [← List.length_map (f := Prod.snd), hsnd, List.length_map]
  rw [List.length_map] at o4
  have hB : (h'.push { cls := .type "list", data := .seq (as.map Value.ref).toArray }).get? h'.objs.size = some (seqObj "list" (as.map Value.ref).toArray 0) := Heap.get?_push_size _ rfl
  have go : wpAny (model X.prog X.w) X.A.in1 (call (.builtin "list.sort") [.ref h'.objs.size]) (fun _ s' => EP X pins σ Q (.ref h'.objs.size) s') X.xe { s with heap := h'.push { cls := .type "list", data := .seq (as.map Value.ref).toArray }, toks := tk } := by
    refine PySem.W.list_sort_data (enc := Prod.snd) (R := fun u (b : V × PyData) => RelV b.1 u) (bs := (as.map V.ref).zip (ps.map pairKD)) hB (each_zip rpA.length rv fun v u d hm r => r)
      (each_zip rpA.length rv fun v u d hm r => ?_) (by rw [hsnd]; exact o1) (by rw [hsnd]; exact o2) (by rw [hlen]; exact small5 o4) (fun b hb => ?_) fun out h1 h2 => ?_
    · obtain ⟨bs, rd, tr⟩ := Rp.readsT I2 (Same.refl _) d v u (rp_zip rpA _ hm) r
      exact ⟨bs, rd, fun m => by obtain ⟨o, e⟩ := tr _ m; rw [nB] at e; cases e⟩
    · have : b.2 ∈ ps.map pairKD := by rw [← hsnd]; exact List.mem_map_of_mem hb
      have := depth_le this
      have e1 : X.A.in1.units = X.A.units + 1 := rfl
      unfold Hu at hu; omega
    · obtain ⟨e, he⟩ := PyProof.Rows.sortedHeap_at (out := out.toArray) hB
      have e2 : ((as.map V.ref).zip (ps.map pairKD)).mergeSort (PySem.W.dataLe false Prod.snd) = ((as.map V.ref).zip (ps.map pairKD)).mergeSort leP := rfl
      rw [e2] at h2
      refine ⟨.ref _, _, I1.laid (t' := tk) (o := .lst ((((as.map V.ref).zip (ps.map pairKD)).mergeSort leP).map Prod.fst)) (fun b o z => ?_) (Nat.le_refl _) ⟨?_, out, e, vals_each h2, he⟩, rfl, q as _ la nd nw nB⟩
      · have lt : b < h'.objs.size := Heap.lt_size z
        rw [PyProof.Rows.sortedHeap_old (Nat.ne_of_lt lt) (by rw [Heap.size_push]; exact Nat.lt_succ_of_lt lt)]
        exact Heap.get?_push_of_some _ z
      · rw [List.length_map, List.length_mergeSort, hlen]; exact small5 o4
  exact wpAny_bind (wpAny_holding (wpAny_mono go (fun _ s' x => wpAny_pure ⟨_, rfl, x⟩) fun _ _ z => z))
theorem Ok.put (k : Ok C g M H) : ∀ (as : List Addr) (kvs : List (Key × V)), (∀ a ∈ as, H a = none) → as.Nodup → as.length = kvs.length →
    Ok C ⟨g.phi, LiI.putT g.S as kvs⟩ M (LiI.putT H as kvs) ∧ Step g H ⟨g.phi, LiI.putT g.S as kvs⟩ (LiI.putT H as kvs) := by
  intro as
  induction as generalizing g H with
  | nil => intro kvs _ _ _; exact ⟨k, Step.refl _ _⟩
  | cons a as ih =>
    intro kvs nw nd l
    cases kvs with
    | nil => cases l
    | cons p kvs =>
      have n2 := List.nodup_cons.mp nd
      have s1 := k.newS (o := .tup [kV p.1, p.2]) (nw a List.mem_cons_self)
      have s2 := ih s1.1 kvs (fun b hb => by rw [upd_ne fun z => n2.1 (by rw [← z]; exact hb)]; exact nw b (List.mem_cons_of_mem _ hb)) n2.2 (Nat.succ.inj l)
      exact ⟨s2.1, s1.2.trans s2.2⟩
/-- sorted(d.items()): a new list of the pairs -/
def lSortItems (i : Nat) : Sm (List Val) := fun ρ M => wOd ρ i fun kvs => if okSort (kvs.map pairKD) = true then .ok ((sortD (kvs.map pairKD)).map Val.d) M else .stuck
@[simp] theorem lSortItems_eq : lSortItems i ρ M = wOd ρ i fun kvs => if okSort (kvs.map pairKD) = true then .ok ((sortD (kvs.map pairKD)).map Val.d) M else .stuck := rfl
theorem el_sortItems : EvL C E (tCB (rSortIZ C.K) (tCons (tBM0 C.K "dict" rItemsZ (tVar i)) tNil)) (lSortItems i) := fun H0 g M H σ ρ Q o r p => by
  obtain ⟨xs, a, vs, hi, k1, k2, k3, k4, k5, k6, p⟩ := wOd_inv r p
  refine ⟨_, k1, .inr (.inr (.inl ⟨rfl, .inl ⟨vs, k2⟩⟩)), a, vs, rfl, rfl, k2, fun w hw => ?_⟩
  have n1 := o.newO (o := itemsZ w a) hw
  by_cases hok : okSort (xs.map pairKD) = true
  · rw [if_pos hok] at p
    refine ⟨w, a, vs, xs, rfl, upd_same, by rw [upd_ne (ne_of_none k2 hw)]; exact k2, KvD.mono n1.1.ex k3, hok, fun as q l nd nw hq => ?_⟩
    have n2 := n1.1.put as vs nw nd l
    have n3 := n2.1.newO (o := .lst ((((as.map V.ref).zip (xs.map pairKD)).mergeSort leP).map Prod.fst)) hq
    have rp : RpAll C.K (LiI.putT g.S as vs) (as.map V.ref) (xs.map pairKD) := items_rp (LiI.putT_at as vs g.S l nd) (KvD.mono n2.2.ex k3)
    exact p _ _ n3.1 ((n1.2.trans n2.2).trans n3.2) q _ upd_same (reps_of (sort_rp rp)) (n2.1.free hq).1 (n2.1.free hq).2 ((n1.2.trans n2.2).fresh q hq)
  · rw [if_neg hok] at p; exact p.elim
end
end Z

/-! Plain part 0: what holds behind a run (Wp), stepping forward. -/
namespace Z
open PySem PySem.Spec PyProof.Rows L2
/-- a type that hangs on a term in name alone: so simp leaves that term as it is (with -dsimp) -/
abbrev Ph {β : Sort 1} (_ : β) (γ : Type) : Type := γ
@[irreducible] def Wp {α : Type} (Q : α → Store → Prop) (r : Ph Q (Res α)) : Prop := match (r : Res α) with
  | .ok a M => Q a M
  | _ => False
structure Hold (p : Prop) (u : Ph (fun _ : Unit => p) Unit) : Prop where
  get : p
@[simp] theorem wp_ok {α : Type} (a : α) (M : Store) (Q : α → Store → Prop) : Wp Q (.ok a M) = Q a M := by with_unfolding_all rfl
theorem wp_exn {α : Type} (c : Str) (M : Store) (Q : α → Store → Prop) : Wp Q (.exn c M) = False := by with_unfolding_all rfl
theorem wp_stk {α : Type} (Q : α → Store → Prop) : Wp Q .stuck = False := by with_unfolding_all rfl
theorem Wp.get {α : Type} {r : Res α} {P : α → Store → Prop} (h : Wp P r) : ∃ a M, r = .ok a M ∧ P a M := by
  cases r with
  | ok a M => rw [wp_ok] at h; exact ⟨a, M, rfl, h⟩
  | exn c M => rw [wp_exn] at h; exact h.elim
  | stuck => rw [wp_stk] at h; exact h.elim
theorem Wp.mono {α : Type} {r : Res α} {P Q : α → Store → Prop} (h : Wp P r) (k : ∀ a M, P a M → Q a M) : Wp Q r := by
  obtain ⟨a, M, rfl, h2⟩ := h.get
  rw [wp_ok]; exact k a M h2
theorem Wp.of {α : Type} {r : Res α} {P : α → Store → Prop} {a : α} {M : Store} (h : r = .ok a M) (k : P a M) : Wp P r := by rw [h, wp_ok]; exact k
theorem Wp.eq {α : Type} {r : Res α} {a : α} {M : Store} (h : Wp (fun b M' => b = a ∧ M' = M) r) : r = .ok a M := by
  obtain ⟨_, _, e, rfl, rfl⟩ := h.get
  exact e
/-- a branch: nothing is looked at within its ways until the test is known -/
def WIf (p q : Prop) (c : Ph (fun _ : Unit => (p, q)) Bool) : Prop := if (c : Bool) = true then p else q
@[simp] theorem wif_tt (p q : Prop) : WIf p q true = p := rfl
@[simp] theorem wif_ff (p q : Prop) : WIf p q false = q := rfl
def nxt (b : Sm Fl) (f : Fl) (M : Store) : Res Fl := match f with
  | .nx ρ1 => b ρ1 M
  | f => .ok f M
@[simp ↓] theorem wp_nxt (b : Sm Fl) (ρ : Rho) (M : Store) (Q : Fl → Store → Prop) : Wp Q (nxt b (.nx ρ) M) = Wp Q (b ρ M) := by with_unfolding_all rfl
@[simp ↓] theorem wp_nxt_rt (b : Sm Fl) (x : Val) (M : Store) (Q : Fl → Store → Prop) : Wp Q (nxt b (.rt x) M) = Q (.rt x) M := by with_unfolding_all rfl
@[simp ↓] theorem wp_nxt_bk (b : Sm Fl) (ρ : Rho) (M : Store) (Q : Fl → Store → Prop) : Wp Q (nxt b (.bk ρ) M) = Q (.bk ρ) M := by with_unfolding_all rfl
@[simp ↓] theorem wp_nxt_ct (b : Sm Fl) (ρ : Rho) (M : Store) (Q : Fl → Store → Prop) : Wp Q (nxt b (.ct ρ) M) = Q (.ct ρ) M := by with_unfolding_all rfl
def WOl (P : List PyData → Prop) (o : Ph P (Option (Option Slot))) : Prop := match (o : Option (Option Slot)) with
  | some (some (.ol xs)) => P xs
  | _ => False
@[simp] theorem wol_ol (P : List PyData → Prop) (xs : List PyData) : WOl P (some (some (.ol xs))) = P xs := by with_unfolding_all rfl
theorem wol_eq {ρ : Rho} {i : Nat} {f : List PyData → Res Fl} {Q : Fl → Store → Prop} : Wp Q (wOl ρ i f) = WOl (fun xs => Wp Q (f xs)) ρ[i]? := by
  unfold wOl WOl
  generalize ρ[i]? = o
  rcases o with _ | _ | (x | x | x) <;> (with_unfolding_all rfl)
section
variable {α β : Type} {M : Store} {ρ : Rho}
theorem wp_bindE (r : Res α) (f : α → Store → Res β) (Q : β → Store → Prop) : Wp Q (r.bind f) = Wp (fun a M => Wp Q (f a M)) r := by cases r <;> (with_unfolding_all rfl)
@[simp ↓] theorem wp_bind (r : Res α) (f : α → Store → Res β) (Q : β → Store → Prop) : Wp Q (r.bind f) = Wp (fun a M => Wp Q (f a M)) r := wp_bindE r f Q
variable {Q : Val → Store → Prop} {QB : Bool → Store → Prop} {QF : Fl → Store → Prop} {QL : List Val → Store → Prop} {QS : Src → Store → Prop} {QO : Option Int → Store → Prop} {QR : Rho → Store → Prop}
@[simp ↓] theorem wp_e1 (f : PyData → Option PyData) (a : Sm Val) : Wp Q (e1 f a ρ M) = Wp (fun x M1 => Wp Q (lift1 f x M1)) (a ρ M) := wp_bindE ..
@[simp ↓] theorem wp_e2 (f : PyData → PyData → Option PyData) (a b : Sm Val) : Wp Q (e2 f a b ρ M) = Wp (fun x M1 => Wp (fun y M2 => Wp Q (lift2 f x y M2)) (b ρ M1)) (a ρ M) := by
  show Wp Q (Res.bind _ _) = _
  rw [wp_bindE]; congr; funext x M1; rw [wp_bindE]
@[simp ↓] theorem wp_and (a b : Sm Val) : Wp Q (eAnd a b ρ M) = Wp (fun x M1 => Wp (fun c M2 => WIf (Wp Q (b ρ M2)) (Q (.d (.bool false)) M2) c) (asB x M1)) (a ρ M) := by
  show Wp Q (Res.bind _ _) = _
  rw [wp_bindE]; congr; funext x M1; rw [wp_bindE]; congr; funext c M2; cases c <;> (with_unfolding_all rfl)
@[simp ↓] theorem wp_or (a b : Sm Val) : Wp Q (eOr a b ρ M) = Wp (fun x M1 => Wp (fun c M2 => WIf (Q (.d (.bool true)) M2) (Wp Q (b ρ M2)) c) (asB x M1)) (a ρ M) := by
  show Wp Q (Res.bind _ _) = _
  rw [wp_bindE]; congr; funext x M1; rw [wp_bindE]; congr; funext c M2; cases c <;> (with_unfolding_all rfl)
@[simp ↓] theorem wp_not (a : Sm Val) : Wp Q (eNot a ρ M) = Wp (fun x M1 => Wp (fun c M2 => Q (.d (.bool (!c))) M2) (asB x M1)) (a ρ M) := by
  show Wp Q (Res.bind _ _) = _
  rw [wp_bindE]; congr; funext x M1; rw [wp_bindE]; with_unfolding_all rfl
@[simp ↓] theorem wp_isa (p : PyData → Bool) (a : Sm Val) : Wp Q (eIsa p a ρ M) = Wp (fun x M1 => Wp Q (lift1 (fun d => some (.bool (p d))) x M1)) (a ρ M) := wp_bindE ..
@[simp ↓] theorem wp_tVal (a : Sm Val) : Wp QB (tVal a ρ M) = Wp (fun x M1 => Wp QB (asB x M1)) (a ρ M) := wp_bindE ..
@[simp ↓] theorem wp_tNot (a : Sm Bool) : Wp QB (tNotM a ρ M) = Wp (fun b M1 => QB (!b) M1) (a ρ M) := by
  show Wp QB (Res.bind _ _) = _
  rw [wp_bindE]; with_unfolding_all rfl
@[simp ↓] theorem wp_tAnd (a b : Sm Bool) : Wp QB (tAndM a b ρ M) = Wp (fun c M1 => WIf (Wp QB (b ρ M1)) (QB false M1) c) (a ρ M) := (wp_bindE ..).trans (by congr; funext c M1; cases c <;> (with_unfolding_all rfl))
@[simp ↓] theorem wp_tOr (a b : Sm Bool) : Wp QB (tOrM a b ρ M) = Wp (fun c M1 => WIf (QB true M1) (Wp QB (b ρ M1)) c) (a ρ M) := (wp_bindE ..).trans (by congr; funext c M1; cases c <;> (with_unfolding_all rfl))
@[simp ↓] theorem wp_eIf (t : Sm Bool) (a b : Sm Val) : Wp Q (eIf t a b ρ M) = Wp (fun c M1 => WIf (Wp Q (a ρ M1)) (Wp Q (b ρ M1)) c) (t ρ M) := (wp_bindE ..).trans (by congr; funext c M1; cases c <;> (with_unfolding_all rfl))
@[simp ↓] theorem wp_chain (f f' : PyData → PyData → Option PyData) (a b c : Sm Val) : Wp Q (eChain f f' a b c ρ M) = Wp (fun x M1 => Wp (fun y M2 => Wp (fun z M3 => Wp (fun k M4 =>
    WIf (Wp (fun w M5 => Wp Q (lift2 f' y w M5)) (c ρ M4)) (Q (.d (.bool false)) M4) k) (asB z M3)) (lift2 f x y M2)) (b ρ M1)) (a ρ M) := by
  show Wp Q (Res.bind _ _) = _
  rw [wp_bindE]; congr; funext x M1; rw [wp_bindE]; congr; funext y M2; rw [wp_bindE]; congr; funext z M3; rw [wp_bindE]; congr; funext k M4
  cases k with
  | true => exact wp_bindE _ _ _
  | false => with_unfolding_all rfl
@[simp ↓] theorem wp_aCons (a : Sm Val) (b : Sm (List Val)) : Wp QL (aCons a b ρ M) = Wp (fun x M1 => Wp (fun xs M2 => QL (x :: xs) M2) (b ρ M1)) (a ρ M) := by
  show Wp QL (Res.bind _ _) = _
  rw [wp_bindE]; congr; funext x M1; rw [wp_bindE]; with_unfolding_all rfl
@[simp ↓] theorem wp_eTup (a : Sm (List Val)) : Wp Q (eTup a ρ M) = Wp (fun xs M1 => Wp (fun ys M2 => Wp Q (mkTup ys M2)) (sz xs M1)) (a ρ M) := by
  show Wp Q (Res.bind (Res.bind _ _) _) = _
  rw [wp_bindE, wp_bindE]
@[simp ↓] theorem wp_lLst (a : Sm (List Val)) : Wp QL (lLst a ρ M) = Wp (fun xs M1 => Wp QL (sz xs M1)) (a ρ M) := wp_bindE ..
@[simp ↓] theorem wp_eFrz (a : Sm (List Val)) : Wp Q (eFrz a ρ M) = Wp (fun xs M1 => Wp Q (frz xs M1)) (a ρ M) := wp_bindE ..
@[simp ↓] theorem wp_eLay (a : Sm (List Val)) : Wp Q (eLay a ρ M) = Wp (fun xs M1 => Wp Q (lay xs M1)) (a ρ M) := wp_bindE ..
@[simp ↓] theorem wp_eCG (f : List Val → Store → Res Val) (a : Sm (List Val)) : Wp Q (eCG f a ρ M) = Wp (fun xs M1 => Wp Q (f xs M1)) (a ρ M) := wp_bindE ..
@[simp ↓] theorem wp_eG (f : Val → Val → Store → Res Val) (a b : Sm Val) : Wp Q (eG f a b ρ M) = Wp (fun x M1 => Wp (fun y M2 => Wp Q (f x y M2)) (b ρ M1)) (a ρ M) := by
  show Wp Q (Res.bind _ _) = _
  rw [wp_bindE]; congr; funext x M1; rw [wp_bindE]
@[simp ↓] theorem wp_eCB (f : List PyData → Option PyData) (a : Sm (List Val)) : Wp Q (eCB f a ρ M) = Wp (fun xs M1 => Wp Q (liftn f xs M1)) (a ρ M) := wp_bindE ..
@[simp ↓] theorem wp_eCall (n : Nat) (f : List Val → Store → Res Val) (a : Sm (List Val)) : Wp Q (eCall n f a ρ M) = Wp (fun xs M1 => Wp Q (if xs.length = n then f xs M1 else .stuck)) (a ρ M) := wp_bindE ..
@[simp ↓] theorem wp_tupOf (a : Sm Val) : Wp Q (eTupOf a ρ M) = Wp (fun x M1 => Wp Q (match itemsK M1 true x with
  | some xs => mkTup xs M1
  | none => match itemsK M1 false x with
    | some _ => .ok x M1
    | none => .stuck)) (a ρ M) := wp_bindE ..
@[simp ↓] theorem wp_sl (a : Sm Val) (l h : Sm (Option Int)) : Wp Q (eSl a l h ρ M) = Wp (fun x M1 => Wp (fun lo M2 => Wp (fun hi M3 => Wp Q (lift1 (fSl lo hi) x M3)) (h ρ M2)) (l ρ M1)) (a ρ M) := by
  show Wp Q (Res.bind _ _) = _
  rw [wp_bindE]; congr; funext x M1; rw [wp_bindE]; congr; funext lo M2; rw [wp_bindE]
@[simp ↓] theorem wp_oS (a : Sm Val) : Wp QO (oS a ρ M) = Wp (fun x M1 => Wp QO (match x with
  | .d (.int i) => .ok (some i) M1
  | _ => .stuck)) (a ρ M) := wp_bindE ..
@[simp ↓] theorem wp_seq (a b : Sm Fl) : Wp QF (sSeq a b ρ M) = Wp (fun f M1 => Wp QF (nxt b f M1)) (a ρ M) := wp_bindE ..
@[simp ↓] theorem wp_ret (a : Sm Val) : Wp QF (sRet a ρ M) = Wp (fun x M1 => QF (.rt x) M1) (a ρ M) := by
  show Wp QF (Res.bind _ _) = _
  rw [wp_bindE]; with_unfolding_all rfl
@[simp ↓] theorem wp_drop (a : Sm Val) : Wp QF (sDrop a ρ M) = Wp (fun _ M1 => QF (.nx ρ) M1) (a ρ M) := by
  show Wp QF (Res.bind _ _) = _
  rw [wp_bindE]; with_unfolding_all rfl
@[simp ↓] theorem wp_if (t : Sm Bool) (a b : Sm Fl) : Wp QF (sIf t a b ρ M) = Wp (fun c M1 => WIf (Wp QF (a ρ M1)) (Wp QF (b ρ M1)) c) (t ρ M) := (wp_bindE ..).trans (by congr; funext c M1; cases c <;> (with_unfolding_all rfl))
@[simp ↓] theorem wp_asg (a : Sm Val) (t : Tg) : Wp QF (sAsg a t ρ M) = Wp (fun x M1 => Wp (fun ρ' M2 => QF (.nx ρ') M2) (t x ρ M1)) (a ρ M) := by
  show Wp QF (Res.bind _ _) = _
  rw [wp_bindE]; congr; funext x M1; rw [wp_bindE]; with_unfolding_all rfl
@[simp ↓] theorem wp_asgL (i : Nat) (m : Sm (List Val)) : Wp QF (sAsgL i m ρ M) = Wp (fun xs M1 => Wp QF (match pures xs with
  | some ds => .ok (.nx (ρ.set i (some (.ol ds)))) M1
  | none => .stuck)) (m ρ M) := wp_bindE ..
@[simp ↓] theorem wp_frz (i : Nat) (m : Sm Fl) : Wp QF (sFrz i m ρ M) = Wp QF (m (frzR ρ i) M) := by with_unfolding_all rfl
@[simp ↓] theorem wp_par (i j : Nat) (m : Sm (List Val)) : Wp QF (sPar i j m ρ M) = Wp (fun xs M1 => Wp QF (match xs with
  | [x, y] => .ok (.nx ((ρ.set i (some (.sh x))).set j (some (.sh y)))) M1
  | _ => .stuck)) (m ρ M) := wp_bindE ..
@[simp ↓] theorem wp_kill (ks : List Nat) (m : Sm Fl) : Wp QF (sKill ks m ρ M) = Wp (fun f M1 => QF (killF ks f) M1) (m ρ M) := by
  show Wp QF (Res.bind _ _) = _
  rw [wp_bindE]; with_unfolding_all rfl
@[simp ↓] theorem wp_pre (ks : List Nat) (m : Sm Fl) : Wp QF (sPre ks m ρ M) = Wp QF (m (wipeR ρ ks) M) := by with_unfolding_all rfl
theorem okOnlyE (r : Res (List Val)) : Wp QL (okOnly r) = Wp QL r := by cases r <;> (with_unfolding_all rfl)
@[simp ↓] theorem wp_sOne (a : Sm Val) : Wp QS (sOne a ρ M) = Wp (fun x M1 => Wp QS (match kindV M1 x with
  | some k => .ok (.one k x) M1
  | none => .stuck)) (a ρ M) := wp_bindE ..
@[simp ↓] theorem wp_sRng1 (a : Sm (List Val)) : Wp QS (sRng1 a ρ M) = Wp (fun xs M1 => Wp QS (match xs with
  | [.d (.int j)] => if inR j = true then .ok (.rng 0 1 j.toNat) M1 else .stuck
  | _ => .stuck)) (a ρ M) := wp_bindE ..
@[simp ↓] theorem wp_sEnum (a : Sm (List Val)) : Wp QS (sEnum a ρ M) = Wp (fun xs M1 => Wp QS (match xs with
  | [x] => match kindV M1 x with
    | some k => .ok (.enum k x) M1
    | none => .stuck
  | _ => .stuck)) (a ρ M) := wp_bindE ..
@[simp ↓] theorem wp_sZip (a : Sm (List Val)) : Wp QS (sZip a ρ M) = Wp (fun xs M1 => Wp QS (match xs with
  | [x, y] => match kindV M1 x, kindV M1 y with
    | some k1, some k2 => .ok (.zip k1 k2 x y) M1
    | _, _ => .stuck
  | _ => .stuck)) (a ρ M) := wp_bindE ..
@[simp ↓] theorem wp_lSort (a : Sm Val) : Wp QL (lSort a ρ M) = Wp (fun x M1 => Wp QL (match load M1 x with
  | some (.list ds) => if okSort ds = true then .ok ((sortD ds).map Val.d) M1 else .stuck
  | _ => .stuck)) (a ρ M) := wp_bindE ..
@[simp ↓] theorem wp_lListOf (a : Sm Val) : Wp QL (lListOf a ρ M) = Wp (fun x M1 => Wp QL (match itemsK M1 true x with
  | some xs => .ok xs M1
  | none => match itemsK M1 false x with
    | some xs => .ok xs M1
    | none => .stuck)) (a ρ M) := (wp_bindE _ _ _).trans (by congr)
@[simp ↓] theorem wp_lRange (a : Sm Val) : Wp QL (lRange a ρ M) = Wp (fun x M1 => Wp QL (match x with
  | .d (.int n) => if 0 ≤ n ∧ n ≤ 100000 then .ok (rgD n) M1 else .stuck
  | _ => .stuck)) (a ρ M) := wp_bindE ..
@[simp ↓] theorem wp_sApp (i : Nat) (m : Sm Val) : Wp QF (sApp i m ρ M) = WOl (fun xs => Wp (fun y M1 => Wp QF (match y with
  | .d y => if xs.length < 100000 then .ok (.nx (ρ.set i (some (.ol (xs ++ [y]))))) M1 else .stuck
  | _ => .stuck)) (m ρ M)) ρ[i]? := wol_eq.trans (by congr; funext xs; exact wp_bindE _ _ _)
@[simp ↓] theorem wp_back (a : Sm Val) : Wp Q (eBack a ρ M) = Wp (fun x M1 => Wp Q (lift1 fBack x M1)) (a ρ M) := wp_bindE ..
/-- a method of a list by reference -/
def WLm (P : Prop) (o : Ph (fun _ : Unit => P) (Option (Nat × List Val))) : Prop := match (o : Option (Nat × List Val)) with
  | some _ => P
  | none => False
@[simp] theorem wlm_some (P : Prop) (x : Nat × List Val) : WLm P (some x) = P := by with_unfolding_all rfl
@[simp ↓] theorem wp_eLm (mo : Sm Val) (mA : Sm (List Val)) (f : LmF) : Wp Q (eLm mo mA f ρ M) = Wp (fun y M1 => WLm (Wp (fun as M2 => Wp Q (match lstAt M2 y with
    | some (n, xs) => match f xs as with
      | some (r, ys) => .ok r (M2.set n (.lst ys))
      | none => .stuck
    | none => .stuck)) (mA ρ M1)) (lstAt M1 y)) (mo ρ M) := (wp_bindE _ _ _).trans (by
  congr; funext y M1
  cases lstAt M1 y with
  | none => with_unfolding_all rfl
  | some p => exact wp_bindE _ _ _)
@[simp ↓] theorem wp_said (m : Sm Val) : Wp Q (eSaid m ρ M) = Wp Q (saidR (m ρ M)) := by with_unfolding_all rfl
@[simp ↓] theorem wp_fn (n N : Nat) (b : Sm Fl) (xs : List Val) : Wp Q (fnM n N b xs M) = (xs.length = n ∧ Wp (fun f M1 => Wp Q (outM f M1)) (b (startR N xs) M)) := by
  show Wp Q (if xs.length = n then _ else _) = _
  by_cases h : xs.length = n
  · rw [if_pos h, wp_bindE]; simp only [h, true_and]
  · rw [if_neg h]; simp only [h, false_and]; with_unfolding_all rfl
@[simp ↓] theorem wp_sExt (i : Nat) (m : Sm (List Val)) : Wp QF (sExt i m ρ M) = WOl (fun xs => Wp (fun ys M1 => Wp QF (match pures ys with
  | some ds => if xs.length + ds.length < 100000 then .ok (.nx (ρ.set i (some (.ol (xs ++ ds))))) M1 else .stuck
  | none => .stuck)) (m ρ M)) ρ[i]? := wol_eq.trans (by congr; funext xs; exact wp_bindE _ _ _)
@[simp ↓] theorem wp_sSet (i : Nat) (m mj : Sm Val) : Wp QF (sSet i m mj ρ M) = WOl (fun xs => Wp (fun y M1 => Wp (fun j M2 => Wp QF (match y, j with
  | .d y, .d (.int j) => match ixN xs.length j with
    | some n => .ok (.nx (ρ.set i (some (.ol (xs.set n y))))) M2
    | none => .stuck
  | _, _ => .stuck)) (mj ρ M1)) (m ρ M)) ρ[i]? := wol_eq.trans (by congr; funext xs; rw [wp_bindE]; congr; funext y M1; exact wp_bindE _ _ _)
@[simp ↓] theorem wp_whileM (c : Sm Bool) (b : Sm Fl) (k : Nat) : Wp QF (whileM c b (k + 1) ρ M) = Wp (fun t M1 => Wp QF (if t = true then (b ρ M1).bind fun f M2 => match f with
      | .nx ρ2 => whileM c b k ρ2 M2
      | .ct ρ2 => whileM c b k ρ2 M2
      | .bk ρ2 => .ok (.nx ρ2) M2
      | .rt x => .ok (.rt x) M2
    else .ok (.nx ρ) M1)) (c ρ M) := wp_bindE ..
/-! loops and comprehensions stay closed -/
def WpLc (Q : List Val → Store → Prop) (mi : Sm Src) (tg : Tg) (tt : Sm Bool) (te : Sm Val) (vs : List Nat) (ρ : Ph (Q, mi, tg, tt, te, vs) Rho) (M : Store) : Prop := Wp Q (eLc mi tg tt te vs ρ M)
def WpFor (Q : Fl → Store → Prop) (ks : List Nat) (mi : Sm Src) (tg : Tg) (b : Sm Fl) (ρ : Ph (Q, ks, mi, tg, b) Rho) (M : Store) : Prop := Wp Q (sFor ks mi tg b ρ M)
def WpWhile (Q : Fl → Store → Prop) (ks : List Nat) (k : Nat) (c : Sm Bool) (b : Sm Fl) (ρ : Ph (Q, ks, k, c, b) Rho) (M : Store) : Prop := Wp Q (sWhile ks k c b ρ M)
@[simp ↓] theorem wp_eLc (mi : Sm Src) (tg : Tg) (tt : Sm Bool) (te : Sm Val) (vs : List Nat) : Wp QL (eLc mi tg tt te vs ρ M) = WpLc QL mi tg tt te vs ρ M := rfl
@[simp ↓] theorem wp_sFor (ks : List Nat) (mi : Sm Src) (tg : Tg) (b : Sm Fl) : Wp QF (sFor ks mi tg b ρ M) = WpFor QF ks mi tg b ρ M := rfl
@[simp ↓] theorem wp_sWhile (ks : List Nat) (k : Nat) (c : Sm Bool) (b : Sm Fl) : Wp QF (sWhile ks k c b ρ M) = WpWhile QF ks k c b ρ M := rfl
theorem wp_forM {src : Src} {tg : Tg} {b : Sm Fl} {xs : List Val} (hs : src.items = some xs) (P : Nat → Rho → Store → Prop)
    (p0 : P 0 ρ M) (step : ∀ i x ρ M, xs[i]? = some x → P i ρ M → Wp (fun ρ1 M1 => Wp (fun f M2 => ∃ ρ2, f = .nx ρ2 ∧ P (i + 1) ρ2 M2) (b ρ1 M1)) (tg x ρ M))
    (q : ∀ ρ M, P xs.length ρ M → QF (.nx ρ) M) : Wp QF (forM src tg b (src.len M) 0 ρ M) := by
  obtain ⟨ρ', M', e, p⟩ := forM_all hs (tg := tg) (b := b) P p0 fun i x ρ M hx hp => by
    obtain ⟨ρ1, M1, e1, h⟩ := (step i x ρ M hx hp).get
    obtain ⟨f, M2, e2, ρ2, rfl, h2⟩ := h.get
    exact ⟨ρ1, M1, ρ2, M2, e1, e2, h2⟩
  rw [e]; exact .of rfl (q _ _ p)
/-- a loop whose live slots are changed by P alone -/
theorem wp_for {ks : List Nat} {mi : Sm Src} {tg : Tg} {b : Sm Fl} (P : Nat → Rho → Store → Prop) (h : Wp (fun src M1 => Hold (∃ xs, src.items = some xs ∧ P 0 (wipeR ρ ks) M1 ∧
      (∀ i x ρ M, xs[i]? = some x → P i ρ M → Wp (fun ρ1 M1 => Wp (fun f M2 => ∃ ρ2, f = .nx ρ2 ∧ P (i + 1) (wipeR ρ2 ks) M2) (b ρ1 M1)) (tg x ρ M)) ∧
      (∀ ρ M, P xs.length ρ M → QF (.nx ρ) M)) ()) (mi ρ M)) : WpFor QF ks mi tg b ρ M := by
  show Wp QF (Res.bind _ _)
  rw [wp_bindE]
  refine h.mono fun src M1 ⟨xs, hs, p0, st, q⟩ => ?_
  refine wp_forM hs P p0 (fun i x ρ M hx hp => (st i x ρ M hx hp).mono fun ρ1 M1 h1 => ?_) q
  rw [wp_kill]
  refine h1.mono fun f M2 ⟨ρ2, e, p⟩ => ?_
  subst e
  exact ⟨_, rfl, p⟩
/-- a loop whose live slots stay -/
theorem wp_fix {ks : List Nat} {mi : Sm Src} {tg : Tg} {b : Sm Fl} (I : Nat → Store → Prop) (h : Wp (fun src M1 => Hold (∃ xs, src.items = some xs ∧ I 0 M1 ∧
      (∀ i x M, xs[i]? = some x → I i M → Wp (fun ρ1 M1 => Wp (fun f M2 => ∃ ρ2, f = .nx ρ2 ∧ wipeR ρ2 ks = wipeR ρ ks ∧ I (i + 1) M2) (b ρ1 M1)) (tg x (wipeR ρ ks) M)) ∧
      (∀ M, I xs.length M → QF (.nx (wipeR ρ ks)) M)) ()) (mi ρ M)) : WpFor QF ks mi tg b ρ M := by
  refine wp_for (fun i ρ' M => ρ' = wipeR ρ ks ∧ I i M) (h.mono fun src M1 ⟨xs, hs, i0, st, q⟩ => ⟨xs, hs, ⟨rfl, i0⟩, ?_, ?_⟩)
  · rintro i x ρ' M hx ⟨rfl, hi⟩
    exact (st i x M hx hi).mono fun ρ1 M1 h1 => h1.mono fun f M2 ⟨ρ2, e, e2, p⟩ => ⟨ρ2, e, e2, p⟩
  · rintro ρ' M ⟨rfl, hi⟩; exact q M hi
/-- a loop in which one slot changes -/
theorem wp_acc {ks : List Nat} {mi : Sm Src} {tg : Tg} {b : Sm Fl} (k : Nat) (J : Nat → Option Slot → Store → Prop) (h : Wp (fun src M1 => Hold (∃ xs, src.items = some xs ∧
      (∃ s, wipeR ρ ks = (wipeR ρ ks).set k s ∧ J 0 s M1) ∧
      (∀ i x s M, xs[i]? = some x → J i s M → Wp (fun ρ1 M1 => Wp (fun f M2 => ∃ ρ2, f = .nx ρ2 ∧ ∃ s', wipeR ρ2 ks = (wipeR ρ ks).set k s' ∧ J (i + 1) s' M2) (b ρ1 M1)) (tg x ((wipeR ρ ks).set k s) M)) ∧
      (∀ s M, J xs.length s M → QF (.nx ((wipeR ρ ks).set k s)) M)) ()) (mi ρ M)) : WpFor QF ks mi tg b ρ M := by
  refine wp_for (fun i ρ' M => ∃ s, ρ' = (wipeR ρ ks).set k s ∧ J i s M) (h.mono fun src M1 ⟨xs, hs, ⟨s, e0, i0⟩, st, q⟩ => ⟨xs, hs, ⟨s, e0, i0⟩, ?_, ?_⟩)
  · rintro i x ρ' M hx ⟨s, rfl, hi⟩
    exact (st i x s M hx hi).mono fun ρ1 M1 h1 => h1.mono fun f M2 ⟨ρ2, e, s', e2, p⟩ => ⟨ρ2, e, s', e2, p⟩
  · rintro ρ' M ⟨s, rfl, hi⟩; exact q s M hi
/-! comprehensions -/
theorem wp_lc {mi : Sm Src} {tg : Tg} {tt : Sm Bool} {te : Sm Val} {vs : List Nat} (P : Nat → List Val → Store → Prop) (h : Wp (fun src M1 => Hold (∃ xs, src.items = some xs ∧ xs.length < 16000000 ∧ P 0 [] M1 ∧
      (∀ i x acc M, xs[i]? = some x → acc.length ≤ i → P i acc M → Wp (fun ρ1 M1 => M1 = M ∧ Wp (fun c M2 => (c = true → Wp (fun y M3 => P (i + 1) (acc ++ [y]) M3) (te ρ1 M2)) ∧ (c = false → P (i + 1) acc M2)) (tt ρ1 M)) (tg x (wipeR ρ vs) M)) ∧
      (∀ acc M, P xs.length acc M → QL acc M)) ()) (mi ρ M)) : WpLc QL mi tg tt te vs ρ M := by
  show Wp QL (Res.bind _ _)
  rw [wp_bindE]
  refine h.mono fun src M1 ⟨xs, hs, hl, p0, st, q⟩ => ?_
  rw [okOnlyE]
  obtain ⟨acc', M', e, ⟨_, p⟩⟩ := lcM_all (ρ := wipeR ρ vs) (tg := tg) (tt := tt) (te := te) hs (fun i acc M => acc.length ≤ i ∧ P i acc M) ⟨Nat.le_refl _, p0⟩ fun i x acc M hx ⟨hn, hp⟩ => by
    obtain ⟨ρ1, M2, e1, rfl, h1⟩ := (st i x acc M hx hn hp).get
    obtain ⟨c, M3, e2, h2, h3⟩ := h1.get
    have hi := (List.getElem?_eq_some_iff.mp hx).1
    refine ⟨ρ1, M2, c, M3, e1, e2, fun hc => ?_, fun hc => ⟨by omega, h3 hc⟩⟩
    obtain ⟨y, M4, e3, h4⟩ := (h2 hc).get
    exact ⟨y, M4, e3, by omega, by simp; omega, h4⟩
  rw [e]; exact .of rfl (q _ _ p)
/-- a comprehension of data, each element drawn by R -/
theorem wp_draws {mi : Sm Src} {tg : Tg} {te : Sm Val} {vs : List Nat} (R : Nat → PyData → Prop) (I : Store → Prop) (h : Wp (fun src M1 => Hold (∃ xs, src.items = some xs ∧ xs.length < 16000000 ∧ I M1 ∧
      (∀ i x M, xs[i]? = some x → I M → Wp (fun ρ1 M1 => M1 = M ∧ Wp (fun y M3 => ∃ d, y = .d d ∧ R i d ∧ I M3) (te ρ1 M)) (tg x (wipeR ρ vs) M)) ∧
      (∀ (ds : List PyData) M, ds.length = xs.length → (∀ i d, ds[i]? = some d → R i d) → I M → QL (ds.map Val.d) M)) ()) (mi ρ M)) : WpLc QL mi tg tYesM te vs ρ M := by
  refine wp_lc (fun i acc M => ∃ ds : List PyData, acc = ds.map Val.d ∧ ds.length = i ∧ (∀ j d, ds[j]? = some d → R j d) ∧ I M) (h.mono fun src M1 ⟨xs, hs, hl, i0, st, q⟩ => ⟨xs, hs, hl, ⟨[], rfl, rfl, by simp, i0⟩, ?_, ?_⟩)
  · rintro i x acc M hx _ ⟨ds, rfl, hd, hr, hi⟩
    refine (st i x M hx hi).mono fun ρ1 M1 ⟨e, h1⟩ => ⟨e, ?_⟩
    show Wp _ (.ok true M)
    rw [wp_ok]
    refine ⟨fun _ => h1.mono fun y M3 ⟨d, e, r, hi⟩ => ⟨ds ++ [d], by simp [e], by simp [hd], fun j z hz => ?_, hi⟩, fun h => nomatch h⟩
    by_cases hj : j < ds.length
    · rw [List.getElem?_append_left hj] at hz; exact hr j z hz
    · have hj' : j = ds.length := by
        have := (List.getElem?_eq_some_iff.mp hz).1
        simp at this; omega
      subst hj'
      simp at hz; subst hz; rw [hd]; exact r
  · rintro acc M ⟨ds, rfl, hd, hr, hi⟩; exact q ds M hd hr hi
end
end Z

/-! Plain part 1: sizes of what is shown; lists drawn from. -/
namespace Z
open PySem PySem.Spec PyProof.Rows L2
mutual
def wt : PyData → Nat
  | .none => 4
  | .bool _ => 5
  | .int i => i.natAbs.log2 + 2
  | .str x => (reprText x).length
  | .list xs => wtAll xs + 2
  | .tuple xs => wtAll xs + 3
  | .dict kvs => wtKv kvs + 2
def wtAll : List PyData → Nat
  | [] => 0
  | x :: xs => wt x + 2 + wtAll xs
def wtKv : List (PyData × PyData) → Nat
  | [] => 0
  | (k, v) :: r => wt k + wt v + 4 + wtKv r
end
theorem slen (x y : Str) : (x ++ y).length = x.length + y.length := strLen_append x y
def lens : List Str → Nat
  | [] => 0
  | t :: r => t.length + 2 + lens r
theorem join_lens : ∀ ts : List Str, (Str.join ", " ts).length ≤ lens ts
  | [] => by decide
  | [x] => by show x.length ≤ _; simp only [lens]; omega
  | x :: y :: r => by
    have h := join_lens (y :: r)
    have e : Str.join ", " (x :: y :: r) = x ++ ", " ++ Str.join ", " (y :: r) := rfl
    have e2 : ((", " : Str)).length = 2 := rfl
    rw [e, slen, slen, e2]
    simp only [lens] at h ⊢; omega
theorem from_lens : ∀ (ts : List Str) (k : Nat) (acc : Str), (textFrom k acc ts).length ≤ acc.length + lens ts
  | [], k, acc => by show acc.length ≤ _; simp [lens]
  | t :: r, k, acc => by
    have h := from_lens r (k + 1) (acc ++ (if k > 0 then ", " else "" : String) ++ t)
    have e : textFrom k acc (t :: r) = textFrom (k + 1) (acc ++ (if k > 0 then ", " else "" : String) ++ t) r := rfl
    have e2 : ((if k > 0 then ", " else "" : String) : Str).length ≤ 2 := by split <;> decide
    rw [e]
    rw [slen, slen] at h
    simp only [lens]; omega
mutual
theorem shown_wt : ∀ d : PyData, d.shown.length ≤ wt d
  | .none => by simp only [PyData.shown, wt]; decide
  | .bool b => by cases b <;> (simp only [PyData.shown, wt]; decide)
  | .int i => by
    simp only [PyData.shown, wt]
    have h := int_text_length_le (a := i) (k := i.natAbs.log2 + 1) (by omega) (by omega)
    rw [PySem.ofString_length]; omega
  | .str x => by simp only [PyData.shown, wt]; omega
  | .list xs => by
    simp only [PyData.shown, wt]
    have h := shownAll_wt xs
    have h2 := from_lens (PyData.shownAll xs) 0 "["
    have e : (listText (PyData.shownAll xs)).length = (textFrom 0 "[" (PyData.shownAll xs)).length + 1 := by
      show (textFrom 0 "[" (PyData.shownAll xs) ++ "]").length = _
      rw [slen]; rfl
    have e2 : (("[" : String) : Str).length = 1 := rfl
    rw [e]; omega
  | .tuple xs => by
    simp only [PyData.shown, wt]
    have h := shownAll_wt xs
    have h2 := join_lens (PyData.shownAll xs)
    unfold tupleText
    rw [slen, slen]
    have e1 : (("(" : Str)).length = 1 := rfl
    have e2 : ((if (PyData.shownAll xs).length == 1 then ",)" else ")" : String) : Str).length ≤ 2 := by split <;> decide
    omega
  | .dict kvs => by
    simp only [PyData.shown, wt]
    have h := shownKv_wt kvs
    have h2 := join_lens (PyData.shownKv kvs)
    unfold dictText
    rw [slen, slen]
    have e1 : (("{" : Str)).length = 1 := rfl
    have e2 : (("}" : String) : Str).length = 1 := rfl
    omega
theorem shownAll_wt : ∀ xs : List PyData, lens (PyData.shownAll xs) ≤ wtAll xs
  | [] => by simp [PyData.shownAll, lens]
  | x :: xs => by
    have h1 := shown_wt x
    have h2 := shownAll_wt xs
    simp only [PyData.shownAll, lens, wtAll]; omega
theorem shownKv_wt : ∀ xs : List (PyData × PyData), lens (PyData.shownKv xs) ≤ wtKv xs
  | [] => by simp [PyData.shownKv, lens]
  | (k, v) :: xs => by
    have h1 := shown_wt k
    have h3 := shown_wt v
    have h2 := shownKv_wt xs
    have e2 : ((": " : String) : Str).length = 2 := rfl
    simp only [PyData.shownKv, lens, wtKv]
    rw [slen, slen, e2]; omega
end

mutual
def wd : PyData → Nat
  | .tuple xs => max xs.length (wdAll xs)
  | .list xs => wdAll xs
  | .dict kvs => wdKv kvs
  | _ => 0
def wdAll : List PyData → Nat
  | [] => 0
  | x :: xs => max (wd x) (wdAll xs)
def wdKv : List (PyData × PyData) → Nat
  | [] => 0
  | (k, v) :: r => max (max (wd k) (wd v)) (wdKv r)
end
/-- small data: at most k deep, at most n signs shown, no tuple longer than 59 -/
def Sz (k n : Nat) (d : PyData) : Prop := d.showable = true ∧ d.depth ≤ k ∧ wt d ≤ n ∧ wd d ≤ 59
theorem Sz.mono {k n k' n' : Nat} {d : PyData} (h : Sz k n d) (hk : k ≤ k') (hn : n ≤ n') : Sz k' n' d := ⟨h.1, Nat.le_trans h.2.1 hk, Nat.le_trans h.2.2.1 hn, h.2.2.2⟩
theorem wd_all {m : Nat} : ∀ {xs : List PyData}, (∀ x ∈ xs, wd x ≤ m) → wdAll xs ≤ m
  | [], _ => by simp [wdAll]
  | x :: xs, h => by
    have h1 := h x (by simp)
    have h2 := wd_all (xs := xs) fun y hy => h y (by simp [hy])
    simp only [wdAll]; omega
theorem wd_mem {m : Nat} : ∀ {xs : List PyData}, wdAll xs ≤ m → ∀ x ∈ xs, wd x ≤ m
  | [], _ => by simp
  | x :: xs, h => fun y hy => by
    simp only [wdAll] at h
    rcases List.mem_cons.mp hy with rfl | hy
    · omega
    · exact wd_mem (m := m) (xs := xs) (by omega) y hy
theorem okR_of {k n : Nat} {d : PyData} (h : Sz k n d) (hk : k ≤ 90) (hn : n ≤ 16000000) : okR d = true := by
  have := shown_wt d
  simp only [okR, Bool.and_eq_true, decide_eq_true_eq]
  exact ⟨⟨h.1, by have := h.2.1; omega⟩, by rw [sizeLine_eq]; have := h.2.2.1; omega⟩
theorem sz_all {k n : Nat} : ∀ {xs : List PyData}, (∀ x ∈ xs, Sz k n x) → PyData.showableAll xs = true ∧ PyData.depthAll xs ≤ k ∧ wtAll xs ≤ xs.length * (n + 2)
  | [], _ => by simp [PyData.showableAll, PyData.depthAll, wtAll]
  | x :: xs, h => by
    have h1 := h x (by simp)
    have h2 := sz_all (xs := xs) fun y hy => h y (by simp [hy])
    have h3 := h1.2.1
    have h4 := h1.2.2.1
    have e : (xs.length + 1) * (n + 2) = xs.length * (n + 2) + (n + 2) := by rw [Nat.add_mul, Nat.one_mul]
    simp only [PyData.showableAll, PyData.depthAll, wtAll, h1.1, h2.1, Bool.and_self, true_and, List.length_cons, e]
    omega
theorem Sz.list {k n : Nat} {xs : List PyData} (h : ∀ x ∈ xs, Sz k n x) : Sz (k + 1) (xs.length * (n + 2) + 3) (.list xs) := by
  obtain ⟨h1, h2, h3⟩ := sz_all h
  exact ⟨by simpa [PyData.showable] using h1, by simp only [PyData.depth]; omega, by simp only [wt]; omega, by simpa only [wd] using wd_all fun x hx => (h x hx).2.2.2⟩
theorem Sz.tuple {k n : Nat} {xs : List PyData} (hl : xs.length ≤ 59) (h : ∀ x ∈ xs, Sz k n x) : Sz (k + 1) (xs.length * (n + 2) + 3) (.tuple xs) := by
  obtain ⟨h1, h2, h3⟩ := sz_all h
  have h4 := wd_all fun x hx => (h x hx).2.2.2
  exact ⟨by simpa [PyData.showable] using h1, by simp only [PyData.depth]; omega, by simp only [wt]; omega, by simp only [wd]; omega⟩
theorem Sz.len {k n : Nat} {xs : List PyData} (h : Sz k n (.tuple xs)) : xs.length ≤ 59 := by
  have := h.2.2.2
  simp only [wd] at this
  omega
theorem Sz.int {k n : Nat} {i : Int} (h1 : -18446744073709551616 < i) (h2 : i < 18446744073709551616) (hn : 66 ≤ n) : Sz k n (.int i) := by
  have hl : i.natAbs.log2 < 64 := by
    by_cases h0 : i.natAbs = 0
    · rw [h0]; decide
    · exact (Nat.log2_lt h0).mpr (by omega)
  exact ⟨by simp [PyData.showable]; omega, by simp [PyData.depth], by simp only [wt]; omega, by simp [wd]⟩
theorem fNe_str (a b : Str) : fNe (.str a) (.str b) = some (.bool (!(a == b))) := by simp [fNe, okEq, PyData.plain, PyData.depth, PyData.eqv]
@[simp] theorem fNe_str_self (a : Str) : fNe (.str a) (.str a) = some (.bool false) := by simp [fNe_str]
theorem fRepr_of {k n : Nat} {d : PyData} (h : Sz k n d) (hk : k ≤ 90) (hn : n ≤ 16000000) : fRepr d = some (.str d.shown) := by simp [fRepr, okR_of h hk hn]
@[simp] theorem word_rule : wordOf "NoRule" = some "! rule" := by decide +kernel
@[simp] theorem word_sack : wordOf "NoSack" = some "! sack" := by decide +kernel
@[simp] theorem word_rights : wordOf "NoRights" = some "! rights" := by decide +kernel
@[simp] theorem word_speeds : wordOf "NoSpeeds" = some "! speeds" := by decide +kernel
@[simp] theorem word_water : wordOf "NoWater" = some "! water" := by decide +kernel
@[simp] theorem word_moment : wordOf "NoMoment" = some "! moment" := by decide +kernel
@[simp] theorem word_book : wordOf "NoBook" = some "! book" := by decide +kernel
@[simp] theorem word_number : wordOf "NoNumber" = some "! number" := by decide +kernel
@[simp] theorem word_weights : wordOf "NoWeights" = some "! weights" := by decide +kernel
@[simp] theorem word_houses : wordOf "NoHouses" = some "! houses" := by decide +kernel
@[simp] theorem word_deed : wordOf "NoDeed" = some "! deed" := by decide +kernel
@[simp] theorem word_text : wordOf "NoText" = some "! text" := by decide +kernel
@[simp] theorem word_word : wordOf "NoWord" = some "! word" := by decide +kernel
@[simp] theorem word_much : wordOf "TooMuch" = some "! much" := by decide +kernel
@[simp] theorem word_many : wordOf "TooMany" = some "! many" := by decide +kernel
end Z

namespace Z
open PySem PySem.Spec PyProof.Rows L2
/-- is_whole: 0 thing -/
def b_is_whole : Sm Fl := (sRet (eAnd (eIsa PyData.isInt (eVar 0)) (eNot (eIsa PyData.isBool (eVar 0)))))
def m_is_whole : List Val → Store → Res Val := fnM 1 1 b_is_whole
/-- is_from_to: 0 thing, 1 least, 2 most -/
def b_is_from_to : Sm Fl := (sRet (eAnd (eCall 1 m_is_whole (aCons (eVar 0) aNil)) (eChain fLe fLe (eVar 1) (eVar 0) (eVar 2))))
def m_is_from_to : List Val → Store → Res Val := fnM 3 3 b_is_from_to
/-- are_houses: 0 thing, 1 house, 2 other -/
def b_are_houses : Sm Fl := (sSeq (sIf (tOrM (tNotM (tVal (eIsa PyData.isTuple (eVar 0)))) (tNotM (tVal (eCB fAll (aCons (eFrz (eLc (sOne (eVar 0)) (gN 1) tYesM (eCall 3 m_is_from_to (aCons (eVar 1) (aCons (eC (.int 0)) (aCons (eC (.int 7)) aNil)))) [1])) aNil))))) (sRet (eC (.bool false))) sNext)
  (sRet (eCB fAll (aCons (eFrz (eLc (sZip (aCons (eVar 0) (aCons (eSl (eVar 0) (oS (eC (.int 1))) oN) aNil))) (gTupM 2 (gConsM (gN 1) (gConsM (gN 2) gNilM))) tYesM (e2 fLt (eVar 1) (eVar 2)) [1, 2])) aNil))))
def m_are_houses : List Val → Store → Res Val := fnM 1 3 b_are_houses
/-- is_sack: 0 thing, 1 one -/
def f1_is_sack : Sm Fl := (sIf (tOrM (tNotM (tVal (eIsa PyData.isTuple (eVar 1)))) (tOrM (tVal (e2 fNe (eCG fLen (aCons (eVar 1) aNil)) (eC (.int 2)))) (tNotM (tVal (eCall 3 m_is_from_to (aCons (eG fIx (eVar 1) (eC (.int 1))) (aCons (eC (.int 1)) (aCons (eC (.int 999)) aNil)))))))) (sRet (eC (.bool false))) sNext)
def b_is_sack : Sm Fl := (sSeq (sIf (tOrM (tNotM (tVal (eIsa PyData.isTuple (eVar 0)))) (tNotM (tVal (eChain fLe fLe (eC (.int 1)) (eCG fLen (aCons (eVar 0) aNil)) (eC (.int 4)))))) (sRet (eC (.bool false))) sNext)
  (sSeq (sFor [1] (sOne (eVar 0)) (gN 1) f1_is_sack)
  (sRet (eCall 1 m_are_houses (aCons (eTupOf (eFrz (eLc (sOne (eVar 0)) (gN 1) tYesM (eG fIx (eVar 1) (eC (.int 0))) [1]))) aNil)))))
def m_is_sack : List Val → Store → Res Val := fnM 1 2 b_is_sack
/-- need_sack: 0 thing -/
def b_need_sack : Sm Fl := (sIf (tNotM (tVal (eCall 1 m_is_sack (aCons (eVar 0) aNil)))) (sRaise "NoSack") sNext)
def m_need_sack : List Val → Store → Res Val := fnM 1 1 b_need_sack
/-- grain_in: 0 sack, 1 house, 2 ounces -/
def b_grain_in : Sm Fl := (sRet (eCB fSum (aCons (eFrz (eLc (sOne (eVar 0)) (gTupM 2 (gConsM (gN 1) (gConsM (gN 2) gNilM))) tYesM (eVar 2) [1, 2])) aNil)))
def m_grain_in : List Val → Store → Res Val := fnM 1 3 b_grain_in
/-- grain_of: 0 sack -/
def b_grain_of : Sm Fl := (sSeq (sDrop (eCall 1 m_need_sack (aCons (eVar 0) aNil)))
  (sRet (eCall 1 m_grain_in (aCons (eVar 0) aNil))))
def m_grain_of : List Val → Store → Res Val := fnM 1 1 b_grain_of
/-- is_rule: 0 thing -/
def b_is_rule : Sm Fl := (sSeq (sIf (tOrM (tNotM (tVal (eIsa PyData.isTuple (eVar 0)))) (tOrM (tVal (e2 fNe (eCG fLen (aCons (eVar 0) aNil)) (eC (.int 4)))) (tNotM (tVal (eCall 3 m_is_from_to (aCons (eG fIx (eVar 0) (eC (.int 0))) (aCons (eC (.int 2)) (aCons (eC (.int 100)) aNil)))))))) (sRet (eC (.bool false))) sNext)
  (sRet (eAnd (eCall 3 m_is_from_to (aCons (eG fIx (eVar 0) (eC (.int 1))) (aCons (eC (.int 0)) (aCons (eC (.int 60)) aNil)))) (eAnd (eCall 3 m_is_from_to (aCons (eG fIx (eVar 0) (eC (.int 2))) (aCons (eC (.int 0)) (aCons (eC (.int 20)) aNil)))) (eCall 1 m_are_houses (aCons (eG fIx (eVar 0) (eC (.int 3))) aNil))))))
def m_is_rule : List Val → Store → Res Val := fnM 1 1 b_is_rule
/-- _law_take: 0 _law_box_here, 1 _law_many, 2 _law_high, 3 _law_digit -/
def b_l_take : Sm Fl := (sSeq (sIf (tVal (e2 fGt (eG fIx (eVar 0) (eC (.int 0))) (eC (.int 0)))) (sSeq (sAsg (eCG fDivmod (aCons (eG fIx (eVar 0) (eC (.int 0))) (aCons (eVar 1) aNil))) (gTupM 2 (gConsM (gSubM (eVar 0) (eC (.int 0))) (gConsM (gN 3) gNilM))))
  (sRet (eVar 3))) sNext)
  (sSeq (sAsg (e2 fMod (e2 fAdd (e2 fMulI (eG fIx (eVar 0) (eC (.int 1))) (eC (.int 48271))) (eC (.int 11))) (eC (.int 2147483647))) (gSubM (eVar 0) (eC (.int 1))))
  (sSeq (sAsg (e2 fAdd (e2 fDiv (eG fIx (eVar 0) (eC (.int 1))) (eC (.int 1009))) (eC (.int 1))) (gN 2))
  (sRet (e2 fMod (e2 fDiv (e2 fMod (e2 fMulI (e2 fMulI (eVar 2) (eVar 2)) (eVar 2)) (eC (.int 2147483629))) (eC (.int 61))) (eVar 1))))))
def m_l_take : List Val → Store → Res Val := fnM 2 4 b_l_take
/-- _law_ounces: 0 _law_box_here, 1 _law_most -/
def b_l_ounces : Sm Fl := (sRet (eG fIx (eFrz (lLst (aCons (eC (.int 1)) (aCons (eVar 1) (aCons (e2 fAdd (eC (.int 1)) (eCall 2 m_l_take (aCons (eVar 0) (aCons (eVar 1) aNil)))) (aCons (e2 fAdd (eC (.int 1)) (eCall 2 m_l_take (aCons (eVar 0) (aCons (eC (.int 9)) aNil)))) aNil)))))) (eCall 2 m_l_take (aCons (eVar 0) (aCons (eC (.int 4)) aNil)))))
def m_l_ounces : List Val → Store → Res Val := fnM 2 2 b_l_ounces
/-- _law_sack: 0 _law_box_here, 1 _law_most, 2 _law_pool, 3 _law_some, 4 _law_turn, 5 _law_house -/
def b_l_sack : Sm Fl := (sSeq (sAsg (eLay (lRange (eC (.int 8)))) (gN 2))
  (sSeq (sAsg (eFrz (eLc (sRng1 (aCons (eG fIx (eFrz (lLst (aCons (eC (.int 1)) (aCons (eC (.int 1)) (aCons (eC (.int 2)) (aCons (eC (.int 3)) (aCons (eC (.int 4)) aNil))))))) (eCall 2 m_l_take (aCons (eVar 0) (aCons (eC (.int 5)) aNil)))) aNil)) (gN 4) tYesM (eLm (eVar 2) (aCons (eCall 2 m_l_take (aCons (eVar 0) (aCons (eCG fLen (aCons (eVar 2) aNil)) aNil))) aNil) lmPopAt) [4])) (gN 3))
  (sRet (eTupOf (eFrz (eLc (sOne (eFrz (lSort (eVar 3)))) (gN 5) tYesM (eTup (aCons (eVar 5) (aCons (eCall 2 m_l_ounces (aCons (eVar 0) (aCons (eVar 1) aNil))) aNil))) [5]))))))
def m_l_sack : List Val → Store → Res Val := fnM 2 6 b_l_sack
/-- _law_some_houses: 0 _law_box_here, 1 _law_share, 2 _law_house -/
def b_l_some_houses : Sm Fl := (sRet (eTupOf (eFrz (eLc (sRng1 (aCons (eC (.int 8)) aNil)) (gN 2) (tVal (e2 fEq (eCall 2 m_l_take (aCons (eVar 0) (aCons (eVar 1) aNil))) (eC (.int 0)))) (eVar 2) [2]))))
def m_l_some_houses : List Val → Store → Res Val := fnM 2 3 b_l_some_houses
/-- _law_rule: 0 _law_box_here, 1 _law_per, 2 _law_bran, 3 _law_dust -/
def b_l_rule : Sm Fl := (sSeq (sAsg (eG fIx (eFrz (lLst (aCons (eC (.int 2)) (aCons (eC (.int 3)) (aCons (eC (.int 16)) (aCons (eC (.int 100)) (aCons (e2 fAdd (eC (.int 2)) (eCall 2 m_l_take (aCons (eVar 0) (aCons (eC (.int 99)) aNil)))) aNil))))))) (eCall 2 m_l_take (aCons (eVar 0) (aCons (eC (.int 5)) aNil)))) (gN 1))
  (sSeq (sPar 2 3 (aCons (eG fIx (eFrz (lLst (aCons (eC (.int 0)) (aCons (eC (.int 60)) (aCons (eCall 2 m_l_take (aCons (eVar 0) (aCons (eC (.int 61)) aNil))) aNil))))) (eCall 2 m_l_take (aCons (eVar 0) (aCons (eC (.int 3)) aNil)))) (aCons (eG fIx (eFrz (lLst (aCons (eC (.int 0)) (aCons (eC (.int 20)) (aCons (eCall 2 m_l_take (aCons (eVar 0) (aCons (eC (.int 21)) aNil))) aNil))))) (eCall 2 m_l_take (aCons (eVar 0) (aCons (eC (.int 3)) aNil)))) aNil)))
  (sRet (eTup (aCons (eVar 1) (aCons (eVar 2) (aCons (eVar 3) (aCons (eCall 2 m_l_some_houses (aCons (eVar 0) (aCons (e2 fAdd (eC (.int 2)) (eCall 2 m_l_take (aCons (eVar 0) (aCons (eC (.int 6)) aNil)))) aNil))) aNil))))))))
def m_l_rule : List Val → Store → Res Val := fnM 1 4 b_l_rule
/-- _law_box: 0 _law_script, 1 _law_k, 2 _law_cell -/
def b_l_box : Sm Fl := (sSeq (sAsg (e2 fAdd (e2 fMulI (eC (.int 6151)) (eVar 1)) (eC (.int 29))) (gN 2))
  (sSeq (sIf (tVal (e2 fLt (eVar 1) (eCG fLen (aCons (eVar 0) aNil)))) (sAsg (eG fIx (eVar 0) (eVar 1)) (gN 2)) sNext)
  (sSeq (sIf (tVal (e2 fEq (e2 fMod (eVar 2) (eC (.int 2))) (eC (.int 0)))) (sRet (eLay (lLst (aCons (e2 fDiv (eCB fAbs (aCons (eVar 2) aNil)) (eC (.int 2))) (aCons (e2 fAdd (e2 fAdd (e2 fMod (eVar 2) (eC (.int 1000003))) (e2 fMulI (eC (.int 7919)) (eVar 1))) (eC (.int 1))) aNil))))) sNext)
  (sRet (eLay (lLst (aCons (eC (.int 0)) (aCons (e2 fAdd (e2 fAdd (e2 fMod (eVar 2) (eC (.int 2147483563))) (e2 fMulI (eC (.int 7919)) (eVar 1))) (eC (.int 1))) aNil))))))))
def m_l_box : List Val → Store → Res Val := fnM 2 3 b_l_box
/-- giving: 0 rule, 1 sack, 2 house, 3 ounces -/
def b_giving : Sm Fl := (sRet (eFrz (eLc (sOne (eVar 1)) (gTupM 2 (gConsM (gN 2) (gConsM (gN 3) gNilM))) tYesM (eIf (tVal (e2 fIn (eVar 2) (eG fIx (eVar 0) (eC (.int 3))))) (eC (.int 0)) (eVar 3)) [2, 3])))
def m_giving : List Val → Store → Res Val := fnM 2 4 b_giving
/-- dish_in: 0 rule, 1 sack -/
def b_dish_in : Sm Fl := (sRet (e2 fDiv (eCB fSum (aCons (eCall 2 m_giving (aCons (eVar 0) (aCons (eVar 1) aNil))) aNil)) (eG fIx (eVar 0) (eC (.int 0)))))
def m_dish_in : List Val → Store → Res Val := fnM 2 2 b_dish_in
/-- parts_in: 0 rule, 1 sack, 2 dish, 3 left, 4 bran, 5 dust -/
def b_parts_in : Sm Fl := (sSeq (sAsg (eCall 2 m_dish_in (aCons (eVar 0) (aCons (eVar 1) aNil))) (gN 2))
  (sSeq (sAsg (e2 fSub (eCall 1 m_grain_in (aCons (eVar 1) aNil)) (eVar 2)) (gN 3))
  (sSeq (sPar 4 5 (aCons (e2 fDiv (e2 fMulI (eVar 3) (eG fIx (eVar 0) (eC (.int 1)))) (eC (.int 100))) (aCons (e2 fDiv (e2 fMulI (eVar 3) (eG fIx (eVar 0) (eC (.int 2)))) (eC (.int 100))) aNil)))
  (sRet (eTup (aCons (eVar 2) (aCons (eVar 4) (aCons (eVar 5) (aCons (e2 fSub (e2 fSub (eVar 3) (eVar 4)) (eVar 5)) aNil)))))))))
def m_parts_in : List Val → Store → Res Val := fnM 2 6 b_parts_in
/-- need_rule: 0 thing -/
def b_need_rule : Sm Fl := (sIf (tNotM (tVal (eCall 1 m_is_rule (aCons (eVar 0) aNil)))) (sRaise "NoRule") sNext)
def m_need_rule : List Val → Store → Res Val := fnM 1 1 b_need_rule
end Z

/-! Plain part 2: numbers, draws, odd things. -/
namespace Z
open PySem PySem.Spec PyProof.Rows L2
def isWhole (x : PyData) : Bool := x.isInt && !x.isBool
theorem is_whole_eq (x : PyData) (M : Store) : m_is_whole [.d x] M = .ok (.d (.bool (isWhole x))) M := by
  simp [m_is_whole, b_is_whole, isWhole]
  cases x.isInt <;> simp
def fromTo (x : PyData) (lo hi : Int) : Bool := match x with
  | .int i => decide (lo ≤ i) && decide (i ≤ hi)
  | _ => false
theorem is_from_to_eq (x : PyData) (lo hi : Int) (M : Store) : m_is_from_to [.d x, .d (.int lo), .d (.int hi)] M = .ok (.d (.bool (fromTo x lo hi))) M := by
  simp [m_is_from_to, b_is_from_to, is_whole_eq]
  cases x <;> simp [isWhole, PyData.isInt, PyData.isBool, fromTo]
  split <;> simp [*]
theorem fromTo_int {x : PyData} {lo hi : Int} (h : fromTo x lo hi = true) : ∃ i, x = .int i ∧ lo ≤ i ∧ i ≤ hi := by
  cases x <;> simp [fromTo] at h
  exact ⟨_, rfl, h.1, h.2⟩
def BoxAt (M : Store) (n : Nat) : Prop := ∃ a b, M[n]? = some (.lst [.d (.int a), .d (.int b)]) ∧ 0 ≤ a
structure BStep (n : Nat) (M M' : Store) : Prop where
  box : BoxAt M' n
  len : M.length ≤ M'.length
  oth : ∀ j, j < M.length → j ≠ n → M'[j]? = M[j]?
theorem BStep.refl {n : Nat} {M : Store} (h : BoxAt M n) : BStep n M M := ⟨h, Nat.le_refl _, fun _ _ _ => rfl⟩
theorem BStep.trans {n : Nat} {M M1 M2 : Store} (a : BStep n M M1) (b : BStep n M1 M2) : BStep n M M2 := ⟨b.box, Nat.le_trans a.len b.len, fun j h e => by rw [b.oth j (Nat.lt_of_lt_of_le h a.len) e, a.oth j h e]⟩
theorem BStep.set {n : Nat} {M : Store} (h : BoxAt M n) (a b : Int) (ha : 0 ≤ a) : BStep n M (M.set n (.lst [.d (.int a), .d (.int b)])) := by
  obtain ⟨x, y, hx, _⟩ := h
  have hl := (List.getElem?_eq_some_iff.mp hx).1
  exact ⟨⟨a, b, List.getElem?_set_self hl, ha⟩, by simp, fun j _ hj => List.getElem?_set_ne (Ne.symm hj)⟩
/-- a step by another node, or a new one -/
theorem BStep.new {n : Nat} {M : Store} (h : BoxAt M n) (x : Node) : BStep n M (M ++ [x]) := by
  obtain ⟨a, b, hx, ha⟩ := h
  have hl := (List.getElem?_eq_some_iff.mp hx).1
  exact ⟨⟨a, b, by rw [List.getElem?_append_left hl]; exact hx, ha⟩, by simp, fun j hj _ => List.getElem?_append_left hj⟩
theorem BStep.at {n : Nat} {M M' : Store} {j : Nat} {x : Node} (s : BStep n M M') (hj : M[j]? = some x) (e : j ≠ n) : M'[j]? = some x := by
  rw [s.oth j (List.getElem?_eq_some_iff.mp hj).1 e]; exact hj
/-- a node laid within the step is changed -/
theorem BStep.upd {n : Nat} {M M' : Store} {j : Nat} (s : BStep n M M') (h : M.length ≤ j) (e : j ≠ n) (x : Node) : BStep n M (M'.set j x) := by
  obtain ⟨a, b, hx, ha⟩ := s.box
  exact ⟨⟨a, b, by rw [List.getElem?_set_ne e]; exact hx, ha⟩, by rw [List.length_set]; exact s.len, fun i hi hn => by rw [List.getElem?_set_ne (by omega)]; exact s.oth i hi hn⟩
theorem BoxAt.lt {n : Nat} {M : Store} (h : BoxAt M n) : n < M.length := by
  obtain ⟨a, b, hx, _⟩ := h
  exact (List.getElem?_eq_some_iff.mp hx).1
theorem take_eq {M : Store} {n : Nat} {k : Int} (h : BoxAt M n) (hk : 0 < k) (hk2 : k < 1073741824) : ∃ d M', m_l_take [.ref n, .d (.int k)] M = .ok (.d (.int d)) M' ∧ 0 ≤ d ∧ d < k ∧ BStep n M M' := by
  obtain ⟨a, b, hx, ha⟩ := id h
  have hl := (List.getElem?_eq_some_iff.mp hx).1
  by_cases h0 : 0 < a
  · refine ⟨a % k, _, ?_, Int.emod_nonneg _ (by omega), Int.emod_lt_of_pos _ hk, BStep.set h (a / k) b (Int.ediv_nonneg ha (by omega))⟩
    simp [m_l_take, b_l_take, ixV, hx, atI, ixN, h0, fDivmod_int a M hk hk2]
  · have hd : 0 ≤ ((b * 48271 + 11) % 2147483647 / 1009 + 1) ∧ ((b * 48271 + 11) % 2147483647 / 1009 + 1) < 2147483647 := by
      have := Int.emod_nonneg (b * 48271 + 11) (b := 2147483647) (by omega)
      have := Int.emod_lt_of_pos (b * 48271 + 11) (b := 2147483647) (by omega)
      omega
    generalize hu : ((b * 48271 + 11) % 2147483647 / 1009 + 1) = u at hd
    refine ⟨u * u * u % 2147483629 / 61 % k, _, ?_, Int.emod_nonneg _ (by omega), Int.emod_lt_of_pos _ hk, BStep.set h a ((b * 48271 + 11) % 2147483647) ha⟩
    have hs : ∀ x, (M.set n x)[n]? = some x := fun x => List.getElem?_set_self hl
    simp [m_l_take, b_l_take, ixV, hx, atI, ixN, h0, fMul_r b (j := 48271) (by decide) (by decide), fMod_int _ (j := 2147483647) (by decide), fDiv_int _ (j := 1009) (by decide) (by decide), hs, hu,
      fMul_r u (j := u) (by omega) (by omega), fMul_r (u * u) (j := u) (by omega) (by omega), fMod_int _ (j := 2147483629) (by decide), fDiv_int _ (j := 61) (by decide) (by decide), fMod_int _ hk]
def boxOf (c k : Int) : Int × Int := if c % 2 = 0 then ((if c < 0 then -c else c) / 2, c % 1000003 + 7919 * k + 1) else (0, c % 2147483563 + 7919 * k + 1)
theorem boxOf_pos (c k : Int) : 0 ≤ (boxOf c k).1 := by
  unfold boxOf
  split
  · dsimp only; split <;> omega
  · exact Int.le_refl _
theorem box_eq (ns : List Int) (k : Nat) (M : Store) : ∃ c : Int, m_l_box [.scr ns, .d (.int k)] M = .ok (.ref M.length) (M ++ [.lst [.d (.int (boxOf c k).1), .d (.int (boxOf c k).2)]]) := by
  by_cases hk : (k : Int) < ns.length
  · have hk' : k < ns.length := by omega
    refine ⟨ns[k], ?_⟩
    simp [m_l_box, b_l_box, fLen, ixV, atI_nat ns k hk', hk, fMul_l (i := 6151) k (by decide) (by decide), fMul_l (i := 7919) k (by decide) (by decide), fMod_int _ (j := 2) (by decide), fAbs,
      fDiv_int _ (j := 2) (by decide) (by decide), fMod_int _ (j := 1000003) (by decide), fMod_int _ (j := 2147483563) (by decide), boxOf]
    split <;> simp
  · refine ⟨6151 * k + 29, ?_⟩
    simp [m_l_box, b_l_box, fLen, hk, fMul_l (i := 6151) k (by decide) (by decide), fMul_l (i := 7919) k (by decide) (by decide), fMod_int _ (j := 2) (by decide), fAbs,
      fDiv_int _ (j := 2) (by decide) (by decide), fMod_int _ (j := 1000003) (by decide), fMod_int _ (j := 2147483563) (by decide), boxOf]
    split <;> simp
theorem box_at (ns : List Int) (k : Nat) (M : Store) : ∃ M', m_l_box [.scr ns, .d (.int k)] M = .ok (.ref M.length) M' ∧ BoxAt M' M.length := by
  obtain ⟨c, h⟩ := box_eq ns k M
  exact ⟨_, h, (boxOf c k).1, (boxOf c k).2, by simp, boxOf_pos c k⟩
/-- the law's cells -/
theorem cells_rng (ns : List Int) (c : Int) (hc : c ≤ 4) (ρ : Rho) (M : Store) (h0 : ρ[0]? = some (some (.sh (.scr ns)))) :
    ∃ n : Nat, sRng1 (aCons (eCB fMax2 (aCons (eC (.int 1)) (aCons (eCB fMin2 (aCons (eCG fLen (aCons (eVar 0) aNil)) (aCons (eC (.int c)) aNil))) aNil))) aNil) ρ M = .ok (.rng 0 1 n) M := by
  obtain ⟨j, hj, h1, h2⟩ : ∃ j : Int, (if (if c < (ns.length : Int) then c else (ns.length : Int)) > 1 then (if c < (ns.length : Int) then c else (ns.length : Int)) else 1) = j ∧ 1 ≤ j ∧ j ≤ 4 :=
    ⟨_, rfl, by split <;> omega, by split <;> (try split) <;> omega⟩
  have hr : inR j = true := by simp [inR]; omega
  have e : (aCons (eCB fMax2 (aCons (eC (.int 1)) (aCons (eCB fMin2 (aCons (eCG fLen (aCons (eVar 0) aNil)) (aCons (eC (.int c)) aNil))) aNil))) aNil) ρ M = .ok [.d (.int j)] M := by
    rw [← hj]
    simp [h0, fLen, fMin2, fMax2]
  refine ⟨j.toNat, ?_⟩
  rw [sRng1_eq, e, bind_ok]
  show (if inR j = true then Res.ok (Src.rng 0 1 j.toNat) M else .stuck) = _
  rw [if_pos hr]
structure WOk (ws : List Int) : Prop where
  lo : 1 ≤ ws.length
  hi : ws.length ≤ 10
  all : ∀ h ∈ ws, 0 ≤ h ∧ h ≤ 12
theorem ints_of_fromTo {lo hi : Int} : ∀ {ds : List PyData}, (ds.all fun d => fromTo d lo hi) = true → ∃ ns : List Int, ds = ns.map PyData.int ∧ ∀ n ∈ ns, lo ≤ n ∧ n ≤ hi
  | [], _ => ⟨[], rfl, by simp⟩
  | d :: ds, h => by
    simp only [List.all_cons, Bool.and_eq_true] at h
    obtain ⟨i, rfl, h1, h2⟩ := fromTo_int h.1
    obtain ⟨ns, rfl, h3⟩ := ints_of_fromTo h.2
    exact ⟨i :: ns, rfl, fun n hn => by
      rcases List.mem_cons.mp hn with rfl | hn
      · exact ⟨h1, h2⟩
      · exact h3 n hn⟩
theorem four (a b c d : Int) (i : Int) (h0 : 0 ≤ i) (h4 : i < 4) : ∃ x, atI ([.int a, .int b, .int c, .int d] : List PyData) i = some (.int x) ∧ (x = a ∨ x = b ∨ x = c ∨ x = d) := by
  rw [atI_int _ _ h0 (by simpa using h4)]
  have : i = 0 ∨ i = 1 ∨ i = 2 ∨ i = 3 := by omega
  rcases this with rfl | rfl | rfl | rfl <;> simp
theorem WOk.set {ws : List Int} (w : WOk ws) (d : Nat) {h : Int} (h0 : 0 ≤ h) (h1 : h ≤ 12) : WOk (ws.set d h) :=
  ⟨by simp; exact w.lo, by simp; exact w.hi, fun x hx => by
    rcases List.mem_or_eq_of_mem_set hx with hx | rfl
    · exact w.all x hx
    · exact ⟨h0, h1⟩⟩
theorem cut_to {α : Type} (xs : List α) {d : Int} (h0 : 0 ≤ d) : cut xs none (some d) = xs.take d.toNat := by
  unfold cut HT.sIx
  have : ¬ d < 0 := by omega
  simp [this]
theorem cut_from {α : Type} (xs : List α) {d : Int} (h0 : 0 ≤ d) : cut xs (some d) none = xs.drop d.toNat := by
  unfold cut HT.sIx
  have : ¬ d < 0 := by omega
  simp [this]
  by_cases h : d.toNat ≤ xs.length
  · rw [Nat.min_eq_left h, List.take_of_length_le (by simp)]
  · have h' : xs.length ≤ d.toNat := by omega
    rw [Nat.min_eq_right h', List.drop_eq_nil_of_le (by omega), List.drop_eq_nil_of_le h']; simp
end Z

/-! Plain part 3: things spoilt. -/
namespace Z
open PySem PySem.Spec PyProof.Rows L2
def Atom (x : PyData) : Prop := (∃ i : Int, x = .int i ∧ -1099511627776 ≤ i ∧ i ≤ 1099511627776) ∨ x = .none
def Nice : List Nat → PyData → Prop
  | [], x => Atom x
  | l :: ls, x => Nice ls x ∨ ∃ xs, x = .tuple xs ∧ xs.length ≤ l ∧ ∀ y ∈ xs, Nice ls y
def niceN : List Nat → Nat
  | [] => 700
  | l :: ls => (l + 1) * (niceN ls + 2) + 3
theorem Atom.sz {x : PyData} (h : Atom x) : Sz 0 700 x := by
  rcases h with ⟨i, rfl, h1, h2⟩ | rfl
  · exact Sz.int (by omega) (by omega) (by omega)
  · exact ⟨rfl, Nat.le_refl _, by simp [wt], by simp [wd]⟩
theorem Atom.plain {x : PyData} (h : Atom x) : x.plain = true := by
  rcases h with ⟨i, rfl, h1, h2⟩ | rfl <;> rfl
theorem plainAll_of {xs : List PyData} (h : ∀ x ∈ xs, x.plain = true) : PyData.plainAll xs = true := by
  induction xs with
  | nil => rfl
  | cons x xs ih => simp [PyData.plainAll, h x (by simp), ih fun y hy => h y (by simp [hy])]
theorem Nice.plain : ∀ {ls : List Nat} {x : PyData}, Nice ls x → x.plain = true
  | [], _, h => Atom.plain h
  | l :: ls, x, h => by
    rcases h with h | ⟨xs, rfl, h1, h2⟩
    · exact h.plain
    · simpa [PyData.plain] using plainAll_of fun y hy => (h2 y hy).plain
theorem tup_sz {k n l : Nat} {xs : List PyData} (hl : xs.length ≤ l) (h : ∀ x ∈ xs, Sz k n x) (h59 : l ≤ 59 := by omega) : Sz (k + 1) (l * (n + 2) + 3) (.tuple xs) :=
  (Sz.tuple (by omega) h).mono (Nat.le_refl _) (by have := Nat.mul_le_mul_right (n + 2) hl; omega)
theorem Nice.sz : ∀ {ls : List Nat} {x : PyData}, (∀ l ∈ ls, l ≤ 58) → Nice ls x → Sz ls.length (niceN ls) x
  | [], _, _, h => Atom.sz h
  | l :: ls, x, hl, h => by
    have hl0 := hl l (by simp)
    have hl1 : ∀ l ∈ ls, l ≤ 58 := fun l h => hl l (by simp [h])
    rcases h with h | ⟨xs, rfl, h1, h2⟩
    · exact (h.sz hl1).mono (by simp) (by
        simp only [niceN]
        have : 1 * (niceN ls + 2) ≤ (l + 1) * (niceN ls + 2) := Nat.mul_le_mul_right _ (by omega)
        omega)
    · exact (tup_sz (l := l + 1) (by omega) (fun y hy => (h2 y hy).sz hl1)).mono (Nat.le_refl _) (Nat.le_refl _)
end Z

/-! Plain part 4: moments of water. -/
namespace Z
open PySem PySem.Spec PyProof.Rows L2
def pr (p : Int × Int) : PyData := .tuple [.int p.1, .int p.2]
def ltp (a b : Int × Int) : Bool := decide (a.1 < b.1 ∨ (a.1 = b.1 ∧ a.2 < b.2))
@[simp] theorem okLt_pr (a b : Int × Int) : okLt (pr a) (pr b) = true := by simp [okLt, pr, PySem.W.alike, PySem.W.alikeAll, isNone, PyData.depth, PyData.depthAll]
@[simp] theorem fLt_pr (a b : Int × Int) : fLt (pr a) (pr b) = some (.bool (ltp a b)) := by
  simp only [fLt, okLt_pr, if_true]
  simp [pr, PySem.W.dataLt_ii, ltp]
theorem dl_pr (a b : Int × Int) : PySem.W.dataLt (pr a) (pr b) = ltp a b := by simp [pr, PySem.W.dataLt_ii, ltp]
end Z

/-! Plain part 5: loops whose living slots stay. -/
namespace Z
open PySem PySem.Spec PyProof.Rows L2
end Z

/-! Plain part 6: houses, sacks, rules. -/
namespace Z
open PySem PySem.Spec PyProof.Rows L2
theorem forM_ret0 {src : Src} {xs : List Val} (hs : src.items = some xs) {tg : Tg} {b : Sm Fl} {v : Val} {M : Store} (I : Rho → Prop) (p : Val → Bool)
    (step : ∀ x, x ∈ xs → ∀ ρ, I ρ → ∃ ρ1, tg x ρ M = .ok ρ1 M ∧ (p x = true → ∃ ρ2, b ρ1 M = .ok (.nx ρ2) M ∧ I ρ2) ∧ (p x = false → b ρ1 M = .ok (.rt v) M)) :
    ∀ (k i : Nat) (ρ : Rho), i + k = xs.length → I ρ → ((xs.drop i).all p = true → ∃ ρ', forM src tg b k i ρ M = .ok (.nx ρ') M ∧ I ρ') ∧ ((xs.drop i).all p = false → forM src tg b k i ρ M = .ok (.rt v) M)
  | 0, i, ρ, h, hI => by
    have e : i = xs.length := by omega
    subst e
    have hat := (at_items hs M).2 xs.length (Nat.le_refl _)
    refine ⟨fun _ => ⟨ρ, by simp [forM, hat], hI⟩, fun h => by simp at h⟩
  | k + 1, i, ρ, h, hI => by
    have hi : i < xs.length := by omega
    have hat := (at_items hs M).2 i (by omega)
    rw [List.getElem?_eq_getElem hi] at hat
    obtain ⟨ρ1, h1, h2, h3⟩ := step xs[i] (List.getElem_mem hi) ρ hI
    rw [List.drop_eq_getElem_cons hi, List.all_cons]
    cases hp : p xs[i] with
    | true =>
      obtain ⟨ρ2, e2, hI2⟩ := h2 hp
      have := forM_ret0 hs I p step k (i + 1) ρ2 (by omega) hI2
      simp only [Bool.true_and]
      refine ⟨fun ha => ?_, fun ha => ?_⟩
      · obtain ⟨ρ', e, j⟩ := this.1 ha
        exact ⟨ρ', by simp [forM, hat, h1, e2, e], j⟩
      · simp [forM, hat, h1, e2, this.2 ha]
    | false =>
      simp only [Bool.false_and]
      exact ⟨fun ha => (nomatch ha), fun _ => by simp [forM, hat, h1, h3 hp]⟩
theorem forM_ret {src : Src} {xs : List Val} (hs : src.items = some xs) {tg : Tg} {b : Sm Fl} {v : Val} {M : Store} {ρ : Rho} (I : Rho → Prop) (p : Val → Bool) (hI : I ρ)
    (step : ∀ x, x ∈ xs → ∀ ρ, I ρ → ∃ ρ1, tg x ρ M = .ok ρ1 M ∧ (p x = true → ∃ ρ2, b ρ1 M = .ok (.nx ρ2) M ∧ I ρ2) ∧ (p x = false → b ρ1 M = .ok (.rt v) M)) :
    (xs.all p = true → ∃ ρ', forM src tg b (src.len M) 0 ρ M = .ok (.nx ρ') M ∧ I ρ') ∧ (xs.all p = false → forM src tg b (src.len M) 0 ρ M = .ok (.rt v) M) := by
  rw [(at_items hs M).1]
  have := forM_ret0 hs (tg := tg) (b := b) (v := v) I p step xs.length 0 ρ (by omega) hI
  simpa using this
/-! houses -/
def intOf (x : PyData) : Int := match x with
  | .int i => i
  | _ => 0
def isHouses (x : PyData) : Bool := match x with
  | .tuple ds => (ds.all fun d => fromTo d 0 7) && decide ((ds.map intOf).Pairwise (· < ·))
  | _ => false
theorem intOf_map (ns : List Int) : (ns.map PyData.int).map intOf = ns := by
  rw [List.map_map]; exact List.map_id ns
theorem pw_zip : ∀ ns : List Int, ((ns.zip ns.tail).all fun p => decide (p.1 < p.2)) = decide (ns.Pairwise (· < ·))
  | [] => by simp
  | [a] => by simp
  | a :: b :: r => by
    have ih := pw_zip (b :: r)
    simp only [List.tail_cons] at ih
    simp only [List.tail_cons, List.zip_cons_cons, List.all_cons, ih]
    rw [← Bool.decide_and, decide_eq_decide]
    constructor
    · rintro ⟨h1, h2⟩
      refine List.pairwise_cons.mpr ⟨fun c hc => ?_, h2⟩
      rcases List.mem_cons.mp hc with rfl | hc
      · exact h1
      · have := (List.pairwise_cons.mp h2).1 c hc; omega
    · intro h
      have h' := List.pairwise_cons.mp h
      exact ⟨h'.1 b (by simp), h'.2⟩
theorem zip_items (xs ys : List PyData) : (Src.zip false false (.d (.tuple xs)) (.d (.tuple ys))).items = some (((xs.zip ys).map fun p => PyData.tuple [p.1, p.2]).map Val.d) := by
  simp [Src.items, itemsK, Function.comp_def]
theorem zip_ints (ns ms : List Int) : ((ns.map PyData.int).zip (ms.map PyData.int)) = (ns.zip ms).map fun p => (PyData.int p.1, PyData.int p.2) := by
  rw [List.zip_map]; rfl
def ltD (x : PyData) : PyData := match x with
  | .tuple [.int a, .int b] => .bool (decide (a < b))
  | _ => .none
theorem are_houses_eq (x : PyData) (M : Store) (hx : ∀ ds, x = .tuple ds → ds.length ≤ 1000) : m_are_houses [.d x] M = .ok (.d (.bool (isHouses x))) M := by
  cases x with
  | tuple ds =>
    have hl := hx ds rfl
    have h1 := lcM_map (items_t ds) (tg := gN 1) (te := eCall 3 m_is_from_to (aCons (eVar 1) (aCons (eC (.int 0)) (aCons (eC (.int 7)) aNil)))) (ρ := [some (.sh (.d (.tuple ds))), none, none]) (M := M) (fun d => .bool (fromTo d 0 7)) (by omega) (fun d _ => ⟨_, rfl, by simp [is_from_to_eq]⟩)
    by_cases ha : (ds.all fun d => fromTo d 0 7) = true
    · obtain ⟨ns, rfl, hr⟩ := ints_of_fromTo ha
      have hsl : fSl (some 1) none (.tuple (ns.map PyData.int)) = some (.tuple (ns.tail.map PyData.int)) := by
        simp [fSl, cut_from _ (d := 1) (by omega)]
      have h2 := lcM_map (zip_items (ns.map PyData.int) (ns.tail.map PyData.int)) (tg := gTupM 2 (gConsM (gN 1) (gConsM (gN 2) gNilM))) (te := e2 fLt (eVar 1) (eVar 2)) (ρ := [some (.sh (.d (.tuple (ns.map PyData.int)))), none, none]) (M := M) ltD (by simp at hl ⊢; omega) (fun d hd => by
        rw [zip_ints] at hd
        simp only [List.mem_map] at hd
        obtain ⟨_, ⟨p, _, rfl⟩, rfl⟩ := hd
        exact ⟨[some (.sh (.d (.tuple (ns.map PyData.int)))), some (.sh (.d (.int p.1))), some (.sh (.d (.int p.2)))], by simp, by simp [ltD]⟩)
      have h3 : boolsD (((((ns.map PyData.int).zip (ns.tail.map PyData.int)).map fun p => PyData.tuple [p.1, p.2]).map ltD)) = some ((ns.zip ns.tail).map fun p => decide (p.1 < p.2)) := by
        rw [zip_ints, List.map_map, List.map_map]
        have : (ltD ∘ (fun p : PyData × PyData => PyData.tuple [p.1, p.2])) ∘ (fun p : Int × Int => (PyData.int p.1, PyData.int p.2)) = fun p => .bool (decide (p.1 < p.2)) := rfl
        have e2 : ((fun p : PyData × PyData => PyData.tuple [p.1, p.2]) ∘ fun p : Int × Int => (PyData.int p.1, PyData.int p.2)) = fun p : Int × Int => PyData.tuple [.int p.1, .int p.2] := rfl
        simp [List.map_map, Function.comp_def, ltD]
      have h4 : ((ns.zip ns.tail).map fun p => decide (p.1 < p.2)).all id = decide (ns.Pairwise (· < ·)) := by
        rw [List.all_map, ← pw_zip]; rfl
      have hI : isHouses (.tuple (ns.map PyData.int)) = decide (ns.Pairwise (· < ·)) := by
        simp only [isHouses, ha, Bool.true_and, intOf_map]
      rw [hI]
      generalize hN : ns.map PyData.int = L at *
      generalize hT : ns.tail.map PyData.int = T at *
      have hk1 : kindV M (.d (.tuple L)) = some false := rfl
      have hk2 : kindV M (.d (.tuple T)) = some false := rfl
      have h0 : (L.map fun d => fromTo d 0 7).all id = true := by rw [List.all_map]; exact ha
      simp [m_are_houses, b_are_houses, PyData.isTuple, hk1, hk2, h1, h2, hsl, fAll, Function.comp_def] at h0 h3 h4 ⊢
      have h0' : ∀ x ∈ L, fromTo x 0 7 = true := h0
      simp [h3]
      have hz := pw_zip ns
      rw [if_neg (by rintro ⟨x, hx, h⟩; rw [h0 x hx] at h; cases h), hz]
    · have ha' : (ds.all fun d => fromTo d 0 7) = false := by simpa using ha
      have hI : isHouses (.tuple ds) = false := by simp only [isHouses, ha', Bool.false_and]
      rw [hI]
      have h0 : (ds.map fun d => fromTo d 0 7).all id = false := by rw [List.all_map]; exact ha'
      have hk1 : kindV M (.d (.tuple ds)) = some false := rfl
      simp [m_are_houses, b_are_houses, PyData.isTuple, hk1, h1, fAll, Function.comp_def]
      intro h; exfalso
      rw [List.all_eq_true.mpr h] at ha'
      cases ha'
  | _ => simp [m_are_houses, b_are_houses, isHouses, PyData.isTuple]
theorem intsD_map (ns : List Int) : intsD (ns.map PyData.int) = some ns := by
  induction ns with
  | nil => rfl
  | cons n r ih => simp [intsD, ih]
/-! rules -/
def isRule (x : PyData) : Bool := match x with
  | .tuple [a, b, c, d] => fromTo a 2 100 && fromTo b 0 60 && fromTo c 0 20 && isHouses d
  | _ => false
theorem is_rule_eq (x : PyData) (M : Store) (hx : ∀ ds, x = .tuple ds → ∀ d ∈ ds, ∀ es, d = .tuple es → es.length ≤ 1000) : m_is_rule [.d x] M = .ok (.d (.bool (isRule x))) M := by
  cases x with
  | tuple ds =>
    match ds with
    | [] => simp [m_is_rule, b_is_rule, isRule, PyData.isTuple, fLen]
    | [a] => simp [m_is_rule, b_is_rule, isRule, PyData.isTuple, fLen]
    | [a, b] => simp [m_is_rule, b_is_rule, isRule, PyData.isTuple, fLen]
    | [a, b, c] => simp [m_is_rule, b_is_rule, isRule, PyData.isTuple, fLen]
    | [a, b, c, d] =>
      have hd := are_houses_eq d M (hx _ rfl d (by simp))
      simp [m_is_rule, b_is_rule, isRule, PyData.isTuple, fLen, ixV, atI, ixN, is_from_to_eq]
      cases fromTo a 2 100 <;> cases h2 : fromTo b 0 60 <;> cases h3 : fromTo c 0 20 <;> simp [is_from_to_eq, h2, h3, hd]
    | a :: b :: c :: d :: e :: r =>
      have : ¬ ((r.length : Int) + 1 + 1 + 1 + 1 + 1 = 4) := by omega
      simp [m_is_rule, b_is_rule, isRule, PyData.isTuple, fLen, this]
  | _ => simp [m_is_rule, b_is_rule, isRule, PyData.isTuple]
/-! sacks -/
def oneOk (d : PyData) : Bool := match d with
  | .tuple [_, b] => fromTo b 1 999
  | _ => false
def fstD (d : PyData) : PyData := match d with
  | .tuple (a :: _) => a
  | _ => .none
def isSack (x : PyData) : Bool := match x with
  | .tuple ds => decide (1 ≤ ds.length) && decide (ds.length ≤ 4) && ds.all oneOk && isHouses (.tuple (ds.map fstD))
  | _ => false
theorem oneOk_two {d : PyData} (h : oneOk d = true) : ∃ a b, d = .tuple [a, .int b] ∧ 1 ≤ b ∧ b ≤ 999 := by
  unfold oneOk at h
  split at h
  · obtain ⟨b, rfl, h1, h2⟩ := fromTo_int h; exact ⟨_, b, rfl, h1, h2⟩
  · cases h
def onV (v : Val) : Bool := match v with
  | .d d => oneOk d
  | _ => false
theorem is_sack_eq (x : PyData) (M : Store) : m_is_sack [.d x] M = .ok (.d (.bool (isSack x))) M := by
  cases x with
  | tuple ds =>
    by_cases h1 : 1 ≤ ds.length
    · by_cases h2 : ds.length ≤ 4
      · have h1' : (1 : Int) ≤ ds.length := by omega
        have h3 : ¬ (4 : Int) < ds.length := by omega
        have hfor := forM_ret (items_t ds) (tg := gN 1) (b := sKill [1] f1_is_sack) (v := .d (.bool false)) (M := M) (ρ := [some (.sh (.d (.tuple ds))), none]) (fun ρ => ∃ s, ρ = [some (.sh (.d (.tuple ds))), s]) onV ⟨_, rfl⟩ (by
          rintro x hx ρ ⟨s, rfl⟩
          obtain ⟨d, _, rfl⟩ := List.mem_map.mp hx
          refine ⟨[some (.sh (.d (.tuple ds))), some (.sh (.d d))], rfl, fun h => ?_, fun h => ?_⟩
          · obtain ⟨a, b, rfl, b1, b2⟩ := oneOk_two h
            exact ⟨_, by simp [f1_is_sack, PyData.isTuple, fLen, ixV, atI, ixN, is_from_to_eq, fromTo, b1, b2]; rfl, _, rfl⟩
          · have h : oneOk d = false := h
            cases d with
            | tuple es =>
              match es with
              | [] => simp [f1_is_sack, PyData.isTuple, fLen]
              | [a] => simp [f1_is_sack, PyData.isTuple, fLen]
              | [a, b] =>
                have h : fromTo b 1 999 = false := h
                simp [f1_is_sack, PyData.isTuple, fLen, ixV, atI, ixN, is_from_to_eq, h]
              | a :: b :: c :: r =>
                have : ¬ ((r.length : Int) + 1 + 1 + 1 = 2) := by omega
                simp [f1_is_sack, PyData.isTuple, fLen, this]
            | _ => simp [f1_is_sack, PyData.isTuple])
        have hal : (ds.map Val.d).all onV = ds.all oneOk := by rw [List.all_map]; rfl
        rw [hal] at hfor
        have hk1 : kindV M (.d (.tuple ds)) = some false := rfl
        cases ha : ds.all oneOk with
        | false =>
          have := hfor.2 ha
          simp [m_is_sack, b_is_sack, isSack, PyData.isTuple, fLen, h1, h1', h2, h3, hk1, this, ha]
        | true =>
          obtain ⟨_, e, s, rfl⟩ := hfor.1 ha
          have h4 := lcM_map (items_t ds) (tg := gN 1) (te := eG fIx (eVar 1) (eC (.int 0))) (ρ := [some (.sh (.d (.tuple ds))), none]) (M := M) fstD (by omega) (fun d hd => by
            obtain ⟨a, b, rfl, _, _⟩ := oneOk_two (List.all_eq_true.mp ha d hd)
            exact ⟨[some (.sh (.d (.tuple ds))), some (.sh (.d (.tuple [a, .int b])))], rfl, by simp [ixV, atI, ixN, fstD]⟩)
          have h5 := are_houses_eq (.tuple (ds.map fstD)) M (fun es h => by cases h; simp; omega)
          simp [m_is_sack, b_is_sack, isSack, PyData.isTuple, fLen, h1, h1', h2, h3, hk1, e, ha, h4, h5]
      · have h2' : ¬ (ds.length : Int) ≤ 4 := by omega
        have h3 : (4 : Int) < ds.length := by omega
        simp [m_is_sack, b_is_sack, isSack, PyData.isTuple, fLen, h2, h3]
    · have h1' : ¬ (1 : Int) ≤ ds.length := by omega
      simp [m_is_sack, b_is_sack, isSack, PyData.isTuple, fLen, h1, h1']
  | _ => simp [m_is_sack, b_is_sack, isSack, PyData.isTuple]
end Z

/-! Plain part 7: drawn sacks and rules. -/
namespace Z
open PySem PySem.Spec PyProof.Rows L2
def sackD (ps : List (Int × Int)) : PyData := .tuple (ps.map pr)
structure SackT (m : Int) (ps : List (Int × Int)) : Prop where
  lo : 1 ≤ ps.length
  hi : ps.length ≤ 4
  rise : (ps.map Prod.fst).Pairwise (· < ·)
  dom : ∀ p ∈ ps, 0 ≤ p.1 ∧ p.1 ≤ 7 ∧ 1 ≤ p.2 ∧ p.2 ≤ m
def SOk (ps : List (Int × Int)) : Prop := SackT 999 ps
theorem SackT.mono {m m' : Int} {ps : List (Int × Int)} (h : SackT m ps) (hm : m ≤ m') : SackT m' ps := ⟨h.lo, h.hi, h.rise, fun p hp => by have := h.dom p hp; omega⟩
theorem isSack_ps {x : PyData} (h : isSack x = true) : ∃ ps, x = sackD ps ∧ SOk ps := by
  unfold isSack at h
  split at h
  · rename_i ds
    simp only [Bool.and_eq_true, decide_eq_true_eq] at h
    obtain ⟨⟨⟨h1, h2⟩, h3⟩, h4⟩ := h
    simp only [isHouses, Bool.and_eq_true, decide_eq_true_eq] at h4
    have : ∀ (es : List PyData), es.all oneOk = true → ((es.map fstD).all fun d => fromTo d 0 7) = true → ∃ ps : List (Int × Int), es = ps.map pr ∧ (es.map fstD).map intOf = ps.map Prod.fst ∧ ∀ p ∈ ps, 0 ≤ p.1 ∧ p.1 ≤ 7 ∧ 1 ≤ p.2 ∧ p.2 ≤ 999 := by
      intro es
      induction es with
      | nil => exact fun _ _ => ⟨[], rfl, rfl, by simp⟩
      | cons e r ih =>
        intro a1 a2
        simp only [List.all_cons, List.map_cons, Bool.and_eq_true] at a1 a2
        obtain ⟨ps, rfl, q1, q2⟩ := ih a1.2 a2.2
        obtain ⟨a, b, rfl, b1, b2⟩ := oneOk_two a1.1
        obtain ⟨i, hi, i0, i1⟩ := fromTo_int a2.1
        simp only [fstD] at hi
        subst hi
        refine ⟨(i, b) :: ps, rfl, by show intOf (fstD (.tuple [.int i, .int b])) :: ((ps.map pr).map fstD).map intOf = i :: ps.map Prod.fst; rw [q1]; rfl, fun p hp => ?_⟩
        rcases List.mem_cons.mp hp with rfl | hp
        · exact ⟨i0, i1, b1, b2⟩
        · exact q2 p hp
    obtain ⟨ps, rfl, q1, q2⟩ := this ds h3 h4.1
    refine ⟨ps, rfl, ⟨by simpa using h1, by simpa using h2, ?_, q2⟩⟩
    rw [← q1]; exact h4.2
  · cases h
theorem sackD_ok {ps : List (Int × Int)} (h : SOk ps) : isSack (sackD ps) = true := by
  have e : (ps.map pr).map fstD = (ps.map Prod.fst).map PyData.int := by simp [List.map_map, Function.comp_def, fstD, pr]
  have h1 := h.lo
  have h2 := h.hi
  simp only [isSack, sackD, Bool.and_eq_true, decide_eq_true_eq, List.length_map]
  refine ⟨⟨⟨h1, h2⟩, ?_⟩, ?_⟩
  · rw [List.all_map, List.all_eq_true]
    intro p hp
    have := h.dom p hp
    simp [oneOk, pr, fromTo]; omega
  · rw [e]
    simp only [isHouses, Bool.and_eq_true, decide_eq_true_eq, intOf_map]
    refine ⟨?_, h.rise⟩
    rw [List.all_map, List.all_map, List.all_eq_true]
    intro p hp
    have := h.dom p hp
    simp [fromTo]; omega
theorem sack_nice {m : Int} {ps : List (Int × Int)} (h : SackT m ps) (hm : m ≤ 1000000) : Nice [4, 2] (sackD ps) := .inr ⟨_, rfl, by simpa using h.hi, fun y hy => by
  obtain ⟨p, hp, rfl⟩ := List.mem_map.mp hy
  have := h.dom p hp
  refine .inr ⟨_, rfl, by simp, fun z hz => ?_⟩
  simp at hz
  rcases hz with rfl | rfl
  · exact .inl ⟨_, rfl, by omega, by omega⟩
  · exact .inl ⟨_, rfl, by omega, by omega⟩⟩
def grain (ps : List (Int × Int)) : Int := (ps.map Prod.snd).sum
theorem grain_le {m : Int} {ps : List (Int × Int)} (h : SackT m ps) (hm : 0 ≤ m) : (ps.length : Int) ≤ grain ps ∧ grain ps ≤ 4 * m := by
  have : ∀ qs : List (Int × Int), (∀ p ∈ qs, 1 ≤ p.2 ∧ p.2 ≤ m) → (qs.length : Int) ≤ (qs.map Prod.snd).sum ∧ (qs.map Prod.snd).sum ≤ m * qs.length := by
    intro qs
    induction qs with
    | nil => simp
    | cons q r ih =>
      intro a
      have h1 := ih fun p hp => a p (by simp [hp])
      have h2 := a q (by simp)
      simp only [List.length_cons, List.map_cons, List.sum_cons]
      have : m * ((r.length + 1 : Nat) : Int) = m * r.length + m := by push_cast; rw [Int.mul_add, Int.mul_one]
      omega
  have h1 := this ps fun p hp => (h.dom p hp).2.2
  have h2 := h.hi
  have : m * (ps.length : Int) ≤ m * 4 := Int.mul_le_mul_of_nonneg_left (by omega) hm
  unfold grain
  omega
theorem secs {ps : List (Int × Int)} {te : Sm Val} {s0 s1 s2 : Option Slot} {M : Store} (hl : ps.length ≤ 1000) (ht : ∀ p : Int × Int, te [s0, some (.sh (.d (.int p.1))), some (.sh (.d (.int p.2)))] M = .ok (.d (.int p.2)) M) :
    lcM (.one false (.d (sackD ps))) (gTupM 2 (gConsM (gN 1) (gConsM (gN 2) gNilM))) tYesM te [s0, s1, s2] (Src.len M (.one false (.d (sackD ps)))) 0 [] M = .ok (((ps.map Prod.snd).map PyData.int).map Val.d) M := by
  have := lcM_map (items_t (ps.map pr)) (tg := gTupM 2 (gConsM (gN 1) (gConsM (gN 2) gNilM))) (te := te) (ρ := [s0, s1, s2]) (M := M) (fun d => match d with
    | .tuple [_, b] => b
    | _ => .none) (by simp; omega) (fun d hd => by
      obtain ⟨p, _, rfl⟩ := List.mem_map.mp hd
      exact ⟨[s0, some (.sh (.d (.int p.1))), some (.sh (.d (.int p.2)))], by simp [pr], by simp [pr, ht]⟩)
  rw [sackD, this]
  simp [List.map_map, Function.comp_def, pr]
theorem grain_in_eq {ps : List (Int × Int)} (hl : ps.length ≤ 1000) (M : Store) : m_grain_in [.d (sackD ps)] M = .ok (.d (.int (grain ps))) M := by
  have h := secs (te := eVar 2) (s0 := some (.sh (.d (sackD ps)))) (s1 := none) (s2 := none) (M := M) hl (fun p => by simp)
  have hk : kindV M (.d (sackD ps)) = some false := rfl
  have hi := intsD_map (ps.map Prod.snd)
  generalize (ps.map Prod.snd).map PyData.int = L at h hi
  simp [m_grain_in, b_grain_in, hk, h, fSum, hi, grain]
theorem need_sack_eq (x : PyData) (M : Store) : m_need_sack [.d x] M = if isSack x = true then .ok (.d .none) M else .exn "NoSack" M := by
  simp [m_need_sack, b_need_sack, is_sack_eq]
  cases isSack x <;> simp
theorem need_rule_eq (x : PyData) (M : Store) (hx : ∀ ds, x = .tuple ds → ∀ d ∈ ds, ∀ es, d = .tuple es → es.length ≤ 1000) : m_need_rule [.d x] M = if isRule x = true then .ok (.d .none) M else .exn "NoRule" M := by
  simp [m_need_rule, b_need_rule, is_rule_eq x M hx]
  cases isRule x <;> simp
theorem Sz.inner {k n : Nat} {x : PyData} (h : Sz k n x) : ∀ ds, x = .tuple ds → ∀ d ∈ ds, ∀ es, d = .tuple es → es.length < 60 := by
  rintro ds rfl d hd es rfl
  have := h.2.2.2
  simp only [wd] at this
  have := wd_mem (m := 59) (xs := ds) (by omega) _ hd
  simp only [wd] at this
  omega
theorem Sz.inner' {k n : Nat} {x : PyData} (h : Sz k n x) : ∀ ds, x = .tuple ds → ∀ d ∈ ds, ∀ es, d = .tuple es → es.length ≤ 1000 := fun ds a d b es c => by have := h.inner ds a d b es c; omega
/-! draws -/
theorem ounces_eq {M : Store} {n : Nat} {m : Int} (h : BoxAt M n) (h1 : 1 ≤ m) (h2 : m < 1000000) : ∃ o M', m_l_ounces [.ref n, .d (.int m)] M = .ok (.d (.int o)) M' ∧ 1 ≤ o ∧ o ≤ max m 9 ∧ BStep n M M' := by
  obtain ⟨a, M1, e1, a0, a1, t1⟩ := take_eq h (k := m) (by omega) (by omega)
  obtain ⟨b, M2, e2, b0, b1, t2⟩ := take_eq t1.box (k := 9) (by decide) (by decide)
  obtain ⟨c, M3, e3, c0, c1, t3⟩ := take_eq t2.box (k := 4) (by decide) (by decide)
  obtain ⟨x, hx, hx2⟩ := four 1 m (1 + a) (1 + b) c c0 c1
  refine ⟨x, M3, ?_, by omega, by omega, (t1.trans t2).trans t3⟩
  simp [m_l_ounces, b_l_ounces, e1, e2, e3, ixV, hx]
def leI (a b : Int) : Bool := !decide (b < a)
theorem sortD_ints (ns : List Int) : sortD (ns.map PyData.int) = (ns.mergeSort leI).map PyData.int := by
  unfold sortD
  rw [List.map_mergeSort (r := leI) (f := PyData.int) (l := ns) (s := leD)]
  intro a _ b _
  simp [leI, leD, PySem.W.dataLt_int]
theorem sortI_pw {ns : List Int} (h : ns.Nodup) : (ns.mergeSort leI).Pairwise (· < ·) := by
  have h1 : (ns.mergeSort leI).Pairwise (fun a b => leI a b = true) := List.pairwise_mergeSort (fun a b c => by simp [leI]; omega) (fun a b => by simp [leI]; omega) ns
  have h2 : (ns.mergeSort leI).Nodup := (List.mergeSort_perm ns leI).nodup_iff.mpr h
  refine (h1.and h2).imp ?_
  intro a b ⟨x, y⟩
  simp [leI] at x
  omega
theorem okSort_ints {ns : List Int} (h : ns.length ≤ 1000) : okSort (ns.map PyData.int) = true := by
  have d : ∀ ns : List Int, PyData.depthAll (ns.map PyData.int) = 0 := fun ns => by
    induction ns with
    | nil => rfl
    | cons n r ih => simp [PyData.depthAll, PyData.depth, ih]
  simp only [okSort, d, Bool.and_eq_true, decide_eq_true_eq, List.length_map]
  refine ⟨⟨⟨?_, ?_⟩, by omega⟩, by omega⟩
  · simp [PySem.W.alike]
  · simp [isNone, PyData.isTuple]
end Z

/-! Plain part 8: draws, as words of runs. -/
namespace Z
open PySem PySem.Spec PyProof.Rows L2
section
variable {M : Store} {n : Nat}
theorem take_w {k : Int} (h : BoxAt M n) (hk : 0 < k := by decide) (hk2 : k < 1073741824 := by decide) : Wp (fun v M' => ∃ d, v = .d (.int d) ∧ 0 ≤ d ∧ d < k ∧ BStep n M M') (m_l_take [.ref n, .d (.int k)] M) := by
  obtain ⟨d, M', e, h1, h2, h3⟩ := take_eq h hk hk2
  exact .of e ⟨d, rfl, h1, h2, h3⟩
theorem box_w (ns : List Int) (k : Nat) (M : Store) : Wp (fun v M' => v = .ref M.length ∧ BoxAt M' M.length) (m_l_box [.scr ns, .d (.int k)] M) := by
  obtain ⟨M', e, h⟩ := box_at ns k M
  exact .of e ⟨rfl, h⟩
theorem ounces_w {m : Int} (h : BoxAt M n) (h1 : 1 ≤ m := by decide) (h2 : m < 1000000 := by decide) : Wp (fun v M' => ∃ o, v = .d (.int o) ∧ 1 ≤ o ∧ o ≤ max m 9 ∧ BStep n M M') (m_l_ounces [.ref n, .d (.int m)] M) := by
  obtain ⟨o, M', e, a, b, c⟩ := ounces_eq h h1 h2
  exact .of e ⟨o, rfl, a, b, c⟩
end
/-- a place of a written list, as a word -/
theorem pick_w {L : List PyData} {i : Int} {M : Store} {Q : Val → Store → Prop} (h0 : 0 ≤ i) (h : i < L.length) (k : ∀ x ∈ L, Q (.d x) M) : Wp Q (fIx (.d (.list L)) (.d (.int i)) M) := by
  have hl : i.toNat < L.length := by omega
  refine .of (a := .d L[i.toNat]) (M := M) ?_ (k _ (List.getElem_mem hl))
  simp [ixV, atI_int L i h0 h, List.getElem?_eq_getElem hl]
/-! rules -/
structure Rule where
  per : Int
  bran : Int
  dust : Int
  free : List Int
def Rule.D (r : Rule) : PyData := .tuple [.int r.per, .int r.bran, .int r.dust, .tuple (r.free.map PyData.int)]
def HOk (hs : List Int) : Prop := (∀ h ∈ hs, 0 ≤ h ∧ h ≤ 7) ∧ hs.Pairwise (· < ·)
structure Rule.Ok (r : Rule) : Prop where
  per : 2 ≤ r.per ∧ r.per ≤ 100
  bran : 0 ≤ r.bran ∧ r.bran ≤ 60
  dust : 0 ≤ r.dust ∧ r.dust ≤ 20
  free : HOk r.free
theorem isHouses_ok {hs : List Int} (h : HOk hs) : isHouses (.tuple (hs.map PyData.int)) = true := by
  simp only [isHouses, Bool.and_eq_true, decide_eq_true_eq, intOf_map]
  refine ⟨?_, h.2⟩
  rw [List.all_map, List.all_eq_true]
  intro x hx
  have := h.1 x hx
  simp [fromTo]; omega
theorem isRule_ok {r : Rule} (h : r.Ok) : isRule r.D = true := by
  have := h.per; have := h.bran; have := h.dust
  simp only [isRule, Rule.D, Bool.and_eq_true, isHouses_ok h.free, and_true, fromTo, decide_eq_true_eq]
  omega
theorem pw_len {hs : List Int} : ∀ {a : Int}, (∀ h ∈ hs, a ≤ h ∧ h ≤ 7) → hs.Pairwise (· < ·) → (hs.length : Int) ≤ max 0 (8 - a) := by
  induction hs with
  | nil => intros; simp; omega
  | cons h r ih =>
    intro a h1 h2
    have h2' := List.pairwise_cons.mp h2
    have h0 := h1 h (by simp)
    have := ih (a := h + 1) (fun x hx => ⟨by have := h2'.1 x hx; omega, (h1 x (by simp [hx])).2⟩) h2'.2
    simp; omega
theorem HOk.len {hs : List Int} (h : HOk hs) : hs.length ≤ 8 := by
  have := pw_len (a := 0) h.1 h.2
  omega
theorem rule_nice {r : Rule} (h : r.Ok) : Nice [4, 8] r.D := .inr ⟨_, rfl, by simp, fun y hy => by
  have := h.per; have := h.bran; have := h.dust
  simp at hy
  rcases hy with rfl | rfl | rfl | rfl
  · exact .inl (.inl ⟨_, rfl, by omega, by omega⟩)
  · exact .inl (.inl ⟨_, rfl, by omega, by omega⟩)
  · exact .inl (.inl ⟨_, rfl, by omega, by omega⟩)
  · refine .inr ⟨_, rfl, by simpa using h.free.len, fun z hz => ?_⟩
    obtain ⟨i, hi, rfl⟩ := List.mem_map.mp hz
    have := h.free.1 i hi
    exact .inl ⟨_, rfl, by omega, by omega⟩⟩
theorem rule_sz {r : Rule} (h : r.Ok) : Sz 2 40000 r.D := ((rule_nice h).sz (by decide)).mono (by decide) (by decide)
theorem sack_sz {m : Int} {ps : List (Int × Int)} (h : SackT m ps) (hm : m ≤ 1000000) : Sz 2 40000 (sackD ps) := ((sack_nice h hm).sz (by decide)).mono (by decide) (by decide)
theorem need_ruleD (r : Rule) (h : r.Ok) (M : Store) : m_need_rule [.d r.D] M = .ok (.d .none) M := by
  rw [need_rule_eq _ M (rule_sz h).inner', if_pos (isRule_ok h)]
theorem need_sackD (ps : List (Int × Int)) (h : SOk ps) (M : Store) : m_need_sack [.d (sackD ps)] M = .ok (.d .none) M := by
  rw [need_sack_eq, if_pos (sackD_ok h)]
section
variable {M : Store} {n : Nat}
theorem some_houses_w {k : Int} (h : BoxAt M n) (hk : 0 < k) (hk2 : k < 1073741824) : Wp (fun v M' => ∃ hs : List Int, v = .d (.tuple (hs.map PyData.int)) ∧ HOk hs ∧ BStep n M M') (m_l_some_houses [.ref n, .d (.int k)] M) := by
  unfold m_l_some_houses b_l_some_houses
  simp -dsimp
  refine wp_lc (fun i acc M' => ∃ hs : List Int, acc = (hs.map PyData.int).map Val.d ∧ (∀ h ∈ hs, 0 ≤ h ∧ h < i) ∧ hs.Pairwise (· < ·) ∧ BStep n M M') ?_
  simp -dsimp [inR]
  refine ⟨_, items_r _, by simp, ⟨[], rfl, by simp, by simp, BStep.refl h⟩, ?_, ?_⟩
  · rintro i x acc M' hx - ⟨hs, rfl, h1, h2, h3⟩
    have hi := (List.getElem?_eq_some_iff.mp hx).1
    simp at hi
    simp [hi] at hx
    subst hx
    simp -dsimp
    refine (take_w h3.box hk hk2).mono ?_
    rintro _ M2 ⟨d, rfl, d0, d1, s⟩
    simp -dsimp
    refine ⟨fun hd => ⟨hs ++ [(i : Int)], by simp, ?_, ?_, h3.trans s⟩, fun hd => ⟨hs, rfl, fun h hh => ?_, h2, h3.trans s⟩⟩
    · intro h hh
      rcases List.mem_append.mp hh with hh | hh
      · have := h1 h hh; omega
      · rw [List.mem_singleton.mp hh]; omega
    · rw [List.pairwise_append]
      exact ⟨h2, by simp, fun a ha b hb => by rw [List.mem_singleton.mp hb]; exact (h1 a ha).2⟩
    · have := h1 h hh; omega
  · rintro acc M' ⟨hs, rfl, h1, h2, h3⟩
    simp -dsimp
    exact ⟨hs, rfl, ⟨fun h hh => by have := h1 h hh; simp at this; omega, h2⟩, h3⟩
theorem rule_w (h : BoxAt M n) : Wp (fun v M' => ∃ r : Rule, v = .d r.D ∧ r.Ok ∧ BStep n M M') (m_l_rule [.ref n] M) := by
  unfold m_l_rule b_l_rule
  simp -dsimp
  refine (take_w h).mono ?_
  rintro _ M1 ⟨a, rfl, a0, a1, s1⟩
  simp -dsimp
  refine (take_w s1.box).mono ?_
  rintro _ M2 ⟨b, rfl, b0, b1, s2⟩
  simp -dsimp
  refine pick_w b0 (by simpa using b1) fun x hx => ?_
  obtain ⟨p, rfl, p0, p1⟩ : ∃ p : Int, x = .int p ∧ 2 ≤ p ∧ p ≤ 100 := by
    simp at hx
    rcases hx with rfl | rfl | rfl | rfl | rfl <;> exact ⟨_, rfl, by omega, by omega⟩
  simp -dsimp
  refine (take_w s2.box).mono ?_
  rintro _ M3 ⟨c, rfl, c0, c1, s3⟩
  simp -dsimp
  refine (take_w s3.box).mono ?_
  rintro _ M4 ⟨d, rfl, d0, d1, s4⟩
  simp -dsimp
  refine pick_w d0 (by simpa using d1) fun x hx => ?_
  obtain ⟨br, rfl, q0, q1⟩ : ∃ p : Int, x = .int p ∧ 0 ≤ p ∧ p ≤ 60 := by
    simp at hx
    rcases hx with rfl | rfl | rfl <;> exact ⟨_, rfl, by omega, by omega⟩
  simp -dsimp
  refine (take_w s4.box).mono ?_
  rintro _ M5 ⟨e, rfl, e0, e1, s5⟩
  simp -dsimp
  refine (take_w s5.box).mono ?_
  rintro _ M6 ⟨f, rfl, f0, f1, s6⟩
  simp -dsimp
  refine pick_w f0 (by simpa using f1) fun x hx => ?_
  obtain ⟨du, rfl, r0, r1⟩ : ∃ p : Int, x = .int p ∧ 0 ≤ p ∧ p ≤ 20 := by
    simp at hx
    rcases hx with rfl | rfl | rfl <;> exact ⟨_, rfl, by omega, by omega⟩
  simp -dsimp
  refine (take_w s6.box).mono ?_
  rintro _ M7 ⟨g, rfl, g0, g1, s7⟩
  simp -dsimp
  refine (some_houses_w s7.box (by omega) (by omega)).mono ?_
  rintro _ M8 ⟨hs, rfl, hh, s8⟩
  simp -dsimp
  exact ⟨⟨p, br, du, hs⟩, rfl, ⟨⟨p0, p1⟩, ⟨q0, q1⟩, ⟨r0, r1⟩, hh⟩, ((((((s1.trans s2).trans s3).trans s4).trans s5).trans s6).trans s7).trans s8⟩
/-- eight rights, two speeds -/
structure RgOk (rs : List Int) : Prop where
  len : rs.length = 8
  all : ∀ r ∈ rs, 0 ≤ r ∧ r ≤ 3
theorem eraseIdx_map' {α β : Type} (f : α → β) (xs : List α) (k : Nat) : (xs.map f).eraseIdx k = (xs.eraseIdx k).map f := by
  rw [List.eraseIdx_eq_take_drop_succ, List.eraseIdx_eq_take_drop_succ]; simp
theorem erase_perm {α : Type} (xs : List α) (k : Nat) (h : k < xs.length) : xs.Perm (xs[k] :: xs.eraseIdx k) := by
  rw [List.eraseIdx_eq_take_drop_succ]
  have e : xs.take k ++ xs[k] :: xs.drop (k + 1) = xs := by rw [← List.drop_eq_getElem_cons h, List.take_append_drop]
  have := List.perm_middle (a := xs[k]) (l₁ := xs.take k) (l₂ := xs.drop (k + 1))
  rwa [e] at this
/-! sacks: the pool lies in the store at its own place -/
theorem rgD8 : rgD 8 = ([0, 1, 2, 3, 4, 5, 6, 7] : List Int).map fun i => Val.d (.int i) := rfl
theorem sack_w {m : Int} (h : BoxAt M n) (h1 : 9 ≤ m ∨ 1 ≤ m ∧ True) (h2 : m < 1000000 := by decide) : Wp (fun v M' => ∃ ps, v = .d (sackD ps) ∧ SackT (max m 9) ps ∧ BStep n M M') (m_l_sack [.ref n, .d (.int m)] M) := by
  have hn := h.lt
  unfold m_l_sack b_l_sack
  simp -dsimp [rgD8]
  generalize hM0 : M ++ [Node.lst _] = M0
  have s0 : BStep n M M0 := by rw [← hM0]; exact BStep.new h _
  have p0 : M0[M.length]? = some (.lst (([0, 1, 2, 3, 4, 5, 6, 7] : List Int).map fun i => Val.d (.int i))) := by rw [← hM0]; simp
  refine wp_lc (fun i acc M' => ∃ hs pool : List Int, acc = (hs.map PyData.int).map Val.d ∧ hs.length = i ∧ hs.length + pool.length = 8 ∧ (hs ++ pool).Nodup ∧ (∀ h ∈ hs ++ pool, 0 ≤ h ∧ h ≤ 7) ∧ M'[M.length]? = some (.lst (pool.map fun i => Val.d (.int i))) ∧ BStep n M M') ?_
  simp -dsimp
  refine (take_w s0.box).mono ?_
  rintro _ M1 ⟨a, rfl, a0, a1, s1⟩
  simp -dsimp
  refine pick_w a0 (by simpa using a1) fun x hx => ?_
  obtain ⟨k, rfl, k0, k1⟩ : ∃ p : Int, x = .int p ∧ 1 ≤ p ∧ p ≤ 4 := by
    simp at hx
    rcases hx with rfl | rfl | rfl | rfl | rfl <;> exact ⟨_, rfl, by omega, by omega⟩
  have hr : inR k = true := by simp [inR]; omega
  simp -dsimp [hr]
  refine ⟨_, items_r _, by simp; omega, ⟨[], [0, 1, 2, 3, 4, 5, 6, 7], rfl, rfl, rfl, by decide, by decide, s1.at p0 (by omega), s0.trans s1⟩, ?_, ?_⟩
  · rintro i x acc M' hx - ⟨hs, pool, rfl, l1, l2, nd, dm, hp, s⟩
    have hi := (List.getElem?_eq_some_iff.mp hx).1
    simp at hi
    simp [hi] at hx
    subst hx
    have hlen : fLen [.ref M.length] M' = .ok (.d (.int pool.length)) M' := by simp [fLen, lenV, hp]
    simp -dsimp [hlen, hp]
    refine (take_w s.box (by omega) (by omega)).mono ?_
    rintro _ M2 ⟨d, rfl, d0, d1, s2⟩
    have hp2 := s2.at hp (by omega)
    have hd : d.toNat < pool.length := by omega
    have hpop : lmPopAt (pool.map fun i => Val.d (.int i)) [.d (.int d)] = some (.d (.int pool[d.toNat]), (pool.eraseIdx d.toNat).map fun i => Val.d (.int i)) := by
      have : seqIndex? d pool.length = some d.toNat := by simp [seqIndex?]; omega
      simp [lmPopAt, this, hd, eraseIdx_map']
      omega
    simp -dsimp [hp2, hpop]
    have hperm : pool.Perm (pool[d.toNat] :: pool.eraseIdx d.toNat) := erase_perm pool _ hd
    have hperm2 : (hs ++ pool).Perm ((hs ++ [pool[d.toNat]]) ++ pool.eraseIdx d.toNat) := by
      rw [List.append_assoc]; exact List.Perm.append_left hs hperm
    have hs2 : (hs ++ [pool[d.toNat]]).map PyData.int = hs.map PyData.int ++ [.int pool[d.toNat]] := by simp
    refine ⟨hs ++ [pool[d.toNat]], by simp, by simp [l1], pool.eraseIdx d.toNat, ?_, ?_, fun h hh => dm h (hperm2.mem_iff.mpr (by simpa [or_assoc] using hh)), ?_, (s.trans s2).upd (Nat.le_refl _) (by omega) _⟩
    · rw [List.length_eraseIdx, if_pos hd]; simp; omega
    · have := (hperm2.nodup_iff).mp nd; simpa using this
    · rw [List.getElem?_set_self (by have := (List.getElem?_eq_some_iff.mp hp2).1; exact this)]
  · rintro acc M' ⟨hs, pool, rfl, l1, l2, nd, dm, hp, s⟩
    have hk : hs.length = k.toNat := by simpa using l1
    have hok := okSort_ints (ns := hs) (by omega)
    have hnd : hs.Nodup := (List.nodup_append.mp nd).1
    have hsort := sortD_ints hs
    have hpw := sortI_pw hnd
    have hmem : ∀ x, x ∈ hs.mergeSort leI ↔ x ∈ hs := fun x => (List.mergeSort_perm hs leI).mem_iff
    have hl3 : (hs.mergeSort leI).length = hs.length := (List.mergeSort_perm hs leI).length_eq
    generalize hs.mergeSort leI = qs at hpw hmem hl3 hsort
    simp -dsimp
    refine wp_draws (fun i d => ∃ o : Int, ∃ q, qs[i]? = some q ∧ d = pr (q, o) ∧ 1 ≤ o ∧ o ≤ max m 9) (fun M' => BStep n M M') ?_
    simp -dsimp [hok, hsort]
    refine ⟨_, rfl, by simp; omega, s, ?_, ?_⟩
    · rintro i x M3 hx s3
      simp at hx
      obtain ⟨q, hq, rfl⟩ := hx
      simp -dsimp
      refine (ounces_w s3.box (by omega) h2).mono ?_
      rintro _ M4 ⟨o, rfl, o0, o1, s4⟩
      simp -dsimp
      exact ⟨⟨o, q, hq, rfl, o0, o1⟩, s3.trans s4⟩
    · intro ds M3 hl hd s3
      simp at hl
      simp -dsimp
      have : ∀ (qs : List Int) (ds : List PyData), ds.length = qs.length → (∀ (i : Nat) (d : PyData), ds[i]? = some d → ∃ o : Int, ∃ q, qs[i]? = some q ∧ d = pr (q, o) ∧ 1 ≤ o ∧ o ≤ max m 9) →
          ∃ ps : List (Int × Int), ds = ps.map pr ∧ ps.map Prod.fst = qs ∧ ∀ p ∈ ps, 1 ≤ p.2 ∧ p.2 ≤ max m 9 := by
        intro qs
        induction qs with
        | nil => intro ds hl _; simp at hl; subst hl; exact ⟨[], rfl, rfl, by simp⟩
        | cons q r ih =>
          intro ds hl hd
          cases ds with
          | nil => simp at hl
          | cons d ds =>
            obtain ⟨ps, rfl, e2, h3⟩ := ih ds (by simpa using hl) fun i d h => hd (i + 1) d (by simpa using h)
            obtain ⟨o, q', e, rfl, o0, o1⟩ := hd 0 d rfl
            simp at e; subst e
            exact ⟨(q, o) :: ps, rfl, by simp [e2], fun p hp => by
              rcases List.mem_cons.mp hp with rfl | hp
              · exact ⟨o0, o1⟩
              · exact h3 p hp⟩
      obtain ⟨ps, rfl, e2, h3⟩ := this qs ds hl hd
      have hl4 : ps.length = qs.length := by rw [← e2, List.length_map]
      refine ⟨ps, rfl, ⟨by omega, by omega, by rw [e2]; exact hpw, fun p hp => ?_⟩, s3⟩
      have h5 : p.1 ∈ hs := (hmem _).mp (by rw [← e2]; exact List.mem_map_of_mem hp)
      have := dm p.1 (List.mem_append_left _ h5)
      have := h3 p hp
      omega
end
end Z

/-! Plain part 9: likeness, shown data, the law's loop over its cells. -/
namespace Z
open PySem PySem.Spec PyProof.Rows L2
theorem fNe_self {x : PyData} (h : x.plain = true) (d : x.depth ≤ 90) : fNe x x = some (.bool false) := by
  simp [fNe, okEq, h, d, PySem.SeqAt.eqv_refl_plain x h]
@[simp] theorem fRepr_bools (b : Bool) : fRepr (.bool b) = some (.str (PyData.bool b).shown) := fRepr_of (k := 0) (n := 5) ⟨rfl, by simp [PyData.depth], by simp [wt], by simp [wd]⟩ (by decide) (by decide)
/-- a statement of its own, behind which P holds (stop ahead of it by simp -dsimp [-wp_seq, -sSeq_eq]) -/
theorem wp_seqC {a b : Sm Fl} {ρ : Rho} {M : Store} {Q : Fl → Store → Prop} (P : Rho → Store → Prop) (h1 : Wp (fun f M => ∃ ρ, f = .nx ρ ∧ P ρ M) (a ρ M)) (h2 : ∀ ρ M, P ρ M → Wp Q (b ρ M)) : Wp Q (sSeq a b ρ M) := by
  rw [wp_seq]
  exact h1.mono fun f M ⟨ρ, e, p⟩ => by subst e; exact h2 ρ M p
/-! sacks and rules are tuples -/
@[simp] theorem fBack_sack (ps : List (Int × Int)) : fBack (sackD ps) = some (.tuple (ps.map pr).reverse) := rfl
@[simp] theorem kindV_sack (M : Store) (ps : List (Int × Int)) : kindV M (.d (sackD ps)) = some false := rfl
@[simp] theorem itemsT_sack (M : Store) (ps : List (Int × Int)) : itemsK M true (.d (sackD ps)) = none := rfl
@[simp] theorem itemsF_sack (M : Store) (ps : List (Int × Int)) : itemsK M false (.d (sackD ps)) = some ((ps.map pr).map Val.d) := rfl
@[simp] theorem fSl_sack (lo hi : Option Int) (ps : List (Int × Int)) : fSl lo hi (sackD ps) = some (.tuple (cut (ps.map pr) lo hi)) := rfl
@[simp] theorem fLen_sack (M : Store) (ps : List (Int × Int)) : fLen [.d (sackD ps)] M = .ok (.d (.int ps.length)) M := by simp [fLen, sackD]
@[simp] theorem items_sack (ps : List (Int × Int)) : (Src.one false (.d (sackD ps))).items = some ((ps.map pr).map Val.d) := rfl
@[simp] theorem kindV_rule (M : Store) (r : Rule) : kindV M (.d r.D) = some false := rfl
@[simp] theorem itemsF_rule (M : Store) (r : Rule) : itemsK M false (.d r.D) = some ([.int r.per, .int r.bran, .int r.dust, .tuple (r.free.map PyData.int)].map Val.d) := rfl
@[simp] theorem ix0_rule (M : Store) (r : Rule) : ixV M (.d r.D) 0 = some (.d (.int r.per)) := rfl
@[simp] theorem ix1_rule (M : Store) (r : Rule) : ixV M (.d r.D) 1 = some (.d (.int r.bran)) := rfl
@[simp] theorem ix2_rule (M : Store) (r : Rule) : ixV M (.d r.D) 2 = some (.d (.int r.dust)) := rfl
@[simp] theorem ix3_rule (M : Store) (r : Rule) : ixV M (.d r.D) 3 = some (.d (.tuple (r.free.map PyData.int))) := rfl
@[simp] theorem fSl_rule (lo hi : Option Int) (r : Rule) : fSl lo hi r.D = some (.tuple (cut [.int r.per, .int r.bran, .int r.dust, .tuple (r.free.map PyData.int)] lo hi)) := rfl
/-- .. over things of a kind, each told by g -/
theorem wp_filtA {α : Type} {ρ : Rho} {M : Store} {QL : List Val → Store → Prop} {mi : Sm Src} {tg : Tg} {tt : Sm Bool} {te : Sm Val} {vs : List Nat} (xs : List α) (g : α → Val) (p : α → Bool) (f : α → Val) (h : Wp (fun src M1 => Hold (src.items = some (xs.map g) ∧ xs.length < 16000000 ∧
      (∀ x ∈ xs, Wp (fun ρ1 M2 => M2 = M1 ∧ Wp (fun c M3 => c = p x ∧ M3 = M1 ∧ (c = true → Wp (fun y M4 => y = f x ∧ M4 = M1) (te ρ1 M1))) (tt ρ1 M1)) (tg (g x) (wipeR ρ vs) M1)) ∧ QL ((xs.filter p).map f) M1) ()) (mi ρ M)) : WpLc QL mi tg tt te vs ρ M := by
  obtain ⟨src, M0, e0, h⟩ := h.get
  obtain ⟨hs, hl, st, q⟩ := h
  refine wp_lc (fun i acc M' => M' = M0 ∧ acc = ((xs.take i).filter p).map f) (.of e0 ⟨_, hs, by simpa using hl, ⟨rfl, by simp⟩, ?_, ?_⟩)
  · rintro i y acc _ hy - ⟨rfl, rfl⟩
    simp only [List.getElem?_map] at hy
    cases hx : xs[i]? with
    | none => rw [hx] at hy; cases hy
    | some x =>
      rw [hx] at hy
      cases hy
      have ht : xs.take (i + 1) = xs.take i ++ [x] := by rw [List.take_succ, hx]; rfl
      refine (st x (List.mem_of_getElem? hx)).mono fun ρ1 M2 ⟨e, h1⟩ => ?_
      subst e
      refine ⟨rfl, h1.mono fun c M3 ⟨ec, e3, h2⟩ => ?_⟩
      subst ec; subst e3
      refine ⟨fun hp => (h2 hp).mono fun y M4 ⟨e4, e5⟩ => ⟨e5, ?_⟩, fun hp => ⟨rfl, ?_⟩⟩
      · subst e4; rw [ht]; simp [hp]
      · rw [ht]; simp [hp]
  · rintro acc _ ⟨rfl, rfl⟩
    simpa using q
theorem wp_mapA {α : Type} {ρ : Rho} {M : Store} {QL : List Val → Store → Prop} {mi : Sm Src} {tg : Tg} {te : Sm Val} {vs : List Nat} (xs : List α) (g : α → Val) (f : α → Val) (h : Wp (fun src M1 => Hold (src.items = some (xs.map g) ∧ xs.length < 16000000 ∧
      (∀ x ∈ xs, Wp (fun ρ1 M2 => M2 = M1 ∧ Wp (fun y M3 => y = f x ∧ M3 = M1) (te ρ1 M1)) (tg (g x) (wipeR ρ vs) M1)) ∧ QL (xs.map f) M1) ()) (mi ρ M)) : WpLc QL mi tg tYesM te vs ρ M := by
  refine wp_filtA xs g (fun _ => true) f (h.mono fun src M1 ⟨a, b, c, d⟩ => ⟨a, b, fun x hx => (c x hx).mono fun ρ1 M2 ⟨e, h1⟩ => ⟨e, ?_⟩, ?_⟩)
  · show Wp _ (.ok true M1)
    rw [wp_ok]
    exact ⟨rfl, rfl, fun _ => h1⟩
  · rw [List.filter_eq_self.mpr (fun _ _ => rfl)]; exact d
@[simp] theorem items_sackV (ps : List (Int × Int)) : (Src.one false (.d (sackD ps))).items = some (ps.map fun p => Val.d (pr p)) := by simp [Src.items, itemsK, sackD, Function.comp_def]
theorem items_listV {α : Type} (f : α → PyData) (xs : List α) : (Src.one true (.d (.list (xs.map f)))).items = some (xs.map fun x => Val.d (f x)) := by simp [Src.items, itemsK, Function.comp_def]
theorem items_tupV {α : Type} (f : α → PyData) (xs : List α) : (Src.one false (.d (.tuple (xs.map f)))).items = some (xs.map fun x => Val.d (f x)) := by simp [Src.items, itemsK, Function.comp_def]
theorem items_zipV {α β : Type} (f : α → PyData) (g : β → PyData) (k1 k2 : Bool) (x y : Val) (xs : List α) (ys : List β) (hx : itemsK [] k1 x = some (xs.map fun x => Val.d (f x))) (hy : itemsK [] k2 y = some (ys.map fun x => Val.d (g x))) :
    (Src.zip k1 k2 x y).items = some ((xs.zip ys).map fun p => Val.d (.tuple [f p.1, g p.2])) := by
  have h1 := pures_fun f xs
  have h2 := pures_fun g ys
  simp only [Src.items, hx, hy, h1, h2, List.zip_map, List.map_map, Function.comp_def]
  simp [Prod.map]
theorem items_enumV {α : Type} (f : α → PyData) (k : Bool) (x : Val) (xs : List α) (hx : itemsK [] k x = some (xs.map fun x => Val.d (f x))) :
    (Src.enum k x).items = some (xs.zipIdx.map fun p => Val.d (.tuple [.int (p.2 : Int), f p.1])) := by
  have h1 := pures_fun f xs
  simp only [Src.items, hx, h1, Option.map_some, Option.some.injEq]
  rw [List.zipIdx_map, List.map_map]
  rfl
@[simp] theorem ksl {α : Type} (f : α → PyData) (M : Store) (xs : List α) : itemsK M true (.d (.list (xs.map f))) = some (xs.map fun x => Val.d (f x)) := by simp [itemsK, Function.comp_def]
@[simp] theorem kst {α : Type} (f : α → PyData) (M : Store) (xs : List α) : itemsK M false (.d (.tuple (xs.map f))) = some (xs.map fun x => Val.d (f x)) := by simp [itemsK, Function.comp_def]
@[simp] theorem kss (M : Store) (ps : List (Int × Int)) : itemsK M false (.d (sackD ps)) = some (ps.map fun p => Val.d (pr p)) := by simp [itemsK, sackD, Function.comp_def]
/-! the law -/
theorem cells_w {ns : List Int} {c : Int} {ρ : Rho} {M : Store} {Q : Src → Store → Prop} (h0 : ρ[0]? = some (some (.sh (.scr ns)))) (k : ∀ n : Nat, Q (.rng 0 1 n) M) (hc : c ≤ 4 := by decide) :
    Wp Q (sRng1 (aCons (eCB fMax2 (aCons (eC (.int 1)) (aCons (eCB fMin2 (aCons (eCG fLen (aCons (eVar 0) aNil)) (aCons (eC (.int c)) aNil))) aNil))) aNil) ρ M) := by
  obtain ⟨n, e⟩ := cells_rng ns c hc ρ M h0
  exact .of e (k n)
theorem fin_law {m : List Val → Store → Res Val} {xs : List Val} {M : Store} (h : Wp (fun v _ => v = .d (.bool true)) (m xs M)) : ∃ M', m xs M = .ok (.d (.bool true)) M' := by
  obtain ⟨v, M', e, rfl⟩ := h.get
  exact ⟨M', e⟩
/-- the loop over the cells: each turn leaves all living slots as they were -/
theorem law_loop {ns : List Int} {N : Nat} {ks : List Nat} {c : Int} {f : Sm Fl} (hc : c ≤ 4) (h0 : (wipeR (startR N [.scr ns]) [])[0]? = some (some (.sh (.scr ns))))
    (h : ∀ (i : Nat) (M : Store), Wp (fun fl _ => ∃ ρ2, fl = .nx ρ2 ∧ wipeR ρ2 ks = wipeR (startR N [.scr ns]) ks) (f ((wipeR (startR N [.scr ns]) ks).set 1 (some (.sh (.d (.int i))))) M)) :
    ∃ M, fnM 1 N (sSeq (sFor ks (sRng1 (aCons (eCB fMax2 (aCons (eC (.int 1)) (aCons (eCB fMin2 (aCons (eCG fLen (aCons (eVar 0) aNil)) (aCons (eC (.int c)) aNil))) aNil))) aNil)) (gN 1) f) (sRet (eC (.bool true)))) [.scr ns] [] = .ok (.d (.bool true)) M := by
  refine fin_law ?_
  rw [wp_fn]
  refine ⟨rfl, ?_⟩
  rw [wp_seq]
  show WpFor _ _ _ _ _ _ _
  refine wp_fix (fun _ _ => True) (cells_w h0 (fun n => ?_) hc)
  refine ⟨_, items_r n, trivial, ?_, fun M _ => ?_⟩
  · rintro i x M hx -
    have hi := (List.getElem?_eq_some_iff.mp hx).1
    simp at hi
    simp [hi] at hx
    subst hx
    rw [gN_eq, wp_ok]
    exact (h i M).mono fun fl M' ⟨ρ2, e, e2⟩ => ⟨ρ2, e, e2, trivial⟩
  · simp -dsimp
end Z

/-! Plain part 10: dish, bran, dust, flour; hours. -/
namespace Z
open PySem PySem.Spec PyProof.Rows L2
theorem inD_ints (h : Int) : ∀ ns : List Int, inD (.int h) (ns.map PyData.int) = decide (h ∈ ns)
  | [] => by simp [inD]
  | n :: r => by
    have ih := inD_ints h r
    simp only [inD, List.map_cons, List.any_cons] at ih ⊢
    rw [ih]
    simp [PyData.eqv]
    by_cases e : n = h
    · simp [e]
    · have : ¬ h = n := fun z => e z.symm
      simp [e, this]
theorem plain_ints (ns : List Int) : PyData.plainAll (ns.map PyData.int) = true := plainAll_of fun x hx => by
  obtain ⟨i, _, rfl⟩ := List.mem_map.mp hx; rfl
theorem depth_ints (ns : List Int) : PyData.depthAll (ns.map PyData.int) = 0 := by
  induction ns with
  | nil => rfl
  | cons n r ih => simp [PyData.depthAll, PyData.depth, ih]
theorem fIn_ints (h : Int) (ns : List Int) : fIn (.int h) (.tuple (ns.map PyData.int)) = some (.bool (decide (h ∈ ns))) := by
  simp [fIn, okIn, plain_ints, depth_ints, PyData.plain, PyData.depth, inD_ints]
theorem fNotIn_ints (h : Int) (ns : List Int) : fNotIn (.int h) (.tuple (ns.map PyData.int)) = some (.bool (!decide (h ∈ ns))) := by
  simp [fNotIn, okIn, plain_ints, depth_ints, PyData.plain, PyData.depth, inD_ints]
def givO (r : Rule) (p : Int × Int) : Int := if p.1 ∈ r.free then 0 else p.2
def givL (r : Rule) (ps : List (Int × Int)) : List Int := ps.map (givO r)
theorem giving_eq (r : Rule) (ps : List (Int × Int)) (hl : ps.length ≤ 1000) (M : Store) : m_giving [.d r.D, .d (sackD ps)] M = .ok (.d (.list ((givL r ps).map PyData.int))) M := by
  refine Wp.eq ?_
  unfold m_giving b_giving
  simp -dsimp
  refine wp_mapA ps (fun p => .d (pr p)) (fun p => .d (.int (givO r p))) ?_
  simp -dsimp
  refine ⟨items_sackV ps, by omega, ?_, ?_⟩
  · intro p _
    have := fIn_ints p.1 r.free
    generalize hL : r.free.map PyData.int = L at this
    simp -dsimp [pr, this, hL]
    by_cases h : p.1 ∈ r.free <;> simp -dsimp [h, givO]
  · simp -dsimp [givL]
@[simp] theorem fSum_lints (ns : List Int) : fSum [.list (ns.map PyData.int)] = some (.int ns.sum) := by simp [fSum]
@[simp] theorem fSum_tints (ns : List Int) : fSum [.tuple (ns.map PyData.int)] = some (.int ns.sum) := by simp [fSum]
def dish (r : Rule) (ps : List (Int × Int)) : Int := (givL r ps).sum / r.per
structure Parts where
  dish : Int
  bran : Int
  dust : Int
  flour : Int
def Parts.D (p : Parts) : PyData := .tuple [.int p.dish, .int p.bran, .int p.dust, .int p.flour]
def parts (r : Rule) (ps : List (Int × Int)) : Parts :=
  ⟨dish r ps, (grain ps - dish r ps) * r.bran / 100, (grain ps - dish r ps) * r.dust / 100, grain ps - dish r ps - (grain ps - dish r ps) * r.bran / 100 - (grain ps - dish r ps) * r.dust / 100⟩
theorem giv_sum (r : Rule) : ∀ ps : List (Int × Int), (∀ p ∈ ps, 0 ≤ p.2) → 0 ≤ (givL r ps).sum ∧ (givL r ps).sum ≤ grain ps
  | [], _ => by simp [givL, grain]
  | p :: ps, h => by
    have ih := giv_sum r ps fun q hq => h q (by simp [hq])
    have h0 := h p (by simp)
    simp only [givL, grain, List.map_cons, List.sum_cons, givO] at ih ⊢
    split <;> omega
theorem dish_bd {m : Int} {r : Rule} {ps : List (Int × Int)} (hr : r.Ok) (hs : SackT m ps) : 0 ≤ dish r ps ∧ 2 * dish r ps ≤ grain ps := by
  have h := giv_sum r ps fun p hp => by have := hs.dom p hp; omega
  have hp := hr.per
  unfold dish
  generalize (givL r ps).sum = s at *
  have a : 0 ≤ s / r.per := Int.ediv_nonneg h.1 (by omega)
  have b : s / r.per * r.per ≤ s := Int.ediv_mul_le s (by omega)
  have c : s / r.per * 2 ≤ s / r.per * r.per := Int.mul_le_mul_of_nonneg_left (by omega) a
  omega
theorem dish_in_eq {r : Rule} {ps : List (Int × Int)} (hr : r.Ok) (hl : ps.length ≤ 1000) (M : Store) : m_dish_in [.d r.D, .d (sackD ps)] M = .ok (.d (.int (dish r ps))) M := by
  have hp := hr.per
  have g := giving_eq r ps hl M
  have s := fSum_lints (givL r ps)
  have d := fDiv_int (givL r ps).sum (j := r.per) (by omega) (by omega)
  generalize (givL r ps).map PyData.int = L at *
  simp [m_dish_in, b_dish_in, g, s, d, dish]
theorem parts_in_eq {r : Rule} {ps : List (Int × Int)} (hr : r.Ok) (hl : ps.length ≤ 1000) (M : Store) : m_parts_in [.d r.D, .d (sackD ps)] M = .ok (.d (parts r ps).D) M := by
  have d := dish_in_eq hr hl M
  have g := grain_in_eq hl M
  have b := hr.bran; have u := hr.dust
  have m1 := fMul_r (grain ps - dish r ps) (j := r.bran) (by omega) (by omega)
  have m2 := fMul_r (grain ps - dish r ps) (j := r.dust) (by omega) (by omega)
  simp [m_parts_in, b_parts_in, d, g, m1, m2, fDiv_int _ (j := 100) (by decide) (by decide), parts, Parts.D]
theorem pct {l b c : Int} (hl : 0 ≤ l) (h0 : 0 ≤ b) (h1 : b ≤ c) : 0 ≤ l * b / 100 ∧ l * b / 100 ≤ l * c / 100 := by
  have a := Int.mul_nonneg hl h0
  have d := Int.mul_le_mul_of_nonneg_left h1 hl
  generalize l * b = x at *
  generalize l * c = y at *
  omega
theorem parts_bd {m : Int} {r : Rule} {ps : List (Int × Int)} (hr : r.Ok) (hs : SackT m ps) : 0 ≤ (parts r ps).bran ∧ 0 ≤ (parts r ps).dust ∧ 0 ≤ (parts r ps).flour ∧ (parts r ps).dish + (parts r ps).bran + (parts r ps).dust + (parts r ps).flour = grain ps := by
  have d := dish_bd hr hs
  have b := pct (l := grain ps - dish r ps) (b := r.bran) (c := 60) (by omega) hr.bran.1 hr.bran.2
  have u := pct (l := grain ps - dish r ps) (b := r.dust) (c := 20) (by omega) hr.dust.1 hr.dust.2
  simp only [parts]
  generalize (grain ps - dish r ps) * r.bran / 100 = x at *
  generalize (grain ps - dish r ps) * r.dust / 100 = y at *
  omega
end Z

/-! Plain part 11: rights, speeds, hours. -/
namespace Z
open PySem PySem.Spec PyProof.Rows L2
@[simp] theorem itemsTt (M : Store) (xs : List PyData) : itemsK M true (.d (.tuple xs)) = none := rfl
@[simp] theorem itemsFl (M : Store) (xs : List PyData) : itemsK M false (.d (.list xs)) = none := rfl
/-! hours -/
def hrs (r : Rule) (ps : List (Int × Int)) (sp : Int) : Int := (grain ps - dish r ps + sp - 1) / sp
end Z

namespace Z
open PySem PySem.Spec PyProof.Rows L2
/-- shared_in: 0 amount, 1 weights, 2 total, 3 found, 4 order, 5 rest, 6 at, 7 weight -/
def f1_shared_in : Sm Fl := (sSet 3 (e2 fAdd (eG fIx (wVar 3) (eVar 6)) (eC (.int 1))) (eVar 6))
def b_shared_in : Sm Fl := (sSeq (sAsg (eCB fSum (aCons (eVar 1) aNil)) (gN 2))
  (sSeq (sIf (tVal (e2 fEq (eVar 2) (eC (.int 0)))) (sRet (eFrz (eLc (sOne (eVar 1)) (gN 7) tYesM (eC (.int 0)) [7]))) sNext)
  (sSeq (sAsgL 3 (eLc (sOne (eVar 1)) (gN 7) tYesM (e2 fDiv (e2 fMulI (eVar 7) (eVar 0)) (eVar 2)) [7]))
  (sSeq (sAsg (eFrz (lSort (eFrz (eLc (sEnum (aCons (eVar 1) aNil)) (gTupM 2 (gConsM (gN 6) (gConsM (gN 7) gNilM))) tYesM (eTup (aCons (e2 fSub (eC (.int 0)) (e2 fMod (e2 fMulI (eVar 7) (eVar 0)) (eVar 2))) (aCons (eVar 6) aNil))) [6, 7])))) (gN 4))
  (sSeq (sFor [0, 1, 2, 4, 5, 6, 7] (sOne (eSl (eVar 4) oN (oS (e2 fSub (eVar 0) (eCB fSum (aCons (wVar 3) aNil)))))) (gTupM 2 (gConsM (gN 5) (gConsM (gN 6) gNilM))) f1_shared_in)
  (sFrz 3 (sRet (eVar 3))))))))
def m_shared_in : List Val → Store → Res Val := fnM 2 8 b_shared_in
/-- rows_in: 0 rule, 1 sack, 2 dishes, 3 left, 4 brans, 5 rest, 6 dusts, 7 rows, 8 dish, 9 bran, 10 dust, 11 flour, 12 at, 13 house, 14 ounces, 15 own, 16 one -/
def f1_rows_in : Sm Fl := (sApp 7 (eTup (aCons (eVar 13) (aCons (eG fIx (eVar 2) (eVar 12)) (aCons (eG fIx (eVar 4) (eVar 12)) (aCons (eG fIx (eVar 6) (eVar 12)) (aCons (e2 fSub (eG fIx (eVar 5) (eVar 12)) (eG fIx (eVar 6) (eVar 12))) aNil)))))))
def b_rows_in : Sm Fl := (sSeq (sAsg (eCall 2 m_parts_in (aCons (eVar 0) (aCons (eVar 1) aNil))) (gTupM 4 (gConsM (gN 8) (gConsM (gN 9) (gConsM (gN 10) (gConsM (gN 11) gNilM))))))
  (sSeq (sAsg (eCall 2 m_shared_in (aCons (eVar 8) (aCons (eCall 2 m_giving (aCons (eVar 0) (aCons (eVar 1) aNil))) aNil))) (gN 2))
  (sSeq (sAsg (eFrz (eLc (sZip (aCons (eVar 1) (aCons (eVar 2) aNil))) (gTupM 2 (gConsM (gTupM 2 (gConsM (gN 13) (gConsM (gN 14) gNilM))) (gConsM (gN 15) gNilM))) tYesM (e2 fSub (eVar 14) (eVar 15)) [15, 13, 14])) (gN 3))
  (sSeq (sAsg (eCall 2 m_shared_in (aCons (eVar 9) (aCons (eVar 3) aNil))) (gN 4))
  (sSeq (sAsg (eFrz (eLc (sZip (aCons (eVar 3) (aCons (eVar 4) aNil))) (gTupM 2 (gConsM (gN 16) (gConsM (gN 15) gNilM))) tYesM (e2 fSub (eVar 16) (eVar 15)) [16, 15])) (gN 5))
  (sSeq (sAsg (eCall 2 m_shared_in (aCons (eVar 10) (aCons (eVar 5) aNil))) (gN 6))
  (sSeq (sAsgL 7 (lLst aNil))
  (sSeq (sFor [0, 1, 3, 8, 9, 10, 11, 12, 13, 14, 15, 16] (sEnum (aCons (eVar 1) aNil)) (gTupM 2 (gConsM (gN 12) (gConsM (gTupM 2 (gConsM (gN 13) (gConsM (gN 14) gNilM))) gNilM))) f1_rows_in)
  (sRet (eTupOf (wVar 7)))))))))))
def m_rows_in : List Val → Store → Res Val := fnM 2 17 b_rows_in
/-- by_house: 0 rule, 1 sack -/
def b_by_house : Sm Fl := (sSeq (sDrop (eCall 1 m_need_rule (aCons (eVar 0) aNil)))
  (sSeq (sDrop (eCall 1 m_need_sack (aCons (eVar 1) aNil)))
  (sRet (eCall 2 m_rows_in (aCons (eVar 0) (aCons (eVar 1) aNil))))))
def m_by_house : List Val → Store → Res Val := fnM 2 2 b_by_house
end Z

/-! Plain part 12: what is shared: the arithmetic. -/
namespace Z
open PySem PySem.Spec PyProof.Rows L2
def lep (a b : Int × Int) : Bool := !ltp b a
theorem ltp_iff (a b : Int × Int) : ltp a b = true ↔ a.1 < b.1 ∨ (a.1 = b.1 ∧ a.2 < b.2) := by simp [ltp]
theorem lep_iff (a b : Int × Int) : lep a b = true ↔ a.1 < b.1 ∨ (a.1 = b.1 ∧ a.2 ≤ b.2) := by
  simp only [lep, Bool.not_eq_true', ← Bool.not_eq_true, ltp_iff]; omega
theorem lep_trans (a b c : Int × Int) : lep a b = true → lep b c = true → lep a c = true := by simp only [lep_iff]; omega
theorem lep_total (a b : Int × Int) : (lep a b || lep b a) = true := by
  rw [Bool.or_eq_true, lep_iff, lep_iff]; omega
theorem sortD_prs (xs : List (Int × Int)) : sortD (xs.map pr) = (xs.mergeSort lep).map pr := by
  unfold sortD
  rw [List.map_mergeSort (r := lep) (f := pr) (l := xs) (s := leD)]
  intro a _ b _
  simp [lep, leD, dl_pr]
theorem okSort_prs {xs : List (Int × Int)} (h : xs.length ≤ 1000) : okSort (xs.map pr) = true := by
  have d : ∀ xs : List (Int × Int), PyData.depthAll (xs.map pr) ≤ 1 := fun xs => by
    induction xs with
    | nil => simp [PyData.depthAll]
    | cons n r ih =>
      have : (pr n).depth = 1 := rfl
      simp only [List.map_cons, PyData.depthAll, this]; omega
  have d := d xs
  simp only [okSort, Bool.and_eq_true, decide_eq_true_eq, List.length_map]
  refine ⟨⟨⟨?_, ?_⟩, by omega⟩, by omega⟩
  · simp [PySem.W.alike, pr, PySem.W.alikeAll]
  · simp [tupNe, pr]
def rems (a t : Int) (ws : List Int) : List Int := ws.map fun w => w * a % t
def flos (a t : Int) (ws : List Int) : List Int := ws.map fun w => w * a / t
def ordU (a t : Int) (ws : List Int) : List (Int × Int) := ws.zipIdx.map fun p => (-(p.1 * a % t), (p.2 : Int))
def ordP (a t : Int) (ws : List Int) : List (Int × Int) := (ordU a t ws).mergeSort lep
def bump (f : List Int) (i : Nat) : List Int := f.set i (f.getD i 0 + 1)
def gave (f : List Int) (ps : List (Int × Int)) : List Int := ps.foldl (fun f p => bump f p.2.toNat) f
def over (a t : Int) (ws : List Int) : Nat := (a - (flos a t ws).sum).toNat
def share (a : Int) (ws : List Int) : List Int := if ws.sum = 0 then ws.map fun _ => 0 else gave (flos a ws.sum ws) ((ordP a ws.sum ws).take (over a ws.sum ws))
theorem gave_len (ps : List (Int × Int)) : ∀ f, (gave f ps).length = f.length := by
  induction ps with
  | nil => intro f; rfl
  | cons p r ih => intro f; simp only [gave, List.foldl_cons] at ih ⊢; rw [ih]; simp [bump]
theorem share_len (a : Int) (ws : List Int) : (share a ws).length = ws.length := by
  unfold share
  split
  · simp
  · rw [gave_len]; simp [flos]
theorem gave_snoc (f : List Int) (ps : List (Int × Int)) (p : Int × Int) : gave f (ps ++ [p]) = bump (gave f ps) p.2.toNat := by simp [gave, List.foldl_append]
/-! sums -/
theorem dm_sum (a t : Int) (ht : 0 < t) : ∀ ws : List Int, t * (flos a t ws).sum + (rems a t ws).sum = ws.sum * a
  | [] => by simp [flos, rems]
  | w :: r => by
    have ih := dm_sum a t ht r
    have := Int.mul_ediv_add_emod (w * a) t
    simp only [flos, rems, List.map_cons, List.sum_cons, Int.mul_add, Int.add_mul] at ih ⊢
    omega
theorem rems_bd (a t : Int) (ht : 0 < t) : ∀ ws : List Int, (∀ r ∈ rems a t ws, 0 ≤ r ∧ r < t) ∧ 0 ≤ (rems a t ws).sum ∧ (ws ≠ [] → (rems a t ws).sum < t * ws.length)
  | [] => by simp [rems]
  | w :: r => by
    obtain ⟨h1, h2, h3⟩ := rems_bd a t ht r
    have a0 := Int.emod_nonneg (w * a) (b := t) (by omega)
    have a1 := Int.emod_lt_of_pos (w * a) ht
    simp only [rems, List.map_cons, List.sum_cons, List.length_cons] at h1 h2 h3 ⊢
    refine ⟨fun x hx => ?_, by omega, fun _ => ?_⟩
    · rcases List.mem_cons.mp hx with rfl | hx
      · exact ⟨a0, a1⟩
      · exact h1 x hx
    · have e : t * ((r.length + 1 : Nat) : Int) = t * r.length + t := by push_cast; rw [Int.mul_add, Int.mul_one]
      rw [e]
      cases r with
      | nil => simp at *; omega
      | cons x y => have := h3 (by simp); omega
theorem over_bd {a : Int} {ws : List Int} (ht : 0 < ws.sum) : (over a ws.sum ws : Int) = a - (flos a ws.sum ws).sum ∧ over a ws.sum ws < ws.length := by
  have h := dm_sum a ws.sum ht ws
  obtain ⟨_, h2, h3⟩ := rems_bd a ws.sum ht ws
  have hne : ws ≠ [] := fun e => by rw [e] at ht; simp at ht
  have h3 := h3 hne
  generalize hd : a - (flos a ws.sum ws).sum = d
  have e : ws.sum * d = (rems a ws.sum ws).sum := by
    rw [← hd, Int.mul_sub]
    omega
  have d0 : 0 ≤ d := by
    rcases Int.lt_or_le d 0 with hneg | h0
    · have : ws.sum * d ≤ ws.sum * (-1) := Int.mul_le_mul_of_nonneg_left (by omega) (by omega)
      omega
    · exact h0
  have d1 : d < ws.length := by
    rcases Int.lt_or_le d ws.length with h0 | hge
    · exact h0
    · have : ws.sum * ws.length ≤ ws.sum * d := Int.mul_le_mul_of_nonneg_left hge (by omega)
      omega
  unfold over
  rw [hd]
  omega
/-! the order -/
theorem ordU_get (a t : Int) (ws : List Int) (m : Nat) : (ordU a t ws)[m]? = (ws[m]?).map fun w => (-(w * a % t), (m : Int)) := by
  simp [ordU, List.getElem?_zipIdx]
  cases ws[m]? <;> simp
theorem ordP_perm (a t : Int) (ws : List Int) : (ordP a t ws).Perm (ordU a t ws) := List.mergeSort_perm _ _
theorem ordP_len (a t : Int) (ws : List Int) : (ordP a t ws).length = ws.length := by rw [(ordP_perm a t ws).length_eq]; simp [ordU]
theorem ordP_pw (a t : Int) (ws : List Int) : (ordP a t ws).Pairwise fun p q => lep p q = true := List.pairwise_mergeSort (fun a b c => lep_trans a b c) (fun a b => lep_total a b) _
theorem ordU_mem {a t : Int} {ws : List Int} {p : Int × Int} (h : p ∈ ordU a t ws) : ∃ m : Nat, ∃ w, ws[m]? = some w ∧ p = (-(w * a % t), (m : Int)) := by
  obtain ⟨m, hm⟩ := List.getElem?_of_mem h
  rw [ordU_get] at hm
  cases e : ws[m]? with
  | none => rw [e] at hm; cases hm
  | some w => rw [e] at hm; cases hm; exact ⟨m, w, e, rfl⟩
theorem ordU_snd (a t : Int) (ws : List Int) : ((ordU a t ws).map Prod.snd).Nodup := by
  have e : (ordU a t ws).map Prod.snd = (List.range ws.length).map fun i : Nat => (i : Int) := by
    apply List.ext_getElem?
    intro i
    simp only [List.getElem?_map, ordU_get]
    by_cases h : i < ws.length
    · rw [List.getElem?_eq_getElem h, List.getElem?_range h]; rfl
    · rw [List.getElem?_eq_none (by omega), List.getElem?_eq_none (by simp; omega)]; rfl
  rw [e]
  unfold List.Nodup
  rw [List.pairwise_map]
  exact List.nodup_range.imp fun h e => h (by omega)
theorem ordP_snd (a t : Int) (ws : List Int) : ((ordP a t ws).map Prod.snd).Nodup := ((ordP_perm a t ws).map Prod.snd).nodup_iff.mpr (ordU_snd a t ws)
/-- the rests behind so many gifts -/
def wiped (r : List Int) (ps : List (Int × Int)) : List Int := ps.foldl (fun r p => r.set p.2.toNat (-1)) r
theorem wiped_len (ps : List (Int × Int)) : ∀ r, (wiped r ps).length = r.length := by
  induction ps with
  | nil => intro r; rfl
  | cons p q ih => intro r; simp only [wiped, List.foldl_cons] at ih ⊢; rw [ih]; simp
theorem wiped_get (ps : List (Int × Int)) : ∀ (r : List Int) (m : Nat), m < r.length → (wiped r ps)[m]? = if ∃ p ∈ ps, p.2.toNat = m then some (-1) else r[m]? := by
  induction ps with
  | nil => intro r m _; simp [wiped]
  | cons p q ih =>
    intro r m hm
    have := ih (r.set p.2.toNat (-1)) m (by simpa using hm)
    simp only [wiped, List.foldl_cons] at this ⊢
    rw [this]
    by_cases h1 : ∃ x ∈ q, x.2.toNat = m
    · rw [if_pos h1, if_pos (by obtain ⟨x, hx, e⟩ := h1; exact ⟨x, by simp [hx], e⟩)]
    · rw [if_neg h1]
      by_cases h2 : p.2.toNat = m
      · rw [if_pos ⟨p, by simp, h2⟩, h2, List.getElem?_set_self hm]
      · rw [if_neg (by
          rintro ⟨x, hx, e⟩
          rcases List.mem_cons.mp hx with rfl | hx
          · exact h2 e
          · exact h1 ⟨x, hx, e⟩), List.getElem?_set_ne h2]
theorem pick_step {a t : Int} {ws : List Int} (ht : 0 < t) {j : Nat} (hj : j < (ordP a t ws).length) :
    ∃ (i : Nat) (v : Int), (ordP a t ws)[j].2 = (i : Int) ∧ i < ws.length ∧ (wiped (rems a t ws) ((ordP a t ws).take j))[i]? = some v ∧ 0 ≤ v ∧
      (∀ (m : Nat) (x : Int), (wiped (rems a t ws) ((ordP a t ws).take j))[m]? = some x → x ≤ v ∧ (m < i → x ≠ v)) := by
  generalize hP : ordP a t ws = P at *
  have hpw : P.Pairwise fun p q => lep p q = true := by rw [← hP]; exact ordP_pw a t ws
  have hnd : (P.map Prod.snd).Nodup := by rw [← hP]; exact ordP_snd a t ws
  have hpm : P.Perm (ordU a t ws) := by rw [← hP]; exact ordP_perm a t ws
  obtain ⟨i, w, hi, he⟩ := ordU_mem (hpm.mem_iff.mp (List.getElem_mem hj))
  have hil : i < ws.length := (List.getElem?_eq_some_iff.mp hi).1
  have hrl : (rems a t ws).length = ws.length := by simp [rems]
  have hrg : ∀ m : Nat, (rems a t ws)[m]? = (ws[m]?).map fun w => w * a % t := fun m => by simp [rems]
  have hdis : ∀ p ∈ P.take j, p.2.toNat ≠ i := by
    intro p hp e
    obtain ⟨k, hk, rfl⟩ := List.mem_iff_getElem.mp hp
    simp at hk
    rw [List.getElem_take] at e
    obtain ⟨m, u, _, e2⟩ := ordU_mem (hpm.mem_iff.mp (List.getElem_mem (by omega : k < P.length)))
    have h1 : P[k].2 = P[j].2 := by rw [e2] at e ⊢; rw [he]; simp at e ⊢; omega
    have := (List.pairwise_iff_getElem.mp hnd) k j (by simp; omega) (by simpa using hj) (by omega)
    simp only [List.getElem_map] at this
    exact this h1
  refine ⟨i, w * a % t, by rw [he], hil, ?_, Int.emod_nonneg _ (by omega), ?_⟩
  · rw [wiped_get _ _ _ (by omega), if_neg (by rintro ⟨p, hp, e⟩; exact hdis p hp e), hrg, hi]; rfl
  · intro m x hx
    have hml : m < ws.length := by
      have := (List.getElem?_eq_some_iff.mp hx).1
      rw [wiped_len] at this; omega
    have v0 := Int.emod_nonneg (w * a) (b := t) (by omega)
    rw [wiped_get _ _ _ (by omega)] at hx
    by_cases hc : ∃ p ∈ P.take j, p.2.toNat = m
    · rw [if_pos hc] at hx; cases hx
      exact ⟨by omega, fun _ => by omega⟩
    · rw [if_neg hc, hrg, List.getElem?_eq_getElem hml] at hx
      cases hx
      -- its own place in the order is at j or behind
      have hmem : (-(ws[m] * a % t), (m : Int)) ∈ P := hpm.mem_iff.mpr (List.mem_of_getElem? (by rw [ordU_get, List.getElem?_eq_getElem hml]; rfl))
      obtain ⟨k, hk, e⟩ := List.mem_iff_getElem.mp hmem
      have hkj : j ≤ k := by
        rcases Nat.lt_or_ge k j with h | h
        · exact (hc ⟨P[k], by rw [List.mem_iff_getElem]; exact ⟨k, by simp; omega, by simp⟩, by rw [e]; simp⟩).elim
        · exact h
      have hle : lep P[j] P[k] = true := by
        rcases Nat.eq_or_lt_of_le hkj with rfl | h
        · rw [lep_iff]; omega
        · exact List.pairwise_iff_getElem.mp hpw j k hj hk h
      rw [lep_iff, e, he] at hle
      simp only at hle
      refine ⟨by show ws[m] * a % t ≤ _; omega, fun hlt hx => by
        have hx : ws[m] * a % t = w * a % t := hx
        omega⟩
end Z

/-! Plain part 13: what is shared: the runs. -/
namespace Z
open PySem PySem.Spec PyProof.Rows L2
/-- a list or a tuple of whole numbers -/
def seqI (k : Bool) (ws : List Int) : PyData := if k then .list (ws.map PyData.int) else .tuple (ws.map PyData.int)
theorem seqI_t (ws : List Int) : PyData.list (ws.map PyData.int) = seqI true ws := rfl
@[simp] theorem kindV_seqI (M : Store) (k : Bool) (ws : List Int) : kindV M (.d (seqI k ws)) = some k := by cases k <;> rfl
@[simp] theorem fSum_seqI (k : Bool) (ws : List Int) : fSum [seqI k ws] = some (.int ws.sum) := by cases k <;> simp [seqI]
theorem itemsK_seqI (M : Store) (k : Bool) (ws : List Int) : itemsK M k (.d (seqI k ws)) = some (ws.map fun w => Val.d (.int w)) := by cases k <;> simp [seqI, itemsK, Function.comp_def]
theorem items_seqI (k : Bool) (ws : List Int) : (Src.one k (.d (seqI k ws))).items = some (ws.map fun w => Val.d (.int w)) := by simp [Src.items, itemsK_seqI]
theorem shared_in_eq (k : Bool) {a : Int} {ws : List Int} (h0 : 0 ≤ a) (h1 : a ≤ 2000000000) (hw : ∀ w ∈ ws, 0 ≤ w ∧ w ≤ 1000000) (hl : ws.length ≤ 100) (hs : 0 ≤ ws.sum) (hs2 : ws.sum < 1073741824) (M : Store) :
    m_shared_in [.d (.int a), .d (seqI k ws)] M = .ok (.d (.list ((share a ws).map PyData.int))) M := by
  refine Wp.eq ?_
  unfold m_shared_in b_shared_in
  by_cases hz : ws.sum = 0
  · simp -dsimp [hz]
    refine wp_mapA ws (fun w => .d (.int w)) (fun _ => .d (.int 0)) ?_
    simp -dsimp
    refine ⟨items_seqI k ws, by omega, fun w _ => by simp -dsimp, ?_⟩
    have : share a ws = ws.map fun _ => 0 := by rw [share, if_pos hz]
    simp -dsimp [this, Function.comp_def]
  · have ht : 0 < ws.sum := by omega
    have fm : ∀ w ∈ ws, fMulI (.int w) (.int a) = some (.int (w * a)) := fun w hw' => by
      have := hw w hw'
      exact fMul_l a (by omega) (by omega)
    have fd : ∀ i : Int, fDiv (.int i) (.int ws.sum) = some (.int (i / ws.sum)) := fun i => fDiv_int i ht hs2
    have fo : ∀ i : Int, fMod (.int i) (.int ws.sum) = some (.int (i % ws.sum)) := fun i => fMod_int i ht
    simp -dsimp [hz]
    refine wp_mapA ws (fun w => .d (.int w)) (fun w => .d (.int (w * a / ws.sum))) ?_
    simp -dsimp
    refine ⟨items_seqI k ws, by omega, fun w hw' => by simp -dsimp [fm w hw', fd], ?_⟩
    have e1 : (ws.map fun w => PyData.int (w * a / ws.sum)) = (flos a ws.sum ws).map PyData.int := by simp [flos, Function.comp_def]
    simp -dsimp [e1]
    refine wp_mapA ws.zipIdx (fun p => .d (.tuple [.int (p.2 : Int), .int p.1])) (fun p => .d (pr (-(p.1 * a % ws.sum), (p.2 : Int)))) ?_
    simp -dsimp
    refine ⟨items_enumV PyData.int k _ ws (itemsK_seqI [] k ws), by simp; omega, fun p hp => ?_, ?_⟩
    · have hp1 : p.1 ∈ ws := by
        obtain ⟨x, i⟩ := p
        exact List.fst_mem_of_mem_zipIdx hp
      simp -dsimp [fm p.1 hp1, fo, pr]
    · have e2 : (ws.zipIdx.map fun p => pr (-(p.1 * a % ws.sum), (p.2 : Int))) = (ordU a ws.sum ws).map pr := by simp [ordU, Function.comp_def]
      have hok := okSort_prs (xs := ordU a ws.sum ws) (by simp [ordU]; omega)
      have hso : sortD ((ordU a ws.sum ws).map pr) = (ordP a ws.sum ws).map pr := sortD_prs _
      simp -dsimp [e2, hok, hso]
      obtain ⟨o1, o2⟩ := over_bd (a := a) ht
      have hol := ordP_len a ws.sum ws
      refine wp_acc 3 (fun i s M' => s = some (.ol ((gave (flos a ws.sum ws) (((ordP a ws.sum ws).take (over a ws.sum ws)).take i)).map PyData.int)) ∧ M' = M) ?_
      have hsl : fSl none (some (a - (flos a ws.sum ws).sum)) (.list ((ordP a ws.sum ws).map pr)) = some (.list (((ordP a ws.sum ws).take (over a ws.sum ws)).map pr)) := by
        rw [← o1]; simp [fSl, cut_to _ (Int.natCast_nonneg _)]
      have hfs : fSum [.list ((flos a ws.sum ws).map PyData.int)] = some (.int (flos a ws.sum ws).sum) := by simp
      generalize hF : (flos a ws.sum ws).map PyData.int = F at *
      generalize hG : (ordP a ws.sum ws).map pr = G at *
      simp -dsimp [hfs, hsl]
      generalize hP : (ordP a ws.sum ws).take (over a ws.sum ws) = P at *
      have hmem : ∀ q ∈ P, ∃ m : Nat, q.2 = (m : Int) ∧ m < ws.length := fun q hq => by
        obtain ⟨m, w, e, rfl⟩ := ordU_mem ((ordP_perm a ws.sum ws).mem_iff.mp (List.mem_of_mem_take (by rw [hP]; exact hq)))
        exact ⟨m, rfl, (List.getElem?_eq_some_iff.mp e).1⟩
      have hsh : share a ws = gave (flos a ws.sum ws) P := by rw [share, if_neg hz, hP]
      refine ⟨P.map fun q => Val.d (pr q), ?_, ⟨some (.ol F), rfl, by rw [← hF]; rfl, rfl⟩, ?_, ?_⟩
      · have e : ((ordP a ws.sum ws).map pr).take (over a ws.sum ws) = P.map pr := by rw [← List.map_take, hP]
        rw [e]; exact items_listV pr P
      · rintro j x s _ hx ⟨rfl, rfl⟩
        have hj : j < P.length := by simpa using (List.getElem?_eq_some_iff.mp hx).1
        simp [hj] at hx
        subst hx
        obtain ⟨m, hm, hml⟩ := hmem P[j] (List.getElem_mem hj)
        have ht1 : P.take (j + 1) = P.take j ++ [P[j]] := by rw [List.take_succ, List.getElem?_eq_getElem hj]; rfl
        have hgl := gave_len (P.take j) (flos a ws.sum ws)
        have hfl : (flos a ws.sum ws).length = ws.length := by simp [flos]
        rw [ht1, gave_snoc, hm]
        generalize hf : gave (flos a ws.sum ws) (P.take j) = f at *
        have hlt : m < f.length := by omega
        have hix : atI (f.map PyData.int) (m : Int) = some (.int f[m]) := by rw [atI_nat _ _ (by simpa using hlt)]; simp
        have hixn : ixN f.length (m : Int) = some m := ixN_nat hlt
        have hget : f[m]?.getD 0 = f[m] := by simp [hlt]
        simp -dsimp [pr, hm, f1_shared_in, ixV, hix, hixn, bump, hget]
      · rintro s _ ⟨rfl, rfl⟩
        simp -dsimp [hsh]
theorem bump_sum (f : List Int) : ∀ m : Nat, m < f.length → (bump f m).sum = f.sum + 1 := by
  induction f with
  | nil => intro m h; simp at h
  | cons x r ih =>
    intro m h
    cases m with
    | zero => simp [bump]; omega
    | succ m =>
      have := ih m (by simpa using h)
      simp [bump] at this ⊢; omega
@[simp ↓] theorem wp_eLq {ρ : Rho} {M : Store} {Q : Val → Store → Prop} (f : List PyData → PyData → Option PyData) (mo mv : Sm Val) : Wp Q (eLq f mo mv ρ M) = Wp (fun y M1 => Wp Q (match load M1 y with
  | some (.list _) => (mv ρ M1).bind fun z M2 => match load M2 y, load M2 z with
    | some (.list ds), some d => match f ds d with
      | some r => .ok (.d r) M2
      | none => .stuck
    | _, _ => .stuck
  | _ => .stuck)) (mo ρ M) := (wp_bindE _ _ _).trans (by congr)
theorem zsum (ws : List Int) : (ws.map fun _ => (0 : Int)).sum = 0 := by
  induction ws with
  | nil => rfl
  | cons a b ih => simpa using ih
end Z

/-! Plain part 14: weights. -/
namespace Z
open PySem PySem.Spec PyProof.Rows L2
structure WtOk (ws : List Int) : Prop where
  lo : 1 ≤ ws.length
  hi : ws.length ≤ 8
  all : ∀ w ∈ ws, 0 ≤ w ∧ w ≤ 1000000
  pos : 0 < ws.sum
theorem sum_hi (m : Int) : ∀ ws : List Int, (∀ w ∈ ws, 0 ≤ w ∧ w ≤ m) → 0 ≤ ws.sum ∧ ws.sum ≤ m * ws.length
  | [], _ => by simp
  | w :: r, h => by
    have ih := sum_hi m r fun x hx => h x (by simp [hx])
    have := h w (by simp)
    have e : m * ((r.length + 1 : Nat) : Int) = m * r.length + m := by push_cast; rw [Int.mul_add, Int.mul_one]
    simp only [List.sum_cons, List.length_cons, e]; omega
theorem WtOk.bd {ws : List Int} (h : WtOk ws) : ws.sum ≤ 8000000 := by
  have a := sum_hi 1000000 ws h.all
  have := h.hi
  omega
/-! what is known of shares -/
theorem gave_sum {a t : Int} {ws : List Int} (ht : 0 < t) : ∀ j, j ≤ (ordP a t ws).length → (gave (flos a t ws) ((ordP a t ws).take j)).sum = (flos a t ws).sum + j := by
  intro j
  induction j with
  | zero => intro _; simp [gave]
  | succ j ih =>
    intro hle
    have hj : j < (ordP a t ws).length := by omega
    have ht1 : (ordP a t ws).take (j + 1) = (ordP a t ws).take j ++ [(ordP a t ws)[j]] := by rw [List.take_succ, List.getElem?_eq_getElem hj]; rfl
    obtain ⟨i, v, p1, p2, _⟩ := pick_step (a := a) (ws := ws) ht hj
    rw [ht1, gave_snoc, p1, bump_sum _ _ (by rw [gave_len]; simp [flos]; omega), ih (by omega)]
    omega
theorem share_sum {a : Int} {ws : List Int} (h0 : 0 ≤ a) (h1 : a ≤ ws.sum) : (share a ws).sum = a := by
  by_cases hz : ws.sum = 0
  · rw [share, if_pos hz, zsum]; omega
  · rw [share, if_neg hz]
    have ho := over_bd (a := a) (ws := ws) (by omega)
    have hl := ordP_len a ws.sum ws
    rw [gave_sum (by omega) _ (by omega)]
    omega
theorem share_nn {a : Int} {ws : List Int} (h0 : 0 ≤ a) (hw : ∀ w ∈ ws, 0 ≤ w) (hs : 0 ≤ ws.sum) : ∀ x ∈ share a ws, 0 ≤ x := by
  intro x hx
  unfold share at hx
  split at hx
  · obtain ⟨_, _, rfl⟩ := List.mem_map.mp hx; omega
  · have : ∀ (ps : List (Int × Int)) (f : List Int), (∀ y ∈ f, 0 ≤ y) → ∀ y ∈ gave f ps, 0 ≤ y := by
      intro ps
      induction ps with
      | nil => intro f h; exact h
      | cons p r ih =>
        intro f h
        refine ih _ fun y hy => ?_
        rcases List.mem_or_eq_of_mem_set hy with hy | rfl
        · exact h y hy
        · have : 0 ≤ f.getD p.2.toNat 0 := by
            rw [List.getD_eq_getElem?_getD]
            cases e : f[p.2.toNat]? with
            | none => simp
            | some z => exact h z (List.mem_of_getElem? e)
          omega
    refine this _ _ (fun y hy => ?_) x hx
    obtain ⟨w, hw', rfl⟩ := List.mem_map.mp hy
    exact Int.ediv_nonneg (Int.mul_nonneg (hw w hw') h0) hs
theorem le_sum : ∀ {l : List Int}, (∀ x ∈ l, 0 ≤ x) → 0 ≤ l.sum ∧ ∀ x ∈ l, x ≤ l.sum
  | [], _ => by simp
  | y :: r, h => by
    have ih := le_sum (l := r) fun x hx => h x (by simp [hx])
    have := h y (by simp)
    simp only [List.sum_cons]
    refine ⟨by omega, fun x hx => ?_⟩
    rcases List.mem_cons.mp hx with rfl | hx
    · omega
    · have := ih.2 x hx; omega
theorem share_bd {a : Int} {ws : List Int} (h0 : 0 ≤ a) (h1 : a ≤ ws.sum) (hw : ∀ w ∈ ws, 0 ≤ w) : ∀ x ∈ share a ws, 0 ≤ x ∧ x ≤ a := by
  intro x hx
  have nn := share_nn h0 hw (by omega)
  have := (le_sum nn).2 x hx
  rw [share_sum h0 h1] at this
  exact ⟨nn x hx, this⟩
end Z

/-! Plain part 15: shares are fair, and none gets more than its weight. -/
namespace Z
open PySem PySem.Spec PyProof.Rows L2
theorem gave_get (ps : List (Int × Int)) : ∀ (f : List Int) (m : Nat), (ps.map fun p => p.2.toNat).Nodup → m < f.length →
    (gave f ps)[m]? = (f[m]?).map fun x => if ∃ p ∈ ps, p.2.toNat = m then x + 1 else x := by
  induction ps with
  | nil => intro f m _ hm; simp [gave]
  | cons p r ih =>
    intro f m hn hm
    simp only [List.map_cons, List.nodup_cons] at hn
    have := ih (bump f p.2.toNat) m hn.2 (by simpa [bump] using hm)
    simp only [gave, List.foldl_cons] at this ⊢
    rw [this]
    by_cases h2 : p.2.toNat = m
    · have h1 : ¬ ∃ x ∈ r, x.2.toNat = m := by
        rintro ⟨x, hx, e⟩
        exact hn.1 (List.mem_map.mpr ⟨x, hx, by rw [e, h2]⟩)
      have h3 : ∃ x ∈ p :: r, x.2.toNat = m := ⟨p, by simp, h2⟩
      simp only [if_neg h1, if_pos h3, bump, h2, List.getElem?_set_self hm]
      simp [hm]
    · have hg : (bump f p.2.toNat)[m]? = f[m]? := by rw [bump, List.getElem?_set_ne h2]
      rw [hg]
      by_cases h1 : ∃ x ∈ r, x.2.toNat = m
      · have h3 : ∃ x ∈ p :: r, x.2.toNat = m := by obtain ⟨x, hx, e⟩ := h1; exact ⟨x, by simp [hx], e⟩
        simp only [if_pos h1, if_pos h3]
      · have h3 : ¬ ∃ x ∈ p :: r, x.2.toNat = m := by
          rintro ⟨x, hx, e⟩
          rcases List.mem_cons.mp hx with rfl | hx
          · exact h2 e
          · exact h1 ⟨x, hx, e⟩
        simp only [if_neg h1, if_neg h3]
theorem ordP_toNat (a t : Int) (ws : List Int) : ((ordP a t ws).map fun p => p.2.toNat).Nodup := by
  have h := ordP_snd a t ws
  unfold List.Nodup at h ⊢
  rw [List.pairwise_map] at h ⊢
  refine List.Pairwise.imp_of_mem (fun {p q} hp hq h => ?_) h
  obtain ⟨m, _, _, rfl⟩ := ordU_mem ((ordP_perm a t ws).mem_iff.mp hp)
  obtain ⟨k, _, _, rfl⟩ := ordU_mem ((ordP_perm a t ws).mem_iff.mp hq)
  simp at h ⊢; omega
theorem perm_sum {l m : List Int} (h : l.Perm m) : l.sum = m.sum := by
  induction h with
  | nil => rfl
  | cons x _ ih => simp [ih]
  | swap x y l => simp only [List.sum_cons]; omega
  | trans _ _ h1 h2 => rw [h1, h2]
theorem ord_neg {a : Int} {ws : List Int} (ht : 0 < ws.sum) {j : Nat} (hj : j < over a ws.sum ws) (hl : j < (ordP a ws.sum ws).length) : (ordP a ws.sum ws)[j].1 < 0 := by
  have ho := over_bd (a := a) ht
  have hd := dm_sum a ws.sum ht ws
  generalize hP : ordP a ws.sum ws = P at *
  have hS : (P.map fun q => -q.1).sum = (rems a ws.sum ws).sum := by
    have h1 := perm_sum ((ordP_perm a ws.sum ws).map fun q : Int × Int => -q.1)
    rw [hP] at h1
    rw [h1]
    have : ∀ (l : List Int) (k : Nat), ((l.zipIdx k).map (fun p => (-(p.1 * a % ws.sum), (p.2 : Int)))).map (fun q => -q.1) = l.map fun w => w * a % ws.sum := by
      intro l
      induction l with
      | nil => intro k; rfl
      | cons x y ih => intro k; simp only [List.zipIdx_cons, List.map_cons, ih]; simp
    rw [ordU, this ws 0, rems]
  have hb : ∀ q ∈ P, 0 ≤ -q.1 ∧ -q.1 < ws.sum := fun q hq => by
    obtain ⟨m, w, _, rfl⟩ := ordU_mem ((ordP_perm a ws.sum ws).mem_iff.mp (by rw [hP]; exact hq))
    have := Int.emod_nonneg (w * a) (b := ws.sum) (by omega)
    have := Int.emod_lt_of_pos (w * a) ht
    simp; omega
  have hpw : P.Pairwise fun p q => lep p q = true := by rw [← hP]; exact ordP_pw a ws.sum ws
  rcases Int.lt_or_le P[j].1 0 with h | h
  · exact h
  · exfalso
    have h0 := (hb _ (List.getElem_mem hl)).1
    have hs : (P.map fun q => -q.1).sum = ((P.take j).map fun q => -q.1).sum + ((P.drop j).map fun q => -q.1).sum := by
      rw [← List.sum_append, ← List.map_append, List.take_append_drop]
    have h1 : ((P.take j).map fun q => -q.1).sum ≤ ws.sum * j := by
      have : ∀ l : List (Int × Int), (∀ q ∈ l, 0 ≤ -q.1 ∧ -q.1 < ws.sum) → (l.map fun q => -q.1).sum ≤ ws.sum * l.length := by
        intro l
        induction l with
        | nil => simp
        | cons x y ih =>
          intro h
          have := ih fun q hq => h q (by simp [hq])
          have := h x (by simp)
          have e : ws.sum * ((y.length + 1 : Nat) : Int) = ws.sum * y.length + ws.sum := by push_cast; rw [Int.mul_add, Int.mul_one]
          simp only [List.map_cons, List.sum_cons, List.length_cons, e]; omega
      have := this (P.take j) fun q hq => hb q (List.mem_of_mem_take hq)
      simpa [Nat.min_eq_left (by omega : j ≤ P.length)] using this
    have h2 : ((P.drop j).map fun q => -q.1).sum ≤ 0 := by
      have : ∀ q ∈ P.drop j, -q.1 ≤ 0 := fun q hq => by
        obtain ⟨k, hk, rfl⟩ := List.mem_iff_getElem.mp hq
        simp at hk
        rw [List.getElem_drop]
        rcases Nat.eq_zero_or_pos k with rfl | hk0
        · simpa using h
        · have := List.pairwise_iff_getElem.mp hpw j (j + k) hl (by omega) (by omega)
          rw [lep_iff] at this
          omega
      have h3 : ∀ l : List (Int × Int), (∀ q ∈ l, -q.1 ≤ 0) → (l.map fun q => -q.1).sum ≤ 0 := by
        intro l
        induction l with
        | nil => simp
        | cons x y ih => intro h; have := ih fun q hq => h q (by simp [hq]); have := h x (by simp); simp only [List.map_cons, List.sum_cons]; omega
      exact h3 _ this
    have h4 : ws.sum * j < ws.sum * (over a ws.sum ws) := Int.mul_lt_mul_of_pos_left (by omega) ht
    have h5 : ws.sum * (over a ws.sum ws : Int) = (rems a ws.sum ws).sum := by
      rw [ho.1, Int.mul_sub]; omega
    omega
/-- what each gets: its weight times the amount, divided, and one more only where a rest is left -/
theorem share_at {a : Int} {ws : List Int} (ht : 0 < ws.sum) {m : Nat} (hm : m < ws.length) :
    ∃ x, (share a ws)[m]? = some x ∧ (x = ws[m] * a / ws.sum ∨ (x = ws[m] * a / ws.sum + 1 ∧ 0 < ws[m] * a % ws.sum)) := by
  have ho := over_bd (a := a) ht
  have hl := ordP_len a ws.sum ws
  rw [share, if_neg (by omega)]
  have hnd : (((ordP a ws.sum ws).take (over a ws.sum ws)).map fun p => p.2.toNat).Nodup := by
    rw [List.map_take]; exact (ordP_toNat a ws.sum ws).sublist (List.take_sublist _ _)
  rw [gave_get _ _ _ hnd (by simp [flos]; omega)]
  have hf : (flos a ws.sum ws)[m]? = some (ws[m] * a / ws.sum) := by simp [flos, hm]
  rw [hf, Option.map_some]
  refine ⟨_, rfl, ?_⟩
  split
  · rename_i h
    obtain ⟨p, hp, e⟩ := h
    obtain ⟨j, hj, rfl⟩ := List.mem_iff_getElem.mp hp
    rw [List.length_take] at hj
    rw [List.getElem_take] at e
    have hn := ord_neg (a := a) ht (j := j) (by omega) (by omega)
    obtain ⟨k, w, hk, e2⟩ := ordU_mem ((ordP_perm a ws.sum ws).mem_iff.mp (List.getElem_mem (by omega : j < (ordP a ws.sum ws).length)))
    rw [e2] at e hn
    simp at e hn
    subst e
    rw [List.getElem?_eq_getElem hm] at hk
    cases hk
    exact .inr ⟨rfl, by omega⟩
  · exact .inl rfl
theorem share_le {a : Int} {ws : List Int} (h0 : 0 ≤ a) (h1 : a ≤ ws.sum) (hw : ∀ w ∈ ws, 0 ≤ w) {m : Nat} (hm : m < ws.length) {x : Int} (hx : (share a ws)[m]? = some x) : x ≤ ws[m] := by
  have hwm := hw _ (List.getElem_mem hm)
  by_cases hz : ws.sum = 0
  · rw [share, if_pos hz] at hx
    simp [hm] at hx; omega
  · have ht : 0 < ws.sum := by omega
    obtain ⟨y, e, h⟩ := share_at (a := a) ht hm
    rw [hx] at e; cases e
    have hle : ws[m] * a ≤ ws[m] * ws.sum := Int.mul_le_mul_of_nonneg_left h1 hwm
    rcases h with rfl | ⟨rfl, h⟩
    · have := Int.ediv_le_ediv ht hle
      rwa [Int.mul_ediv_cancel _ (by omega)] at this
    · have d := Int.mul_ediv_add_emod (ws[m] * a) ws.sum
      have hlt : ws.sum * (ws[m] * a / ws.sum) < ws.sum * ws[m] := by
        have : ws.sum * ws[m] = ws[m] * ws.sum := Int.mul_comm _ _
        omega
      have := Int.lt_of_mul_lt_mul_left hlt (by omega)
      omega
end Z

/-! Plain part 16: house by house. -/
namespace Z
open PySem PySem.Spec PyProof.Rows L2
def subs (xs ys : List Int) : List Int := (xs.zip ys).map fun q => q.1 - q.2
theorem subs_len {xs ys : List Int} (h : xs.length = ys.length) : (subs xs ys).length = xs.length := by simp [subs, h]
theorem subs_sum : ∀ {xs ys : List Int}, xs.length = ys.length → (subs xs ys).sum = xs.sum - ys.sum
  | [], [], _ => rfl
  | [], _ :: _, h => by simp at h
  | _ :: _, [], h => by simp at h
  | x :: xs, y :: ys, h => by
    have := subs_sum (xs := xs) (ys := ys) (by simpa using h)
    simp only [subs, List.zip_cons_cons, List.map_cons, List.sum_cons] at this ⊢
    omega
theorem subs_nn {xs ys : List Int} (h : xs.length = ys.length) (hle : ∀ (m : Nat) (hm : m < xs.length) (y : Int), ys[m]? = some y → 0 ≤ y ∧ y ≤ xs[m]) (b : Int) (hb : ∀ x ∈ xs, x ≤ b) : ∀ z ∈ subs xs ys, 0 ≤ z ∧ z ≤ b := by
  intro z hz
  obtain ⟨m, hm, rfl⟩ := List.mem_iff_getElem.mp hz
  have hm' : m < xs.length := by rw [subs_len h] at hm; exact hm
  have := hle m hm' ys[m] (List.getElem?_eq_getElem (by omega))
  have := hb _ (List.getElem_mem hm')
  simp only [subs, List.getElem_map, List.getElem_zip]
  omega
def ounL (ps : List (Int × Int)) : List Int := ps.map Prod.snd
def dishL (r : Rule) (ps : List (Int × Int)) : List Int := share (dish r ps) (givL r ps)
def leftL (r : Rule) (ps : List (Int × Int)) : List Int := subs (ounL ps) (dishL r ps)
def branL (r : Rule) (ps : List (Int × Int)) : List Int := share (parts r ps).bran (leftL r ps)
def restL (r : Rule) (ps : List (Int × Int)) : List Int := subs (leftL r ps) (branL r ps)
def dustL (r : Rule) (ps : List (Int × Int)) : List Int := share (parts r ps).dust (restL r ps)
def flourL (r : Rule) (ps : List (Int × Int)) : List Int := subs (restL r ps) (dustL r ps)
/-- all that is known of the rows -/
structure RowsOk (m : Int) (r : Rule) (ps : List (Int × Int)) : Prop where
  l1 : (dishL r ps).length = ps.length
  l2 : (leftL r ps).length = ps.length
  l3 : (branL r ps).length = ps.length
  l4 : (restL r ps).length = ps.length
  l5 : (dustL r ps).length = ps.length
  g : ∀ x ∈ givL r ps, 0 ≤ x ∧ x ≤ m
  gs : dish r ps ≤ (givL r ps).sum ∧ (givL r ps).sum ≤ grain ps ∧ 0 ≤ (givL r ps).sum
  b1 : ∀ x ∈ dishL r ps, 0 ≤ x ∧ x ≤ m
  b2 : ∀ x ∈ leftL r ps, 0 ≤ x ∧ x ≤ m
  b3 : ∀ x ∈ branL r ps, 0 ≤ x ∧ x ≤ m
  b4 : ∀ x ∈ restL r ps, 0 ≤ x ∧ x ≤ m
  b5 : ∀ x ∈ dustL r ps, 0 ≤ x ∧ x ≤ m
  b6 : ∀ x ∈ flourL r ps, 0 ≤ x ∧ x ≤ m
  s1 : (dishL r ps).sum = dish r ps
  s2 : (leftL r ps).sum = grain ps - dish r ps
  s3 : (branL r ps).sum = (parts r ps).bran
  s4 : (restL r ps).sum = grain ps - dish r ps - (parts r ps).bran
  s5 : (dustL r ps).sum = (parts r ps).dust
  s6 : (flourL r ps).sum = (parts r ps).flour
theorem share_of_le {a : Int} {ws : List Int} {m : Int} (h0 : 0 ≤ a) (h1 : a ≤ ws.sum) (hw : ∀ w ∈ ws, 0 ≤ w ∧ w ≤ m) : (∀ x ∈ share a ws, 0 ≤ x ∧ x ≤ m) ∧ (∀ (k : Nat) (hk : k < ws.length) (y : Int), (share a ws)[k]? = some y → 0 ≤ y ∧ y ≤ ws[k]) := by
  have hl := share_len a ws
  have key : ∀ (k : Nat) (hk : k < ws.length) (y : Int), (share a ws)[k]? = some y → 0 ≤ y ∧ y ≤ ws[k] := fun k hk y hy =>
    ⟨(share_bd h0 h1 (fun w h => (hw w h).1) y (List.mem_of_getElem? hy)).1, share_le h0 h1 (fun w h => (hw w h).1) hk hy⟩
  refine ⟨fun x hx => ?_, key⟩
  obtain ⟨k, hk, rfl⟩ := List.mem_iff_getElem.mp hx
  have := key k (by omega) _ (List.getElem?_eq_getElem hk)
  have := hw _ (List.getElem_mem (by omega : k < ws.length))
  omega
theorem rows_ok {m : Int} {r : Rule} {ps : List (Int × Int)} (hr : r.Ok) (hs : SackT m ps) : RowsOk m r ps := by
  have hd := dish_bd hr hs
  have hp := parts_bd hr hs
  have hdo : (parts r ps).dish = dish r ps := rfl
  have lo : (ounL ps).length = ps.length := by simp [ounL]
  have lg : (givL r ps).length = ps.length := by simp [givL]
  have bo : ∀ x ∈ ounL ps, 0 ≤ x ∧ x ≤ m := fun x hx => by
    obtain ⟨p, hp, rfl⟩ := List.mem_map.mp hx
    have := hs.dom p hp; omega
  have bg : ∀ x ∈ givL r ps, 0 ≤ x ∧ x ≤ m := fun x hx => by
    obtain ⟨p, hp, rfl⟩ := List.mem_map.mp hx
    have := hs.dom p hp
    unfold givO
    split <;> omega
  have hgs := giv_sum r ps fun p hp => by have := hs.dom p hp; omega
  have hdg : dish r ps ≤ (givL r ps).sum := by
    have hp := hr.per
    unfold dish
    exact Int.ediv_le_self _ hgs.1
  have l1 : (dishL r ps).length = ps.length := by rw [dishL, share_len, lg]
  obtain ⟨b1, c1⟩ := share_of_le (m := m) hd.1 hdg bg
  have l2 : (leftL r ps).length = ps.length := by rw [leftL, subs_len (by omega), lo]
  have b2 : ∀ x ∈ leftL r ps, 0 ≤ x ∧ x ≤ m := subs_nn (by omega) (fun k hk y hy => by
    have hk' : k < ps.length := by omega
    have h := c1 k (by omega) y hy
    have e : (givL r ps)[k]'(by omega) = givO r ps[k] := by simp [givL]
    have e2 : (ounL ps)[k] = ps[k].2 := by simp [ounL]
    have hdm := hs.dom ps[k] (List.getElem_mem hk')
    rw [e] at h; rw [e2]
    unfold givO at h
    split at h <;> omega) m fun x hx => (bo x hx).2
  have s1 : (dishL r ps).sum = dish r ps := share_sum hd.1 hdg
  have s2 : (leftL r ps).sum = grain ps - dish r ps := by rw [leftL, subs_sum (by omega), s1]; rfl
  have a3 : (parts r ps).bran ≤ (leftL r ps).sum := by rw [s2]; omega
  obtain ⟨b3, c3⟩ := share_of_le (m := m) hp.1 a3 b2
  have l3 : (branL r ps).length = ps.length := by rw [branL, share_len, l2]
  have l3' : (share (parts r ps).bran (leftL r ps)).length = ps.length := l3
  have l4 : (restL r ps).length = ps.length := by rw [restL, subs_len (by omega), l2]
  have b4 : ∀ x ∈ restL r ps, 0 ≤ x ∧ x ≤ m := subs_nn (by omega) (fun k hk y hy => c3 k hk y hy) m fun x hx => (b2 x hx).2
  have s3 : (branL r ps).sum = (parts r ps).bran := share_sum hp.1 a3
  have s4 : (restL r ps).sum = grain ps - dish r ps - (parts r ps).bran := by rw [restL, subs_sum (by omega), s2, s3]
  have a5 : (parts r ps).dust ≤ (restL r ps).sum := by rw [s4]; omega
  obtain ⟨b5, c5⟩ := share_of_le (m := m) hp.2.1 a5 b4
  have l5 : (dustL r ps).length = ps.length := by rw [dustL, share_len, l4]
  have l5' : (share (parts r ps).dust (restL r ps)).length = ps.length := l5
  have s5 : (dustL r ps).sum = (parts r ps).dust := share_sum hp.2.1 a5
  have b6 : ∀ x ∈ flourL r ps, 0 ≤ x ∧ x ≤ m := subs_nn (by omega) (fun k hk y hy => c5 k hk y hy) m fun x hx => (b4 x hx).2
  have s6 : (flourL r ps).sum = (parts r ps).flour := by rw [flourL, subs_sum (by omega), s4, s5]; omega
  exact ⟨l1, l2, l3, l4, l5, bg, ⟨hdg, hgs.2, hgs.1⟩, b1, b2, b3, b4, b5, b6, s1, s2, s3, s4, s5, s6⟩
/-- a row: house, dish, bran, dust, flour -/
def rowI (r : Rule) (ps : List (Int × Int)) (i : Nat) : List Int := [(ps.getD i (0, 0)).1, (dishL r ps).getD i 0, (branL r ps).getD i 0, (dustL r ps).getD i 0, (restL r ps).getD i 0 - (dustL r ps).getD i 0]
def rowD (r : Rule) (ps : List (Int × Int)) (i : Nat) : PyData := .tuple ((rowI r ps i).map PyData.int)
def rowsL (r : Rule) (ps : List (Int × Int)) : List PyData := (List.range ps.length).map (rowD r ps)
theorem rowsL_step {r : Rule} {ps : List (Int × Int)} {i : Nat} : (List.range (i + 1)).map (rowD r ps) = (List.range i).map (rowD r ps) ++ [rowD r ps i] := by simp [List.range_succ]
theorem zip_sackV (ps : List (Int × Int)) (xs : List Int) : (Src.zip false true (.d (sackD ps)) (.d (.list (xs.map PyData.int)))).items = some ((ps.zip xs).map fun q => Val.d (.tuple [pr q.1, .int q.2])) :=
  items_zipV pr PyData.int false true _ _ ps xs (kss [] ps) (ksl PyData.int [] xs)
theorem zip_intsV (xs ys : List Int) : (Src.zip true true (.d (.list (xs.map PyData.int))) (.d (.list (ys.map PyData.int)))).items = some ((xs.zip ys).map fun q => Val.d (.tuple [.int q.1, .int q.2])) :=
  items_zipV PyData.int PyData.int true true _ _ xs ys (ksl PyData.int [] xs) (ksl PyData.int [] ys)
theorem subs_ps (ps : List (Int × Int)) (ys : List Int) : (ps.zip ys).map (fun q => PyData.int (q.1.2 - q.2)) = (subs (ounL ps) ys).map PyData.int := by
  simp only [subs, ounL, List.map_map]
  rw [List.zip_map_left, List.map_map]
  rfl
theorem subs_is (xs ys : List Int) : (xs.zip ys).map (fun q => PyData.int (q.1 - q.2)) = (subs xs ys).map PyData.int := by simp [subs, Function.comp_def]
theorem ixL {M : Store} {xs : List Int} {i : Nat} (h : i < xs.length) : ixV M (.d (.list (xs.map PyData.int))) (i : Int) = some (.d (.int (xs.getD i 0))) := by
  simp only [ixV, atI_nat _ _ (show i < (xs.map PyData.int).length by simpa using h)]
  simp [h]
theorem rows_in_eq {m : Int} {r : Rule} {ps : List (Int × Int)} (hr : r.Ok) (hs : SackT m ps) (hm : m ≤ 100000) (M : Store) : m_rows_in [.d r.D, .d (sackD ps)] M = .ok (.d (.tuple (rowsL r ps))) M := by
  have ok := rows_ok hr hs
  have hl := hs.hi
  have hm0 : 0 ≤ m := by
    have hlo := hs.lo
    have := hs.dom ps[0] (List.getElem_mem (by omega)); omega
  have hg := grain_le hs hm0
  have hp := parts_bd hr hs
  have hd := dish_bd hr hs
  have hdo : (parts r ps).dish = dish r ps := rfl
  refine Wp.eq ?_
  unfold m_rows_in b_rows_in
  have e1 := parts_in_eq hr (ps := ps) (by omega) M
  have e2 := giving_eq r ps (by omega) M
  have e3 := shared_in_eq true (a := dish r ps) (ws := givL r ps) hd.1 (by omega) (fun w hw => by have := ok.g w hw; omega) (by have := ok.l1; simp [givL]; omega) ok.gs.2.2 (by have := ok.gs.2.1; omega) M
  have e4 := shared_in_eq true (a := (parts r ps).bran) (ws := leftL r ps) hp.1 (by omega) (fun w hw => by have := ok.b2 w hw; omega) (by have := ok.l2; omega) (by rw [ok.s2]; omega) (by rw [ok.s2]; omega) M
  have e5 := shared_in_eq true (a := (parts r ps).dust) (ws := restL r ps) hp.2.1 (by omega) (fun w hw => by have := ok.b4 w hw; omega) (by have := ok.l4; omega) (by rw [ok.s4]; omega) (by rw [ok.s4]; omega) M
  rw [← seqI_t] at e3 e4 e5
  have hpd : (parts r ps).D = .tuple [.int (dish r ps), .int (parts r ps).bran, .int (parts r ps).dust, .int (parts r ps).flour] := rfl
  have l1 := ok.l1; have l2 := ok.l2; have l3 := ok.l3; have l4 := ok.l4; have l5 := ok.l5
  simp -dsimp [e1, hpd, e2, e3]
  refine wp_mapA (ps.zip (dishL r ps)) (fun q => .d (.tuple [pr q.1, .int q.2])) (fun q => .d (.int (q.1.2 - q.2))) ?_
  simp -dsimp
  refine ⟨zip_sackV ps _, by simp; omega, fun q _ => by simp -dsimp [pr], ?_⟩
  have h1 : (ps.zip (dishL r ps)).map (fun q => PyData.int (q.1.2 - q.2)) = (leftL r ps).map PyData.int := subs_ps ps _
  simp -dsimp [h1, e4]
  refine wp_mapA ((leftL r ps).zip (branL r ps)) (fun q => .d (.tuple [.int q.1, .int q.2])) (fun q => .d (.int (q.1 - q.2))) ?_
  simp -dsimp
  refine ⟨zip_intsV _ _, by simp; omega, fun q _ => by simp -dsimp, ?_⟩
  have h2 : ((leftL r ps).zip (branL r ps)).map (fun q => PyData.int (q.1 - q.2)) = (restL r ps).map PyData.int := subs_is _ _
  simp -dsimp [h2, e5]
  refine wp_acc 7 (fun i s M' => s = some (.ol ((List.range i).map (rowD r ps))) ∧ M' = M) ?_
  simp -dsimp
  refine ⟨_, items_enumV pr false _ ps (kss [] ps), ⟨some (.ol []), rfl, rfl, rfl⟩, ?_, ?_⟩
  · rintro j x s _ hx ⟨rfl, rfl⟩
    have hj : j < ps.length := by simpa using (List.getElem?_eq_some_iff.mp hx).1
    simp [hj] at hx
    subst hx
    have i1 := fun M => ixL (M := M) (xs := dishL r ps) (i := j) (by omega)
    have i2 := fun M => ixL (M := M) (xs := branL r ps) (i := j) (by omega)
    have i3 := fun M => ixL (M := M) (xs := dustL r ps) (i := j) (by omega)
    have i4 := fun M => ixL (M := M) (xs := restL r ps) (i := j) (by omega)
    have i2' := i2; have i3' := i3
    unfold branL at i2'
    unfold dustL at i3'
    have i1' := i1
    unfold dishL at i1'
    rw [rowsL_step]
    have hrow : rowD r ps j = .tuple [.int ps[j].1, .int ((dishL r ps).getD j 0), .int ((branL r ps).getD j 0), .int ((dustL r ps).getD j 0), .int ((restL r ps).getD j 0 - (dustL r ps).getD j 0)] := by simp [rowD, rowI, hj]
    have hjl : j < 100000 := by omega
    rw [hrow]
    simp -dsimp [pr, f1_rows_in, i1', i2', i3', i4, hjl, dishL, branL, dustL]
  · rintro s _ ⟨rfl, rfl⟩
    simp -dsimp [rowsL]
end Z

/-! Plain part 17: house by house, the law's own; sizes of rows. -/
namespace Z
open PySem PySem.Spec PyProof.Rows L2
@[simp] theorem pures_rev (R : List PyData) : pures (R.map Val.d).reverse = some R.reverse := by rw [← List.map_reverse]; exact pures_map _
@[simp] theorem pures_set (R : List PyData) (i : Nat) (v : PyData) : pures ((R.map Val.d).set i (.d v)) = some (R.set i v) := by rw [← List.map_set]; exact pures_map _
@[simp] theorem pures_set2 (R : List PyData) (i j : Nat) (u v : PyData) : pures (((R.map Val.d).set i (.d u)).set j (.d v)) = some ((R.set i u).set j v) := by rw [← List.map_set, ← List.map_set]; exact pures_map _
@[simp] theorem pures_take (R : List PyData) (i : Nat) : pures ((R.map Val.d).take i) = some (R.take i) := by rw [← List.map_take]; exact pures_map _
@[simp] theorem pures_drop (R : List PyData) (i : Nat) : pures ((R.map Val.d).drop i) = some (R.drop i) := by rw [← List.map_drop]; exact pures_map _
theorem fLen_t (ds : List PyData) (M : Store) : fLen [.d (.tuple ds)] M = .ok (.d (.int ds.length)) M := by simp [fLen]
theorem getD_bd {xs : List Int} {m : Int} (h : ∀ x ∈ xs, 0 ≤ x ∧ x ≤ m) (hm : 0 ≤ m) (i : Nat) : 0 ≤ xs.getD i 0 ∧ xs.getD i 0 ≤ m := by
  rw [List.getD_eq_getElem?_getD]
  cases e : xs[i]? with
  | none => simpa using hm
  | some z => exact h z (List.mem_of_getElem? e)
theorem by_houseE {r : Rule} (hr : r.Ok) {ps : List (Int × Int)} (h : SOk ps) (M : Store) : m_by_house [.d r.D, .d (sackD ps)] M = .ok (.d (.tuple (rowsL r ps))) M := by
  have := rows_in_eq hr h (by decide) M
  simp [m_by_house, b_by_house, need_ruleD r hr, need_sackD ps h, this]
end Z

/-! Plain part 18: partings of sacks to two stones. -/
namespace Z
open PySem PySem.Spec PyProof.Rows L2
def rowsOf : Nat → List (List Int)
  | 0 => [[]]
  | n + 1 => (rowsOf n).flatMap fun row => [row ++ [0], row ++ [1]]
def two (row : List Int) : List (List Int) := [row ++ [0], row ++ [1]]
/-! what both stones need -/
def sacksD (ss : List (List (Int × Int))) : PyData := .tuple (ss.map sackD)
end Z

/-! Plain part 19: partings, the law's own; refusals; all partings. -/
namespace Z
open PySem PySem.Spec PyProof.Rows L2
end Z

/-! Plain part 20: the fewest hours. -/
namespace Z
open PySem PySem.Spec PyProof.Rows L2
theorem draws_sacks {P : List (Int × Int) → Prop} : ∀ {ds : List PyData}, (∀ (i : Nat) (d : PyData), ds[i]? = some d → ∃ ps, d = sackD ps ∧ P ps) → ∃ ss : List (List (Int × Int)), ds = ss.map sackD ∧ ∀ ps ∈ ss, P ps
  | [], _ => ⟨[], rfl, by simp⟩
  | d :: t, hd => by
    obtain ⟨ss, rfl, h2⟩ := draws_sacks (ds := t) fun i d h => hd (i + 1) d (by simpa using h)
    obtain ⟨ps, rfl, ok⟩ := hd 0 d rfl
    exact ⟨ps :: ss, rfl, fun q hq => by
      rcases List.mem_cons.mp hq with rfl | hq
      · exact ok
      · exact h2 q hq⟩
end Z

/-! Plain part 21: the best parting. -/
namespace Z
open PySem PySem.Spec PyProof.Rows L2
def bestP (g : List Int → Int) : List Int → List (List Int) → List Int
  | a, [] => a
  | a, y :: r => bestP g (if g y < g a then y else a) r
def best (g : List Int → Int) (n : Nat) : List Int := match rowsOf n with
  | a :: r => bestP g a r
  | [] => []
end Z

/-! Plain part 22: what the fewest hours obey. -/
namespace Z
open PySem PySem.Spec PyProof.Rows L2
def t1 (r : Rule) (s1 : Int) (q : List (Int × Int) × Int) : Int := if q.2 = 0 then 0 else hrs r q.1 s1
end Z

/-! Plain part 23: dicts of one's own. -/
namespace Z
open PySem PySem.Spec PyProof.Rows L2
def WOd (P : List (Key × PyData) → Prop) (o : Ph P (Option (Option Slot))) : Prop := match (o : Option (Option Slot)) with
  | some (some (.od xs)) => P xs
  | _ => False
@[simp] theorem wod_od (P : List (Key × PyData) → Prop) (xs : List (Key × PyData)) : WOd P (some (some (.od xs))) = P xs := by with_unfolding_all rfl
theorem wod_eq {α : Type} {ρ : Rho} {i : Nat} {f : List (Key × PyData) → Res α} {Q : α → Store → Prop} : Wp Q (wOd ρ i f) = WOd (fun xs => Wp Q (f xs)) ρ[i]? := by
  unfold wOd WOd
  generalize ρ[i]? = o
  rcases o with _ | _ | (x | x | x) <;> (with_unfolding_all rfl)
section
variable {M : Store} {ρ : Rho} {Q : Val → Store → Prop} {QF : Fl → Store → Prop} {QL : List Val → Store → Prop}
@[simp ↓] theorem wp_dget (i : Nat) (mk mx : Sm Val) : Wp Q (eDGet i mk mx ρ M) = WOd (fun kvs => Wp (fun k M1 => Wp (fun x M2 => Wp Q (dgetR kvs k x M2)) (mx ρ M1)) (mk ρ M)) ρ[i]? :=
  wod_eq.trans (by congr; funext xs; rw [wp_bindE]; congr; funext y M1; exact wp_bindE _ _ _)
@[simp ↓] theorem wp_dix (i : Nat) (mk : Sm Val) : Wp Q (eDIx i mk ρ M) = WOd (fun kvs => Wp (fun k M1 => Wp Q (dixR kvs k M1)) (mk ρ M)) ρ[i]? :=
  wod_eq.trans (by congr; funext xs; exact wp_bindE _ _ _)
@[simp ↓] theorem wp_dset (i : Nat) (m mk : Sm Val) : Wp QF (sDSet i m mk ρ M) = WOd (fun kvs => Wp (fun x M1 => Wp (fun k M2 => Wp QF (dsetR ρ i kvs k x M2)) (mk ρ M1)) (m ρ M)) ρ[i]? :=
  wod_eq.trans (by congr; funext xs; rw [wp_bindE]; congr; funext y M1; exact wp_bindE _ _ _)
@[simp ↓] theorem wp_sortD (i : Nat) : Wp QL (lSortD i ρ M) = WOd (fun kvs => Wp QL (sortDR kvs M)) ρ[i]? := wod_eq
@[simp ↓] theorem wp_asgD (i : Nat) (m : Sm (List (Key × Val))) : Wp QF (sAsgD i m ρ M) = Wp (fun xs M1 => Wp QF (match pureD xs with
  | some ds => .ok (.nx (ρ.set i (some (.od ds)))) M1
  | none => .stuck)) (m ρ M) := wp_bindE ..
end
@[simp] theorem pureD_nil : pureD [] = some [] := rfl
@[simp] theorem dgetR_int (kvs : List (Key × PyData)) (k : Int) (x : PyData) (M : Store) : dgetR kvs (.d (.int k)) (.d x) M = .ok (.d ((valP kvs (.inl k)).getD x)) M := rfl
/-! ints as keys -/
section
variable {α : Type}
def getI (kvs : List (Int × α)) (k : Int) : Option α := (kvs.find? fun kv => decide (kv.1 = k)).map (·.2)
def putI (kvs : List (Int × α)) (k : Int) (d : α) : List (Int × α) :=
  if (kvs.any fun kv => decide (kv.1 = k)) = true then kvs.map (fun kv => if kv.1 = k then (kv.1, d) else kv) else kvs ++ [(k, d)]
theorem getI_nil (k : Int) : getI ([] : List (Int × α)) k = none := rfl
theorem getI_cons (p : Int × α) (r : List (Int × α)) (k : Int) : getI (p :: r) k = if p.1 = k then some p.2 else getI r k := by
  simp only [getI, List.find?_cons]
  by_cases e : p.1 = k
  · simp [e]
  · simp [e]
theorem any_getI (k : Int) : ∀ kvs : List (Int × α), (kvs.any fun kv => decide (kv.1 = k)) = (getI kvs k).isSome
  | [] => rfl
  | p :: r => by
    rw [List.any_cons, getI_cons, any_getI k r]
    by_cases e : p.1 = k
    · simp [e]
    · simp [e]
theorem getI_map (k j : Int) (d : α) : ∀ kvs : List (Int × α), getI (kvs.map fun kv => if kv.1 = k then (kv.1, d) else kv) j = if j = k then (getI kvs k).map fun _ => d else getI kvs j
  | [] => by simp [getI_nil]
  | p :: r => by
    rw [List.map_cons, getI_cons, getI_cons, getI_cons, getI_map k j d r]
    by_cases e : p.1 = k
    · by_cases e2 : j = k
      · subst e2; simp [e]
      · have e3 : ¬ p.1 = j := fun h => e2 (by omega)
        have e4 : ¬ k = j := fun h => e2 h.symm
        simp [e, e2, e4]
    · by_cases e2 : j = k
      · subst e2; simp [e]
      · simp [e, e2]
theorem getI_snoc (k j : Int) (d : α) : ∀ kvs : List (Int × α), getI kvs k = none → getI (kvs ++ [(k, d)]) j = if j = k then some d else getI kvs j
  | [], _ => by
    simp only [List.nil_append, getI_cons, getI_nil]
    by_cases e : j = k
    · simp [e]
    · have : ¬ k = j := fun h => e h.symm
      simp [e, this]
  | p :: r, h => by
    rw [getI_cons] at h
    by_cases e : p.1 = k
    · simp [e] at h
    · rw [if_neg e] at h
      rw [List.cons_append, getI_cons, getI_cons, getI_snoc k j d r h]
      by_cases e2 : j = k
      · subst e2; simp [e]
      · simp [e2]
theorem getI_put (kvs : List (Int × α)) (k j : Int) (d : α) : getI (putI kvs k d) j = if j = k then some d else getI kvs j := by
  unfold putI
  rw [any_getI]
  cases e : getI kvs k with
  | none => simp only [Option.isSome_none, Bool.false_eq_true, if_false]; exact getI_snoc k j d kvs e
  | some x =>
    simp only [Option.isSome_some, if_true]
    rw [getI_map, e]; rfl
theorem mem_keys (kvs : List (Int × α)) (k : Int) : k ∈ kvs.map (·.1) ↔ (getI kvs k).isSome = true := by
  rw [← any_getI, List.any_eq_true]
  simp only [List.mem_map, decide_eq_true_eq]
theorem putI_nodup {kvs : List (Int × α)} (h : (kvs.map (·.1)).Nodup) (k : Int) (d : α) : ((putI kvs k d).map (·.1)).Nodup := by
  unfold putI
  split
  · have : (kvs.map fun kv => if kv.1 = k then (kv.1, d) else kv).map (·.1) = kvs.map (·.1) := by
      rw [List.map_map]; refine List.map_congr_left fun kv _ => ?_
      simp only [Function.comp]; split <;> rfl
    rw [this]; exact h
  · rename_i hn
    rw [List.map_append, List.nodup_append]
    refine ⟨h, by simp, fun a ha b hb e => ?_⟩
    simp at hb
    subst hb; subst e
    rw [mem_keys, ← any_getI] at ha
    exact hn ha
/-- a dict of ints -/
def dI (f : α → PyData) (kvs : List (Int × α)) : List (Key × PyData) := kvs.map fun p => (.inl p.1, f p.2)
theorem valP_dI (f : α → PyData) (k : Int) : ∀ kvs : List (Int × α), valP (dI f kvs) (.inl k) = (getI kvs k).map f
  | [] => rfl
  | p :: r => by
    have ih := valP_dI f k r
    rw [getI_cons]
    simp only [dI, List.map_cons] at ih ⊢
    by_cases e : p.1 = k
    · rw [valP_pos (by simp [e]), if_pos e]; rfl
    · rw [valP_neg (by simp [e]), if_neg e, ih]
theorem putP_dI (f : α → PyData) (k : Int) (d : α) (kvs : List (Int × α)) : putP (dI f kvs) (.inl k) (f d) = dI f (putI kvs k d) := by
  unfold putP putI
  have ha : ((dI f kvs).any fun kv => decide (kv.1 = (.inl k : Key))) = kvs.any fun kv => decide (kv.1 = k) := by
    unfold dI; rw [List.any_map]; congr; funext p; simp
  rw [ha]
  split
  · simp only [dI, List.map_map]
    refine List.map_congr_left fun p _ => ?_
    simp only [Function.comp]
    by_cases e : p.1 = k
    · simp [e]
    · simp [e]
  · simp [dI]
theorem intKeys_dI (f : α → PyData) : ∀ kvs : List (Int × α), intKeys (dI f kvs) = some (kvs.map (·.1))
  | [] => rfl
  | p :: r => by
    have ih := intKeys_dI f r
    simp only [dI, List.map_cons, intKeys] at ih ⊢
    rw [ih]; rfl
theorem dI_len (f : α → PyData) (kvs : List (Int × α)) : (dI f kvs).length = kvs.length := by simp [dI]
end
end Z

/-! Plain part 24: accounts of houses, the plain law. -/
namespace Z
open PySem PySem.Spec PyProof.Rows L2
def addL (xs ys : List Int) : List Int := (xs.zip ys).map fun q => q.1 + q.2
def zer5 : List Int := [0, 0, 0, 0, 0]
def newI (r : Rule) (ps : List (Int × Int)) (i : Nat) : List Int := (ps.getD i (0, 0)).2 :: (rowI r ps i).drop 1
def evI (r : Rule) (ps : List (Int × Int)) (i : Nat) : Int × List Int := ((ps.getD i (0, 0)).1, newI r ps i)
def evS (r : Rule) (ps : List (Int × Int)) : List (Int × List Int) := (List.range ps.length).map (evI r ps)
def evs (r : Rule) (ss : List (List (Int × Int))) : List (Int × List Int) := ss.flatMap (evS r)
def accStep (kvs : List (Int × List Int)) (e : Int × List Int) : List (Int × List Int) := putI kvs e.1 (addL ((getI kvs e.1).getD zer5) e.2)
def accF (L : List (Int × List Int)) : List (Int × List Int) := L.foldl accStep []
theorem accF_snoc (L : List (Int × List Int)) (e : Int × List Int) : accF (L ++ [e]) = accStep (accF L) e := by simp [accF, List.foldl_append]
def rowsFor (h : Int) (L : List (Int × List Int)) : List (List Int) := (L.filter fun e => decide (e.1 = h)).map (·.2)
def tot (h : Int) (L : List (Int × List Int)) : List Int := (rowsFor h L).foldl addL zer5
theorem rowsFor_snoc (h : Int) (L : List (Int × List Int)) (e : Int × List Int) : rowsFor h (L ++ [e]) = if e.1 = h then rowsFor h L ++ [e.2] else rowsFor h L := by
  unfold rowsFor
  rw [List.filter_append, List.map_append]
  by_cases hh : e.1 = h
  · simp [hh]
  · simp [hh]
theorem tot_snoc (h : Int) (L : List (Int × List Int)) (e : Int × List Int) : tot h (L ++ [e]) = if e.1 = h then addL (tot h L) e.2 else tot h L := by
  unfold tot
  rw [rowsFor_snoc]
  split
  · rw [List.foldl_append]; rfl
  · rfl
theorem snoc_ind {α : Type} {P : List α → Prop} (L : List α) (h0 : P []) (h1 : ∀ L e, P L → P (L ++ [e])) : P L := by
  have : ∀ n (L : List α), L.length = n → P L := by
    intro n
    induction n with
    | zero => intro L h; rw [List.eq_nil_of_length_eq_zero h]; exact h0
    | succ n ih =>
      intro L h
      rcases List.eq_nil_or_concat L with rfl | ⟨r, s, rfl⟩
      · exact h0
      · rw [List.concat_eq_append]; exact h1 r s (ih r (by simpa using h))
  exact this _ L rfl
theorem accF_get (h : Int) (L : List (Int × List Int)) : getI (accF L) h = if rowsFor h L = [] then none else some (tot h L) := by
  refine snoc_ind (P := fun L => getI (accF L) h = if rowsFor h L = [] then none else some (tot h L)) L rfl fun L e ih => ?_
  rw [accF_snoc, accStep, getI_put, rowsFor_snoc, tot_snoc]
  by_cases hh : e.1 = h
  · rw [if_pos hh.symm, if_pos hh, if_pos hh, if_neg (by simp), hh, ih]
    by_cases h0 : rowsFor h L = []
    · simp [h0, tot]
    · simp [h0]
  · rw [if_neg (fun z => hh z.symm), if_neg hh, if_neg hh, ih]
theorem accF_nodup (L : List (Int × List Int)) : ((accF L).map (·.1)).Nodup :=
  snoc_ind (P := fun L => ((accF L).map (·.1)).Nodup) L (by simp [accF]) fun L e ih => by
    rw [accF_snoc]; exact putI_nodup ih _ _
def hs8 : List Int := (List.range 8).map fun i : Nat => (i : Int)
def housesOf (L : List (Int × List Int)) : List Int := hs8.filter fun h => !(rowsFor h L).isEmpty
theorem rowsFor_mem {h : Int} {L : List (Int × List Int)} (n : rowsFor h L ≠ []) : ∃ e ∈ L, e.1 = h := by
  cases e : rowsFor h L with
  | nil => exact (n e).elim
  | cons x r =>
    have : x ∈ rowsFor h L := by rw [e]; simp
    obtain ⟨q, hq, _⟩ := List.mem_map.mp this
    have := List.mem_filter.mp hq
    exact ⟨q, this.1, by simpa using this.2⟩
theorem hs8_mem {h : Int} : h ∈ hs8 ↔ 0 ≤ h ∧ h ≤ 7 := by
  unfold hs8
  rw [List.mem_map]
  constructor
  · rintro ⟨a, ha, rfl⟩
    simp at ha; omega
  · rintro ⟨h0, h1⟩
    exact ⟨h.toNat, by simp; omega, by omega⟩
theorem sort_keys {L : List (Int × List Int)} (hb : ∀ e ∈ L, 0 ≤ e.1 ∧ e.1 ≤ 7) : sortI ((accF L).map (·.1)) = housesOf L := by
  refine (sortI_uniq ?_ ?_).symm
  · have n1 : hs8.Nodup := by decide
    refine (List.perm_ext_iff_of_nodup (n1.filter _) (accF_nodup L)).mpr fun h => ?_
    rw [mem_keys, accF_get]
    show h ∈ hs8.filter _ ↔ _
    rw [List.mem_filter]
    by_cases h0 : rowsFor h L = []
    · simp [h0]
    · obtain ⟨e, he, rfl⟩ := rowsFor_mem h0
      have := hb e he
      simp [h0, hs8_mem, this]
  · have : hs8.Pairwise (· ≤ ·) := by decide
    exact this.filter _
theorem keys_len {L : List (Int × List Int)} (hb : ∀ e ∈ L, 0 ≤ e.1 ∧ e.1 ≤ 7) : ((accF L).map (·.1)).length ≤ 8 := by
  have := (sortI_perm ((accF L).map (·.1))).length_eq
  rw [sort_keys hb] at this
  have h2 : (housesOf L).length ≤ hs8.length := List.length_filter_le ..
  have h3 : hs8.length = 8 := rfl
  omega
def accL (L : List (Int × List Int)) : List PyData := (housesOf L).map fun h => .tuple ((h :: tot h L).map PyData.int)
def accD (r : Rule) (ss : List (List (Int × Int))) : PyData := .tuple (accL (evs r ss))
theorem evs_bd {r : Rule} {ss : List (List (Int × Int))} (hs : ∀ ps ∈ ss, SOk ps) : ∀ e ∈ evs r ss, 0 ≤ e.1 ∧ e.1 ≤ 7 := by
  intro e he
  simp only [evs, List.mem_flatMap, evS, List.mem_map, List.mem_range] at he
  obtain ⟨ps, hps, i, hi, rfl⟩ := he
  have hg : ps.getD i (0, 0) = ps[i] := by simp [List.getD_eq_getElem?_getD, List.getElem?_eq_getElem hi]
  simp only [evI, hg]
  have := (hs ps hps).dom ps[i] (List.getElem_mem hi)
  omega
end Z

/-! Plain part 25: words of texts. -/
namespace Z
open PySem PySem.Spec PyProof.Rows L2
section
variable {M : Store} {ρ : Rho} {Q : Val → Store → Prop} {QL : List Val → Store → Prop} {QS : Src → Store → Prop}
@[simp ↓] theorem wp_onStr {α : Type} (a : Str) (f : Str → Res α) (Q : α → Store → Prop) : Wp Q (onStr (.d (.str a)) f) = Wp Q (f a) := rfl
@[simp ↓] theorem wp_t1 (f : Str → Str → Option PyData) (mo mb : Sm Val) : Wp Q (eT1 f mo mb ρ M) = Wp (fun x M1 => Wp Q (onStr x fun a => (mb ρ M1).bind fun y M2 => onStr y fun b => match f a b with
  | some z => .ok (.d z) M2
  | none => .stuck)) (mo ρ M) := wp_bindE ..
@[simp ↓] theorem wp_split (mo mb : Sm Val) : Wp QL (lSplit mo mb ρ M) = Wp (fun x M1 => Wp QL (onStr x fun a => (mb ρ M1).bind fun y M2 => onStr y fun b =>
  if (b.length == 0) = false ∧ a.length + 2 ≤ sizeLine then .ok ((Txt.split a b).map fun s => .d (.str s)) M2 else .stuck)) (mo ρ M) := wp_bindE ..
@[simp ↓] theorem wp_part (mo mb : Sm Val) : Wp Q (ePart mo mb ρ M) = Wp (fun x M1 => Wp Q (onStr x fun a => (mb ρ M1).bind fun y M2 => onStr y fun b =>
  if (b.length == 0) = false ∧ a.length ≤ sizeLine then .ok (.d (partD a b)) M2 else .stuck)) (mo ρ M) := wp_bindE ..
@[simp ↓] theorem wp_join (mo ml : Sm Val) : Wp Q (eJoin mo ml ρ M) = Wp (fun x M1 => Wp Q (onStr x fun a => (ml ρ M1).bind fun z M2 => joinR a z M2)) (mo ρ M) := wp_bindE ..
@[simp ↓] theorem wp_sStr (m : Sm Val) : Wp QS (sStr m ρ M) = Wp (fun x M1 => Wp QS (onStr x fun a => .ok (.str a) M1)) (m ρ M) := wp_bindE ..
end
/-! numbers in texts -/
def nS (n : Int) : Str := Str.ofString (toString n)
end Z

namespace Z
open PySem PySem.Spec PyProof.Rows L2
/-- account: 0 rule, 1 sacks, 2 found, 3 sack, 4 row, 5 own, 6 house, 7 ounces, 8 one, 9 more -/
def f1_account : Sm Fl := (sSeq (sAsg (eDGet 2 (eVar 6) (eFrz (lLst (aCons (eC (.int 0)) (aCons (eC (.int 0)) (aCons (eC (.int 0)) (aCons (eC (.int 0)) (aCons (eC (.int 0)) aNil)))))))) (gN 5))
  (sDSet 2 (eFrz (eLc (sZip (aCons (eVar 5) (aCons (e2 fAdd (eTup (aCons (eVar 7) aNil)) (eSl (eVar 4) (oS (eC (.int 1))) oN)) aNil))) (gTupM 2 (gConsM (gN 8) (gConsM (gN 9) gNilM))) tYesM (e2 fAdd (eVar 8) (eVar 9)) [8, 9])) (eVar 6)))
def f2_account : Sm Fl := (sFor [1, 3, 4, 5, 6, 7, 8, 9] (sZip (aCons (eVar 3) (aCons (eCall 2 m_rows_in (aCons (eVar 0) (aCons (eVar 3) aNil))) aNil))) (gTupM 2 (gConsM (gTupM 2 (gConsM (gN 6) (gConsM (gN 7) gNilM))) (gConsM (gN 4) gNilM))) f1_account)
def b_account : Sm Fl := (sSeq (sDrop (eCall 1 m_need_rule (aCons (eVar 0) aNil)))
  (sSeq (sIf (tOrM (tNotM (tVal (eIsa PyData.isTuple (eVar 1)))) (tOrM (tVal (e2 fGt (eCG fLen (aCons (eVar 1) aNil)) (eC (.int 40)))) (tNotM (tVal (eCB fAll (aCons (eFrz (eLc (sOne (eVar 1)) (gN 3) tYesM (eCall 1 m_is_sack (aCons (eVar 3) aNil)) [3])) aNil)))))) (sRaise "NoSack") sNext)
  (sSeq (sAsgD 2 dNil)
  (sSeq (sFor [1, 3, 4, 5, 6, 7, 8, 9] (sOne (eVar 1)) (gN 3) f2_account)
  (sRet (eTupOf (eFrz (eLc (sOne (eFrz (lSortD 2))) (gN 6) tYesM (e2 fAdd (eTup (aCons (eVar 6) aNil)) (eTupOf (eDIx 2 (eVar 6)))) [6]))))))))
def m_account : List Val → Store → Res Val := fnM 2 10 b_account
end Z

namespace Z
open PySem PySem.Spec PyProof.Rows L2
/-- mixed_in: 0 one, 1 other, 2 found, 3 house, 4 ounces -/
def f1_mixed_in : Sm Fl := (sDSet 2 (e2 fAdd (eDGet 2 (eVar 3) (eC (.int 0))) (eVar 4)) (eVar 3))
def b_mixed_in : Sm Fl := (sSeq (sAsgD 2 (dOf (eVar 0)))
  (sSeq (sFor [0, 1, 3, 4] (sOne (eVar 1)) (gTupM 2 (gConsM (gN 3) (gConsM (gN 4) gNilM))) f1_mixed_in)
  (sRet (eTupOf (eFrz (lSortItems 2))))))
def m_mixed_in : List Val → Store → Res Val := fnM 2 5 b_mixed_in
/-- mixed: 0 one, 1 other, 2 found -/
def b_mixed : Sm Fl := (sSeq (sDrop (eCall 1 m_need_sack (aCons (eVar 0) aNil)))
  (sSeq (sDrop (eCall 1 m_need_sack (aCons (eVar 1) aNil)))
  (sSeq (sAsg (eCall 2 m_mixed_in (aCons (eVar 0) (aCons (eVar 1) aNil))) (gN 2))
  (sSeq (sIf (tNotM (tVal (eCall 1 m_is_sack (aCons (eVar 2) aNil)))) (sRaise "TooMuch") sNext)
  (sRet (eVar 2))))))
def m_mixed : List Val → Store → Res Val := fnM 2 3 b_mixed
/-- more_by_mixing: 0 rule, 1 one, 2 other, 3 both -/
def b_more_by_mixing : Sm Fl := (sSeq (sDrop (eCall 1 m_need_rule (aCons (eVar 0) aNil)))
  (sSeq (sAsg (eCall 2 m_mixed (aCons (eVar 1) (aCons (eVar 2) aNil))) (gN 3))
  (sRet (e2 fSub (e2 fSub (eCall 2 m_dish_in (aCons (eVar 0) (aCons (eVar 3) aNil))) (eCall 2 m_dish_in (aCons (eVar 0) (aCons (eVar 1) aNil)))) (eCall 2 m_dish_in (aCons (eVar 0) (aCons (eVar 2) aNil)))))))
def m_more_by_mixing : List Val → Store → Res Val := fnM 3 4 b_more_by_mixing
end Z

/-! Plain part 112: sacks mixed. -/
namespace Z
open PySem PySem.Spec PyProof.Rows L2
/-- a house's ounces in a row of pairs -/
def houseS (h : Int) (L : List (Int × Int)) : Int := ((L.filter fun p => decide (p.1 = h)).map (·.2)).sum
def joinL (L : List (Int × Int)) : List (Int × Int) := (hs8.filter fun h => decide (0 < houseS h L)).map fun h => (h, houseS h L)
def mixStep (acc : List (Int × Int)) (q : Int × Int) : List (Int × Int) := putI acc q.1 ((getI acc q.1).getD 0 + q.2)
def mixF (acc qs : List (Int × Int)) : List (Int × Int) := qs.foldl mixStep acc
theorem mixF_snoc (acc L : List (Int × Int)) (e : Int × Int) : mixF acc (L ++ [e]) = mixStep (mixF acc L) e := by simp [mixF, List.foldl_append]
theorem mixF_app (acc L R : List (Int × Int)) : mixF acc (L ++ R) = mixF (mixF acc L) R := by simp [mixF, List.foldl_append]
theorem houseS_snoc (h : Int) (L : List (Int × Int)) (e : Int × Int) : houseS h (L ++ [e]) = if e.1 = h then houseS h L + e.2 else houseS h L := by
  unfold houseS
  rw [List.filter_append]
  by_cases c : e.1 = h
  · simp [c]
  · simp [c]
def hasH (h : Int) (L : List (Int × Int)) : Bool := L.any fun p => decide (p.1 = h)
theorem mixF_get (h : Int) (L : List (Int × Int)) : getI (mixF [] L) h = if hasH h L = true then some (houseS h L) else none := by
  refine snoc_ind (P := fun L => getI (mixF [] L) h = if hasH h L = true then some (houseS h L) else none) L rfl fun L e ih => ?_
  have e1 : hasH h (L ++ [e]) = (hasH h L || decide (e.1 = h)) := by simp [hasH]
  rw [mixF_snoc, mixStep, getI_put, houseS_snoc, e1]
  by_cases c : e.1 = h
  · have ih' := ih
    rw [if_pos c.symm, if_pos c, c, ih]
    by_cases d : hasH h L = true
    · simp [d]
    · have : houseS h L = 0 := by
        unfold houseS
        have : (L.filter fun p => decide (p.1 = h)) = [] := by
          rw [List.filter_eq_nil_iff]
          intro p hp z
          exact d (List.any_eq_true.mpr ⟨p, hp, z⟩)
        rw [this]; rfl
      simp [d, this]
  · rw [if_neg (fun z => c z.symm), if_neg c, ih]
    simp [c]
theorem mixF_nodup (L : List (Int × Int)) : ((mixF [] L).map (·.1)).Nodup :=
  snoc_ind (P := fun L => ((mixF [] L).map (·.1)).Nodup) L (by simp [mixF]) fun L e ih => by
    rw [mixF_snoc]; exact putI_nodup ih _ _
theorem getI_mem {α : Type} (k : Int) (v : α) : ∀ kvs : List (Int × α), (kvs.map (·.1)).Nodup → ((k, v) ∈ kvs ↔ getI kvs k = some v)
  | [], _ => by simp [getI_nil]
  | p :: r, n => by
    obtain ⟨pk, pv⟩ := p
    have n1 := List.nodup_cons.mp n
    have ih := getI_mem k v r n1.2
    rw [getI_cons, List.mem_cons]
    by_cases c : pk = k
    · subst c
      have : ¬ (pk, v) ∈ r := fun z => n1.1 (List.mem_map.mpr ⟨_, z, rfl⟩)
      simp [this, eq_comm]
    · have : ¬ k = pk := fun z => c z.symm
      simp [c, this, ih]
theorem houseS_pos {h : Int} {L : List (Int × Int)} (hb : ∀ p ∈ L, 1 ≤ p.2) : 0 ≤ houseS h L ∧ (0 < houseS h L ↔ hasH h L = true) := by
  induction L with
  | nil => simp [houseS, hasH]
  | cons p r ih =>
    have i := ih fun q hq => hb q (by simp [hq])
    have b := hb p (by simp)
    have e1 : houseS h (p :: r) = if p.1 = h then p.2 + houseS h r else houseS h r := by
      unfold houseS
      by_cases c : p.1 = h <;> simp [c]
    have e2 : hasH h (p :: r) = (decide (p.1 = h) || hasH h r) := by simp [hasH]
    rw [e1, e2]
    by_cases c : p.1 = h
    · simp [c]; omega
    · simp [c, i]
theorem lep_uniq {l r : List (Int × Int)} (p : l.Perm r) (hr : r.Pairwise fun a b => lep a b = true) : l.mergeSort lep = r := by
  have h1 : (l.mergeSort lep).Pairwise fun a b => lep a b = true := List.pairwise_mergeSort lep_trans lep_total l
  refine List.Perm.eq_of_pairwise (le := fun a b => lep a b = true) (fun a b _ _ h1 h2 => ?_) h1 hr ((List.mergeSort_perm l lep).trans p)
  rw [lep_iff] at h1 h2
  exact Prod.ext (by omega) (by omega)
theorem join_sort {L : List (Int × Int)} (hb : ∀ p ∈ L, 0 ≤ p.1 ∧ p.1 ≤ 7 ∧ 1 ≤ p.2) : (mixF [] L).mergeSort lep = joinL L := by
  have hb2 : ∀ p ∈ L, 1 ≤ p.2 := fun p hp => (hb p hp).2.2
  have n0 : hs8.Nodup := by decide
  have n1 : ((hs8.filter fun h => decide (0 < houseS h L)).map fun h => (h, houseS h L)).Nodup :=
    List.pairwise_map.mpr ((n0.filter _).imp fun h e => h (Prod.mk.inj e).1)
  have n2 : (mixF [] L).Nodup := (List.pairwise_map.mp (mixF_nodup L)).imp fun h e => h (by rw [e])
  refine lep_uniq ((List.perm_ext_iff_of_nodup n2 n1).mpr fun p => ?_) ?_
  · obtain ⟨k, v⟩ := p
    rw [getI_mem k v _ (mixF_nodup L), mixF_get, List.mem_map]
    constructor
    · intro h
      by_cases c : hasH k L = true
      · rw [if_pos c] at h
        obtain ⟨q, hq, hk⟩ := List.any_eq_true.mp c
        have hq2 := hb q hq
        have hk : q.1 = k := by simpa using hk
        refine ⟨k, List.mem_filter.mpr ⟨hs8_mem.mpr (by omega), ?_⟩, by rw [Option.some.inj h]⟩
        simpa using (houseS_pos hb2).2.mpr c
      · rw [if_neg c] at h; cases h
    · rintro ⟨j, hj, e⟩
      obtain ⟨rfl, rfl⟩ := Prod.mk.inj e
      have := (List.mem_filter.mp hj).2
      rw [if_pos ((houseS_pos hb2).2.mp (by simpa using this))]
  · have h8 : hs8.Pairwise (· < ·) := by decide
    refine List.pairwise_map.mpr ((h8.filter _).imp fun {a b} hab => ?_)
    rw [lep_iff]; exact .inl hab
theorem mixF_self {ps : List (Int × Int)} (h : (ps.map (·.1)).Nodup) : mixF [] ps = ps := by
  refine snoc_ind (P := fun ps => (ps.map (·.1)).Nodup → mixF [] ps = ps) ps (fun _ => rfl) (fun L e ih n => ?_) h
  rw [List.map_append, List.nodup_append] at n
  have e1 := ih n.1
  have e2 : getI L e.1 = none := by
    cases hg : getI L e.1 with
    | none => rfl
    | some v =>
      have hm : e.1 ∈ L.map (·.1) := (mem_keys L e.1).mpr (by rw [hg]; rfl)
      exact absurd rfl (n.2.2 _ hm _ (by simp))
  rw [mixF_snoc, e1, mixStep, e2, putI, any_getI, e2]
  simp
/-! the program's -/
theorem pairsK_pr (ps : List (Int × Int)) : pairsK (ps.map pr) = some (dI PyData.int ps) := by
  induction ps with
  | nil => rfl
  | cons p r ih => simp [pairsK, pr, keyOf, dI] at ih ⊢; simp [ih]
theorem mergeP_dI {α : Type} (f : α → PyData) (L : List (Int × α)) : ∀ acc : List (Int × α), mergeP (dI f acc) (dI f L) = dI f (L.foldl (fun a q => putI a q.1 q.2) acc) := by
  induction L with
  | nil => intro acc; rfl
  | cons p r ih =>
    intro acc
    show mergeP (putP (dI f acc) (.inl p.1) (f p.2)) (dI f r) = _
    rw [putP_dI, ih]; rfl
theorem putAll_self {α : Type} {ps : List (Int × α)} (h : (ps.map (·.1)).Nodup) : ps.foldl (fun a q => putI a q.1 q.2) [] = ps := by
  refine snoc_ind (P := fun ps : List (Int × α) => (ps.map (·.1)).Nodup → ps.foldl (fun a q => putI a q.1 q.2) [] = ps) ps (fun _ => rfl) (fun L e ih n => ?_) h
  rw [List.map_append, List.nodup_append] at n
  have e1 := ih n.1
  have e2 : getI L e.1 = none := by
    cases hg : getI L e.1 with
    | none => rfl
    | some v =>
      have hm : e.1 ∈ L.map (·.1) := (mem_keys L e.1).mpr (by rw [hg]; rfl)
      exact absurd rfl (n.2.2 _ hm _ (by simp))
  rw [List.foldl_append, e1]
  simp [putI, any_getI, e2]
theorem pureD_fun (kvs : List (Key × PyData)) : pureD (kvs.map fun p => (p.1, Val.d p.2)) = some kvs := by
  induction kvs with
  | nil => rfl
  | cons p r ih => simp [pureD, ih]
theorem dOf_sack {ps : List (Int × Int)} (hn : ps ≠ []) (h : (ps.map (·.1)).Nodup) {i : Nat} {ρ : Rho} {M : Store} (h0 : ρ[i]? = some (some (.sh (.d (sackD ps))))) :
    dOf (eVar i) ρ M = .ok ((dI PyData.int ps).map fun p => (p.1, Val.d p.2)) M := by
  have e1 := pairsK_pr ps
  have e2 := mergeP_dI PyData.int ps []
  rw [putAll_self h] at e2
  have e3 : ps.map pr ≠ [] := by simpa using hn
  have e4 : (eVar i) ρ M = .ok (.d (sackD ps)) M := by simp [h0]
  rw [dOf_eq, e4]
  show (match pairsK (ps.map pr) with
    | some qs => if ps.map pr ≠ [] then Res.ok ((mergeP [] qs).map fun p : Key × PyData => (p.1, Val.d p.2)) M else Res.stuck
    | none => Res.stuck) = _
  rw [e1]
  show (if ps.map pr ≠ [] then Res.ok ((mergeP (dI PyData.int []) (dI PyData.int ps)).map fun p => (p.1, Val.d p.2)) M else .stuck) = _
  rw [if_pos e3, e2]
theorem dI_pair (L : List (Int × Int)) : (dI PyData.int L).map pairKD = L.map pr := by
  unfold dI
  rw [List.map_map]; rfl
theorem nodup8 {l : List Int} (n : l.Nodup) (h : ∀ k ∈ l, 0 ≤ k ∧ k ≤ 7) : l.length ≤ 8 := by
  have n0 : hs8.Nodup := by decide
  have p : l.Perm (hs8.filter fun k => decide (k ∈ l)) := (List.perm_ext_iff_of_nodup n (n0.filter _)).mpr fun k => by
    rw [List.mem_filter, hs8_mem, decide_eq_true_eq]
    exact ⟨fun z => ⟨h k z, z⟩, fun z => z.2⟩
  rw [p.length_eq]
  exact Nat.le_trans (List.length_filter_le ..) (by decide)
section
variable {M : Store} {ρ : Rho} {QL : List Val → Store → Prop}
@[simp ↓] theorem wp_sortItems (i : Nat) : Wp QL (lSortItems i ρ M) = WOd (fun kvs => Wp QL (if okSort (kvs.map pairKD) = true then .ok ((sortD (kvs.map pairKD)).map Val.d) M else .stuck)) ρ[i]? := wod_eq
end
theorem mixed_in_eq {ps qs : List (Int × Int)} (hp : SOk ps) (hq : SOk qs) (M : Store) : m_mixed_in [.d (sackD ps), .d (sackD qs)] M = .ok (.d (sackD (joinL (ps ++ qs)))) M := by
  have np : (ps.map (·.1)).Nodup := hp.rise.imp fun h => by omega
  have hne : ps ≠ [] := fun z => by have := hp.lo; rw [z] at this; simp at this
  have hself := mixF_self np
  have hb : ∀ p ∈ ps ++ qs, 0 ≤ p.1 ∧ p.1 ≤ 7 ∧ 1 ≤ p.2 := fun p h => by
    rcases List.mem_append.mp h with h | h
    · have := hp.dom p h; omega
    · have := hq.dom p h; omega
  have hkeys : ∀ n, ∀ k ∈ (mixF ps (qs.take n)).map (·.1), 0 ≤ k ∧ k ≤ 7 := fun n k hk => by
    have e : mixF ps (qs.take n) = mixF [] (ps ++ qs.take n) := by rw [mixF_app, hself]
    rw [e, mem_keys, mixF_get] at hk
    by_cases c : hasH k (ps ++ qs.take n) = true
    · obtain ⟨q, hm, hk2⟩ := List.any_eq_true.mp c
      have hm2 : q ∈ ps ++ qs := by
        rcases List.mem_append.mp hm with h | h
        · exact List.mem_append_left _ h
        · exact List.mem_append_right _ (List.mem_of_mem_take h)
      have := hb q hm2
      have hk3 : q.1 = k := by simpa using hk2
      omega
    · rw [if_neg c] at hk; cases hk
  have hlen : ∀ n, (mixF ps (qs.take n)).length ≤ 8 := fun n => by
    have e : mixF ps (qs.take n) = mixF [] (ps ++ qs.take n) := by rw [mixF_app, hself]
    have nn : ((mixF ps (qs.take n)).map (·.1)).Nodup := by rw [e]; exact mixF_nodup _
    have := nodup8 nn (hkeys n)
    simpa using this
  have hd := fun (ρ : Rho) (h0 : ρ[0]? = some (some (Slot.sh (.d (sackD ps))))) => dOf_sack (i := 0) (M := M) hne np h0
  refine Wp.eq ?_
  unfold m_mixed_in b_mixed_in
  simp -dsimp [-wp_seq, -sSeq_eq]
  refine wp_seqC (fun ρ M' => ρ = [some (.sh (.d (sackD ps))), some (.sh (.d (sackD qs))), some (.od (dI PyData.int ps)), none, none] ∧ M' = M) ?_ ?_
  · have e1 := pureD_fun (dI PyData.int ps)
    have h0 := hd [some (.sh (.d (sackD ps))), some (.sh (.d (sackD qs))), none, none, none] rfl
    rw [wp_asgD, h0, wp_ok, e1]
    simp -dsimp
  rintro _ M' ⟨rfl, rfl⟩
  have hq2 := hq.hi
  rw [wp_seq, wp_sFor]
  refine wp_acc 2 (fun i s M2 => s = some (.od (dI PyData.int (mixF ps (qs.take i)))) ∧ M2 = M') ?_
  simp -dsimp
  refine ⟨_, items_sackV qs, ⟨_, rfl, rfl, rfl⟩, ?_, ?_⟩
  · rintro j x s M2 hx ⟨rfl, rfl⟩
    have hj : j < qs.length := by simpa using (List.getElem?_eq_some_iff.mp hx).1
    rw [List.getElem?_map, List.getElem?_eq_getElem hj] at hx
    simp only [Option.map_some, Option.some.injEq] at hx
    subst hx
    have e1 : qs.take (j + 1) = qs.take j ++ [qs[j]] := by rw [List.take_succ, List.getElem?_eq_getElem hj]; rfl
    have hl := hlen j
    rw [e1, mixF_snoc]
    generalize mixF ps (qs.take j) = A at *
    generalize qs[j] = q at *
    have hv := valP_dI PyData.int q.1 A
    have hpu := putP_dI PyData.int q.1 ((getI A q.1).getD 0 + q.2) A
    have hdl := dI_len PyData.int A
    have hg : ((getI A q.1).map PyData.int).getD (.int 0) = .int ((getI A q.1).getD 0) := by cases getI A q.1 <;> rfl
    have hlt : (dI PyData.int A).length < 100000 := by omega
    generalize dI PyData.int A = D at *
    unfold f1_mixed_in
    simp -dsimp [pr, hv, hg, fAdd, dsetR, hpu, hlt]
    rfl
  · rintro s M2 ⟨rfl, rfl⟩
    have e0 : qs.take qs.length = qs := List.take_length
    have hl := hlen qs.length
    rw [e0] at hl
    have e1 := dI_pair (mixF ps qs)
    have e2 := okSort_prs (xs := mixF ps qs) (by omega)
    have e3 := sortD_prs (mixF ps qs)
    have e4 : (mixF ps qs).mergeSort lep = joinL (ps ++ qs) := by
      rw [← join_sort hb, mixF_app, hself]
    rw [e4] at e3
    rw [← e1] at e2 e3
    simp only [List.length_map, e0]
    generalize dI PyData.int (mixF ps qs) = D at *
    unfold sackD
    generalize joinL (ps ++ qs) = J at *
    simp -dsimp [e2, e3]
end Z

/-! Plain part 113: sacks mixed, the law's way; mixed, more_by_mixing. -/
namespace Z
open PySem PySem.Spec PyProof.Rows L2
/-- whether what is joined is a sack -/
theorem join_dom {L : List (Int × Int)} (hb : ∀ p ∈ L, 1 ≤ p.2) : ∀ p ∈ joinL L, 0 ≤ p.1 ∧ p.1 ≤ 7 ∧ 1 ≤ p.2 := by
  intro p hp
  obtain ⟨h, hh, rfl⟩ := List.mem_map.mp hp
  have h1 := List.mem_filter.mp hh
  have h2 := hs8_mem.mp h1.1
  have h3 := h1.2
  simp only [decide_eq_true_eq] at h3
  exact ⟨h2.1, h2.2, by show 1 ≤ houseS h L; omega⟩
theorem join_rise (L : List (Int × Int)) : ((joinL L).map Prod.fst).Pairwise (· < ·) := by
  have h8 : hs8.Pairwise (· < ·) := by decide
  unfold joinL
  rw [List.map_map]
  exact List.pairwise_map.mpr ((h8.filter _).imp fun h => h)
theorem join_ne {L : List (Int × Int)} (hb : ∀ p ∈ L, 0 ≤ p.1 ∧ p.1 ≤ 7 ∧ 1 ≤ p.2) (hn : L ≠ []) : 1 ≤ (joinL L).length := by
  obtain ⟨p, r, rfl⟩ := List.exists_cons_of_ne_nil hn
  have hp := hb p (by simp)
  have : (p.1, houseS p.1 (p :: r)) ∈ joinL (p :: r) := by
    refine List.mem_map.mpr ⟨p.1, List.mem_filter.mpr ⟨hs8_mem.mpr ⟨hp.1, hp.2.1⟩, ?_⟩, rfl⟩
    have := (houseS_pos (h := p.1) (L := p :: r) fun q hq => (hb q hq).2.2).2.mpr (by simp [hasH])
    simpa using this
  exact List.length_pos_of_mem this
theorem pr_inj : ∀ {xs ys : List (Int × Int)}, xs.map pr = ys.map pr → xs = ys
  | [], [], _ => rfl
  | [], _ :: _, h => by cases h
  | _ :: _, [], h => by cases h
  | x :: xs, y :: ys, h => by
    simp only [List.map_cons, List.cons.injEq, pr, PyData.tuple.injEq, PyData.int.injEq, and_true] at h
    rw [Prod.ext h.1.1 h.1.2, pr_inj h.2]
theorem sackD_inj {xs ys : List (Int × Int)} (h : sackD xs = sackD ys) : xs = ys := by
  unfold sackD at h
  exact pr_inj (PyData.tuple.inj h)
theorem isSack_SOk {ps : List (Int × Int)} (h : isSack (sackD ps) = true) : SOk ps := by
  obtain ⟨qs, e, ok⟩ := isSack_ps h
  rw [sackD_inj e]; exact ok
def toss (L : List (Int × Int)) : Bool := decide ((joinL L).length ≤ 4) && (joinL L).all fun p => decide (p.2 ≤ 999)
theorem isSack_join {L : List (Int × Int)} (hb : ∀ p ∈ L, 0 ≤ p.1 ∧ p.1 ≤ 7 ∧ 1 ≤ p.2) (hn : L ≠ []) : isSack (sackD (joinL L)) = toss L := by
  have h1 := join_dom fun p hp => (hb p hp).2.2
  have h2 := join_rise L
  have h3 := join_ne hb hn
  cases e : toss L with
  | true =>
    simp only [toss, Bool.and_eq_true, decide_eq_true_eq, List.all_eq_true] at e
    exact sackD_ok ⟨h3, e.1, h2, fun p hp => ⟨(h1 p hp).1, (h1 p hp).2.1, (h1 p hp).2.2, e.2 p hp⟩⟩
  | false =>
    cases e2 : isSack (sackD (joinL L)) with
    | false => rfl
    | true =>
      have ok := isSack_SOk e2
      have : toss L = true := by
        simp only [toss, Bool.and_eq_true, decide_eq_true_eq, List.all_eq_true]
        exact ⟨ok.hi, fun p hp => (ok.dom p hp).2.2.2⟩
      rw [this] at e; cases e
theorem app_dom {ps qs : List (Int × Int)} (hp : SOk ps) (hq : SOk qs) : ∀ p ∈ ps ++ qs, 0 ≤ p.1 ∧ p.1 ≤ 7 ∧ 1 ≤ p.2 := fun p h => by
  rcases List.mem_append.mp h with h | h
  · have := hp.dom p h; omega
  · have := hq.dom p h; omega
theorem app_ne {ps qs : List (Int × Int)} (hp : SOk ps) : ps ++ qs ≠ [] := fun z => by
  have := hp.lo
  rw [(List.append_eq_nil_iff.mp z).1] at this; simp at this
theorem mixed_eq {ps qs : List (Int × Int)} (hp : SOk ps) (hq : SOk qs) (M : Store) : m_mixed [.d (sackD ps), .d (sackD qs)] M = if toss (ps ++ qs) = true then .ok (.d (sackD (joinL (ps ++ qs)))) M else .exn "TooMuch" M := by
  have h1 := need_sackD ps hp M
  have h2 := need_sackD qs hq M
  have h3 := mixed_in_eq hp hq M
  have h4 := is_sack_eq (sackD (joinL (ps ++ qs))) M
  rw [isSack_join (app_dom hp hq) (app_ne hp)] at h4
  cases e : toss (ps ++ qs) with
  | true => rw [e] at h4; simp [m_mixed, b_mixed, h1, h2, h3, h4]
  | false => rw [e] at h4; simp [m_mixed, b_mixed, h1, h2, h3, h4]
theorem toss_SOk {ps qs : List (Int × Int)} (hp : SOk ps) (hq : SOk qs) (h : toss (ps ++ qs) = true) : SOk (joinL (ps ++ qs)) := by
  refine isSack_SOk ?_
  rw [isSack_join (app_dom hp hq) (app_ne hp)]; exact h
end Z

/-! Plain part 114: parts, grain, shares asked for; fair ones; the dish of what is mixed. -/
namespace Z
open PySem PySem.Spec PyProof.Rows L2
theorem grain_ofS {ps : List (Int × Int)} (h : SOk ps) (M : Store) : m_grain_of [.d (sackD ps)] M = .ok (.d (.int (grain ps))) M := by
  have g := grain_in_eq (ps := ps) (by have := h.hi; omega) M
  simp [m_grain_of, b_grain_of, need_sackD ps h, g]
/-! what is mixed keeps its sums -/
def wsum (w : Int → Int) (L : List (Int × Int)) : Int := (L.map fun p => w p.1 * p.2).sum
theorem houseS_cons (h : Int) (p : Int × Int) (r : List (Int × Int)) : houseS h (p :: r) = (if p.1 = h then p.2 else 0) + houseS h r := by
  unfold houseS
  by_cases c : p.1 = h <;> simp [c]
theorem wsum_all (w : Int → Int) : ∀ L : List (Int × Int), (∀ p ∈ L, 0 ≤ p.1 ∧ p.1 ≤ 7) → (hs8.map fun h => w h * houseS h L).sum = wsum w L
  | [], _ => by
    have e8 : hs8 = [0, 1, 2, 3, 4, 5, 6, 7] := rfl
    simp [e8, houseS, wsum]
  | p :: r, hb => by
    have ih := wsum_all w r fun q hq => hb q (by simp [hq])
    have hp := hb p (by simp)
    have e8 : hs8 = [0, 1, 2, 3, 4, 5, 6, 7] := rfl
    have ew : wsum w (p :: r) = w p.1 * p.2 + wsum w r := by simp [wsum]
    rw [ew, ← ih]
    simp only [houseS_cons, e8, List.map_cons, List.map_nil, List.sum_cons, List.sum_nil, Int.mul_add]
    have c : p.1 = 0 ∨ p.1 = 1 ∨ p.1 = 2 ∨ p.1 = 3 ∨ p.1 = 4 ∨ p.1 = 5 ∨ p.1 = 6 ∨ p.1 = 7 := by omega
    rcases c with c | c | c | c | c | c | c | c <;> rw [c] <;> simp <;> omega
theorem filt_sum {α : Type} (f : α → Int) (q : α → Bool) : ∀ l : List α, (∀ x ∈ l, q x = false → f x = 0) → ((l.filter q).map f).sum = (l.map f).sum
  | [], _ => rfl
  | x :: r, h => by
    have ih := filt_sum f q r fun y hy => h y (by simp [hy])
    cases e : q x with
    | true => rw [List.filter_cons_of_pos e]; simp [ih]
    | false => rw [List.filter_cons_of_neg (by simp [e])]; simp [ih, h x (by simp) e]
theorem wsum_join (w : Int → Int) {L : List (Int × Int)} (hb : ∀ p ∈ L, 0 ≤ p.1 ∧ p.1 ≤ 7 ∧ 1 ≤ p.2) : wsum w (joinL L) = wsum w L := by
  rw [← wsum_all w L fun p hp => ⟨(hb p hp).1, (hb p hp).2.1⟩]
  unfold wsum joinL
  rw [List.map_map]
  show ((hs8.filter fun h => decide (0 < houseS h L)).map fun h => w h * houseS h L).sum = _
  refine filt_sum (fun h => w h * houseS h L) _ hs8 fun h _ z => ?_
  have h1 := (houseS_pos (h := h) (L := L) fun p hp => (hb p hp).2.2).1
  have h2 : ¬ 0 < houseS h L := by simpa using z
  have : houseS h L = 0 := by omega
  rw [this, Int.mul_zero]
theorem wsum_app (w : Int → Int) (L R : List (Int × Int)) : wsum w (L ++ R) = wsum w L + wsum w R := by simp [wsum, List.sum_append]
def freeW (r : Rule) (h : Int) : Int := if h ∈ r.free then 0 else 1
theorem giv_wsum (r : Rule) (ps : List (Int × Int)) : (givL r ps).sum = wsum (freeW r) ps := by
  unfold givL wsum
  congr 1
  refine List.map_congr_left fun p _ => ?_
  unfold givO freeW
  split <;> simp
theorem join_giv {r : Rule} {ps qs : List (Int × Int)} (hp : SOk ps) (hq : SOk qs) : (givL r (joinL (ps ++ qs))).sum = (givL r ps).sum + (givL r qs).sum := by
  rw [giv_wsum, wsum_join _ (app_dom hp hq), wsum_app, ← giv_wsum, ← giv_wsum]
theorem more_01 {r : Rule} (hr : r.Ok) {ps qs : List (Int × Int)} (hp : SOk ps) (hq : SOk qs) : 0 ≤ dish r (joinL (ps ++ qs)) - dish r ps - dish r qs ∧ dish r (joinL (ps ++ qs)) - dish r ps - dish r qs ≤ 1 := by
  have h := join_giv (r := r) hp hq
  have hn := hr.per
  unfold dish
  rw [h]
  generalize (givL r ps).sum = a
  generalize (givL r qs).sum = b
  generalize r.per = n at *
  have a1 := Int.mul_ediv_add_emod a n
  have a2 := Int.emod_nonneg a (by omega : n ≠ 0)
  have a3 := Int.emod_lt_of_pos a (by omega : 0 < n)
  have b1 := Int.mul_ediv_add_emod b n
  have b2 := Int.emod_nonneg b (by omega : n ≠ 0)
  have b3 := Int.emod_lt_of_pos b (by omega : 0 < n)
  have c1 := Int.mul_ediv_add_emod (a + b) n
  have c2 := Int.emod_nonneg (a + b) (by omega : n ≠ 0)
  have c3 := Int.emod_lt_of_pos (a + b) (by omega : 0 < n)
  generalize a / n = x at *
  generalize b / n = y at *
  generalize (a + b) / n = z at *
  generalize a % n = u at *
  generalize b % n = v at *
  generalize (a + b) % n = t at *
  have e : n * (z - x - y) = u + v - t := by rw [Int.mul_sub, Int.mul_sub]; omega
  constructor
  · refine Classical.byContradiction fun w => ?_
    have : z - x - y ≤ -1 := by omega
    have := Int.mul_le_mul_of_nonneg_left this (by omega : 0 ≤ n)
    omega
  · refine Classical.byContradiction fun w => ?_
    have : 2 ≤ z - x - y := by omega
    have := Int.mul_le_mul_of_nonneg_left this (by omega : 0 ≤ n)
    omega
/-! how much more -/
def moreI (r : Rule) (ps qs : List (Int × Int)) : Int := dish r (joinL (ps ++ qs)) - dish r ps - dish r qs
theorem mbm_eq {r : Rule} (hr : r.Ok) {ps qs : List (Int × Int)} (hp : SOk ps) (hq : SOk qs) (M : Store) :
    m_more_by_mixing [.d r.D, .d (sackD ps), .d (sackD qs)] M = if toss (ps ++ qs) = true then .ok (.d (.int (moreI r ps qs))) M else .exn "TooMuch" M := by
  have n1 := need_ruleD r hr M
  have n2 := mixed_eq hp hq M
  have d1 := dish_in_eq hr (ps := ps) (by have := hp.hi; omega) M
  have d2 := dish_in_eq hr (ps := qs) (by have := hq.hi; omega) M
  unfold moreI
  cases e : toss (ps ++ qs) with
  | false => rw [e] at n2; simp [m_more_by_mixing, b_more_by_mixing, n1, n2]
  | true =>
    have ok := toss_SOk hp hq e
    have d0 := dish_in_eq hr (ps := joinL (ps ++ qs)) (by have := ok.hi; omega) M
    rw [e] at n2
    simp [m_more_by_mixing, b_more_by_mixing, n1, n2, d0, d1, d2]
end Z

/-! Plain part 115: accounts of houses: what the program tells. -/
namespace Z
open PySem PySem.Spec PyProof.Rows L2
def lstA (xs : List Int) : PyData := .list (xs.map PyData.int)
theorem evs_take {r : Rule} {ss : List (List (Int × Int))} {i : Nat} (h : i < ss.length) : evs r (ss.take (i + 1)) = evs r (ss.take i) ++ evS r ss[i] := by
  have e : ss.take (i + 1) = ss.take i ++ [ss[i]] := by rw [List.take_succ, List.getElem?_eq_getElem h]; rfl
  rw [evs, e, List.flatMap_append]; simp [evs]
theorem evS_take {r : Rule} {ps : List (Int × Int)} {j : Nat} (h : j < ps.length) : (evS r ps).take (j + 1) = (evS r ps).take j ++ [evI r ps j] := by
  have hl : (evS r ps).length = ps.length := by simp [evS]
  rw [List.take_succ, List.getElem?_eq_getElem (by omega)]
  simp [evS]
theorem zip_rangeA (ps : List (Int × Int)) {j : Nat} (h : j < (ps.zip (List.range ps.length)).length) : (ps.zip (List.range ps.length))[j] = (ps.getD j (0, 0), j) := by
  have hj : j < ps.length := by simpa using h
  simp [List.getElem_zip, List.getD_eq_getElem?_getD, List.getElem?_eq_getElem hj]
theorem keys_le {r : Rule} {ss : List (List (Int × Int))} (hs : ∀ ps ∈ ss, SOk ps) {i : Nat} (hi : i < ss.length) (j : Nat) : ∀ e ∈ evs r (ss.take i) ++ (evS r ss[i]).take j, 0 ≤ e.1 ∧ e.1 ≤ 7 := by
  intro e he
  rcases List.mem_append.mp he with he | he
  · exact evs_bd (fun ps h => hs ps (List.mem_of_mem_take h)) e he
  · exact evs_bd (r := r) (ss := [ss[i]]) (fun ps h => by simp at h; subst h; exact hs _ (List.getElem_mem hi)) e (by simpa [evs] using List.mem_of_mem_take he)
theorem fold_lenA : ∀ (rs : List (List Int)) (a : List Int), (rs.foldl addL a).length ≤ a.length
  | [], a => Nat.le_refl _
  | x :: r, a => by
    have := fold_lenA r (addL a x)
    simp only [List.foldl_cons]
    have h2 : (addL a x).length ≤ a.length := by simp [addL]; omega
    omega
theorem tot_lenA (h : Int) (L : List (Int × List Int)) : (tot h L).length ≤ 5 := fold_lenA _ zer5
theorem account_loop {r : Rule} {ss : List (List (Int × Int))} (hr : r.Ok) (hs : ∀ ps ∈ ss, SOk ps) (h40 : ss.length ≤ 40) (M : Store) :
    Wp (fun v M' => v = .d (accD r ss) ∧ M' = M) (m_account [.d r.D, .d (sacksD ss)] M) := by
  have n1 := need_ruleD r hr M
  have hSl : (ss.map sackD).length ≤ 40 := by simpa using h40
  have h40' : ¬ (40 : Int) < (ss.map sackD).length := by omega
  have hk := kindV_t M (ss.map sackD)
  have hz : ((ss.map sackD).all fun x => isSack x) = true := by
    refine List.all_eq_true.mpr fun x hx => ?_
    obtain ⟨ps, hps, rfl⟩ := List.mem_map.mp hx
    exact sackD_ok (hs ps hps)
  have hit := items_tupV sackD ss
  unfold sacksD
  generalize hS : ss.map sackD = S at *
  unfold m_account b_account
  simp -dsimp [n1, PyData.isTuple, fLen_t, h40']
  refine wp_mapA S (fun d => .d d) (fun d => .d (.bool (isSack d))) ?_
  simp -dsimp [hk]
  refine ⟨items_t S, by omega, fun d _ => by simp -dsimp [is_sack_eq], ?_⟩
  have e5 : pures (S.map fun d => Val.d (.bool (isSack d))) = some (S.map fun d => .bool (isSack d)) := pures_fun _ _
  simp -dsimp [e5, fAll, Function.comp_def, hz]
  refine wp_acc 2 (fun i s M' => s = some (.od (dI lstA (accF (evs r (ss.take i))))) ∧ M' = M) ?_
  simp -dsimp [hk]
  refine ⟨_, hit, ⟨_, rfl, rfl, rfl⟩, ?_, ?_⟩
  · rintro i x s M' hx ⟨rfl, rfl⟩
    have hi : i < ss.length := by simpa using (List.getElem?_eq_some_iff.mp hx).1
    rw [List.getElem?_map, List.getElem?_eq_getElem hi] at hx
    simp only [Option.map_some, Option.some.injEq] at hx
    subst hx
    have hps := hs _ (List.getElem_mem hi)
    have kb := keys_le (r := r) hs hi
    rw [evs_take hi]
    have hfull : (evS r ss[i]).take ss[i].length = evS r ss[i] := List.take_of_length_le (by simp [evS])
    generalize evs r (ss.take i) = A at *
    generalize ss[i] = ps at *
    have hri := rows_in_eq hr hps (by decide) M'
    unfold rowsL at hri
    have k1 : kindV M' (.d (sackD ps)) = some false := rfl
    have k2 : ∀ L, kindV M' (.d (.tuple L)) = some false := fun _ => rfl
    have k3 : ∀ L, kindV M' (.d (.list L)) = some true := fun _ => rfl
    unfold f2_account
    simp -dsimp
    refine wp_acc 2 (fun j s M2 => s = some (.od (dI lstA (accF (A ++ (evS r ps).take j)))) ∧ M2 = M') ?_
    simp -dsimp [hri, k1, k2]
    have kp : itemsK [] false (.d (sackD ps)) = some (ps.map fun p => Val.d (pr p)) := by simp [itemsK, sackD, Function.comp_def]
    refine ⟨_, items_zipV pr (rowD r ps) false false _ _ ps (List.range ps.length) kp (kst (rowD r ps) [] (List.range ps.length)), ⟨_, rfl, by simp, rfl⟩, ?_, ?_⟩
    · rintro j x s M2 hx ⟨rfl, rfl⟩
      have hjz : j < (ps.zip (List.range ps.length)).length := by simpa using (List.getElem?_eq_some_iff.mp hx).1
      have hj : j < ps.length := by simpa using hjz
      rw [List.getElem?_map, List.getElem?_eq_getElem hjz, zip_rangeA ps hjz] at hx
      simp only [Option.map_some, Option.some.injEq] at hx
      subst hx
      have kb1 := keys_len (kb j)
      rw [evS_take hj, ← List.append_assoc, accF_snoc, accStep]
      generalize hB : accF (A ++ (evS r ps).take j) = B at *
      have hev : evI r ps j = ((ps.getD j (0, 0)).1, newI r ps j) := rfl
      rw [hev]
      have hnl : newI r ps j = (ps.getD j (0, 0)).2 :: (rowI r ps j).drop 1 := rfl
      have hrd : rowD r ps j = .tuple ((rowI r ps j).map PyData.int) := rfl
      have hrl : (rowI r ps j).length = 5 := rfl
      rw [hrd]
      have hnw5 : (newI r ps j).length ≤ 5 := by rw [hnl]; simp; omega
      generalize rowI r ps j = row at *
      generalize newI r ps j = nw at *
      generalize ps.getD j (0, 0) = p at *
      have hc : cut (row.map PyData.int) (some 1) none = (row.drop 1).map PyData.int := by rw [cut_from _ (by decide), List.map_drop]; rfl
      have hA1 : fAdd (.tuple [.int p.2]) (.tuple ((row.drop 1).map PyData.int)) = some (.tuple (nw.map PyData.int)) := by
        simp only [fAdd]; rw [if_pos (by simp; omega), hnl]; rfl
      have hBl : (dI lstA B).length < 100000 := by rw [dI_len]; simp at kb1; omega
      have hget : (((getI B p.1).map lstA).getD (.list [.int 0, .int 0, .int 0, .int 0, .int 0])) = lstA ((getI B p.1).getD zer5) := by
        cases getI B p.1 <;> rfl
      have hput := putP_dI lstA p.1 (addL ((getI B p.1).getD zer5) nw) B
      generalize (getI B p.1).getD zer5 = own at *
      generalize hD : dI lstA B = D at *
      have hval : valP D (.inl p.1) = (getI B p.1).map lstA := by rw [← hD]; exact valP_dI ..
      generalize (row.drop 1).map PyData.int = T at *
      unfold f1_account
      simp -dsimp [pr, hval, hget]
      refine wp_mapA (own.zip nw) (fun q => .d (.tuple [.int q.1, .int q.2])) (fun q => .d (.int (q.1 + q.2))) ?_
      simp -dsimp [fSl, hc, hA1, k2, k3, lstA]
      refine ⟨items_zipV PyData.int PyData.int true false _ _ own nw (by simp [itemsK, Function.comp_def]) (kst PyData.int [] nw), by simp; omega, fun q _ => by simp -dsimp, ?_⟩
      have e1 : pures ((own.zip nw).map fun q => Val.d (.int (q.1 + q.2))) = some ((addL own nw).map PyData.int) := by
        unfold addL; rw [List.map_map]; exact pures_fun _ _
      have hput' : putP D (.inl p.1) (.list ((addL own nw).map PyData.int)) = dI lstA (putI B p.1 (addL own nw)) := hput
      generalize dI lstA (putI B p.1 (addL own nw)) = D2 at *
      generalize (addL own nw).map PyData.int = LL at *
      simp -dsimp [e1, dsetR, hput', hBl]
    · rintro s M2 ⟨rfl, rfl⟩
      simp -dsimp
      rw [hfull]
  · rintro s M' ⟨rfl, rfl⟩
    have e1 : ss.take (ss.map fun x => Val.d (sackD x)).length = ss := List.take_of_length_le (by simp)
    rw [e1]
    have hb := evs_bd (r := r) hs
    have hsk := sort_keys hb
    have hkl := keys_len hb
    have hik := intKeys_dI lstA (accF (evs r ss))
    have hst : sortDR (dI lstA (accF (evs r ss))) M' = .ok ((housesOf (evs r ss)).map fun i => .d (.int i)) M' := by
      unfold sortDR; rw [hik]; simp only; rw [if_pos (by omega), hsk]
    have hps : pures ((housesOf (evs r ss)).map fun i => Val.d (.int i)) = some ((housesOf (evs r ss)).map PyData.int) := pures_fun _ _
    have hval : ∀ h ∈ housesOf (evs r ss), valP (dI lstA (accF (evs r ss))) (.inl h) = some (lstA (tot h (evs r ss))) := fun h hh => by
      rw [valP_dI, accF_get]
      have := (List.mem_filter.mp hh).2
      have : rowsFor h (evs r ss) ≠ [] := by intro z; rw [z] at this; simp at this
      rw [if_neg this]; rfl
    have hhl : (housesOf (evs r ss)).length ≤ 8 := List.length_filter_le ..
    have k3 : ∀ L, kindV M' (.d (.list L)) = some true := fun _ => rfl
    unfold accD accL
    generalize evs r ss = L at *
    generalize hD : dI lstA (accF L) = D at *
    generalize housesOf L = HS at *
    simp -dsimp
    refine wp_mapA HS (fun h => .d (.int h)) (fun h => .d (.tuple ((h :: tot h L).map PyData.int))) ?_
    simp -dsimp [hst, hps, k3]
    refine ⟨items_listV PyData.int HS, by omega, fun h hh => ?_, ?_⟩
    · have h1 := hval h hh
      have hT := tot_lenA h L
      generalize tot h L = T at *
      have hA : fAdd (.tuple [.int h]) (.tuple (T.map PyData.int)) = some (.tuple ((h :: T).map PyData.int)) := by
        simp only [fAdd]; rw [if_pos (by simp; omega)]; rfl
      generalize (h :: T).map PyData.int = TT at *
      simp -dsimp [dixR, h1, lstA, hA]
    · have h2 : pures (HS.map fun h => Val.d (.tuple ((h :: tot h L).map PyData.int))) = some (HS.map fun h => .tuple ((h :: tot h L).map PyData.int)) := pures_fun _ _
      generalize (HS.map fun h => Val.d (.tuple ((h :: tot h L).map PyData.int))) = V1 at *
      generalize (HS.map fun h => PyData.tuple ((h :: tot h L).map PyData.int)) = V2 at *
      simp -dsimp [h2]

end Z

/-! Plain part 116: accounts of houses: sums. -/
namespace Z
open PySem PySem.Spec PyProof.Rows L2
abbrev Ev := List (Int × List Int)
def Five (L : Ev) : Prop := ∀ e ∈ L, ∃ a b c d f : Int, e.2 = [a, b, c, d, f]
def cs (h : Int) (k : Nat) (L : Ev) : Int := ((L.filter fun e => decide (e.1 = h)).map fun e => e.2.getD k 0).sum
theorem cs_snoc (h : Int) (k : Nat) (L : Ev) (e : Int × List Int) : cs h k (L ++ [e]) = cs h k L + if e.1 = h then e.2.getD k 0 else 0 := by
  unfold cs
  rw [List.filter_append]
  by_cases c : e.1 = h <;> simp [c]
theorem cs_app (h : Int) (k : Nat) (A B : Ev) : cs h k (A ++ B) = cs h k A + cs h k B := by simp [cs, List.filter_append, List.sum_append]
theorem Five.app {A B : Ev} (a : Five A) (b : Five B) : Five (A ++ B) := fun e h => (List.mem_append.mp h).elim (a e) (b e)
theorem tot_cs (h : Int) {L : Ev} (hL : Five L) : tot h L = [cs h 0 L, cs h 1 L, cs h 2 L, cs h 3 L, cs h 4 L] := by
  refine snoc_ind (P := fun L => Five L → tot h L = [cs h 0 L, cs h 1 L, cs h 2 L, cs h 3 L, cs h 4 L]) L (fun _ => rfl) (fun L e ih hL => ?_) hL
  have ih := ih fun x hx => hL x (List.mem_append_left _ hx)
  obtain ⟨a, b, c, d, f, he⟩ := hL e (by simp)
  rw [tot_snoc, ih]
  simp only [cs_snoc, he]
  by_cases q : e.1 = h
  · simp [q, addL]
  · simp [q]
theorem addL5 (a b c d f a' b' c' d' f' : Int) : addL [a, b, c, d, f] [a', b', c', d', f'] = [a + a', b + b', c + c', d + d', f + f'] := rfl
theorem tot_app (h : Int) {A B : Ev} (a : Five A) (b : Five B) : tot h (A ++ B) = addL (tot h A) (tot h B) := by
  rw [tot_cs h (a.app b), tot_cs h a, tot_cs h b, addL5]
  simp only [cs_app]
theorem tot_comm (h : Int) {A B : Ev} (a : Five A) (b : Five B) : tot h (A ++ B) = tot h (B ++ A) := by
  rw [tot_cs h (a.app b), tot_cs h (b.app a)]
  simp only [cs_app, Int.add_comm]
theorem rowsFor_app (h : Int) (A B : Ev) : rowsFor h (A ++ B) = rowsFor h A ++ rowsFor h B := by simp [rowsFor, List.filter_append]
theorem housesOf_comm (A B : Ev) : housesOf (A ++ B) = housesOf (B ++ A) := by
  unfold housesOf
  congr 1
  funext h
  rw [rowsFor_app, rowsFor_app]
  cases rowsFor h A <;> cases rowsFor h B <;> rfl
theorem accL_comm {A B : Ev} (a : Five A) (b : Five B) : accL (A ++ B) = accL (B ++ A) := by
  unfold accL
  rw [housesOf_comm]
  refine List.map_congr_left fun h _ => ?_
  rw [tot_comm h a b]
theorem evs_app (r : Rule) (ss tt : List (List (Int × Int))) : evs r (ss ++ tt) = evs r ss ++ evs r tt := by simp [evs]
theorem evI_five (r : Rule) (ps : List (Int × Int)) (i : Nat) : newI r ps i = [(ps.getD i (0, 0)).2, (dishL r ps).getD i 0, (branL r ps).getD i 0, (dustL r ps).getD i 0, (restL r ps).getD i 0 - (dustL r ps).getD i 0] := rfl
theorem evs_five (r : Rule) (ss : List (List (Int × Int))) : Five (evs r ss) := fun e he => by
  simp only [evs, List.mem_flatMap, evS, List.mem_map, List.mem_range] at he
  obtain ⟨ps, _, i, _, rfl⟩ := he
  exact ⟨_, _, _, _, _, evI_five r ps i⟩
/-! columns -/
def colT (k : Nat) (L : Ev) : Int := (L.map fun e => e.2.getD k 0).sum
theorem colT_app (k : Nat) (A B : Ev) : colT k (A ++ B) = colT k A + colT k B := by simp [colT, List.sum_append]
theorem cs_cons (h : Int) (k : Nat) (e : Int × List Int) (L : Ev) : cs h k (e :: L) = (if e.1 = h then e.2.getD k 0 else 0) + cs h k L := by
  unfold cs
  by_cases c : e.1 = h <;> simp [c]
theorem cs_all (k : Nat) : ∀ L : Ev, (∀ e ∈ L, 0 ≤ e.1 ∧ e.1 ≤ 7) → (hs8.map fun h => cs h k L).sum = colT k L
  | [], _ => by
    have e8 : hs8 = [0, 1, 2, 3, 4, 5, 6, 7] := rfl
    simp [e8, cs, colT]
  | e :: r, hb => by
    have ih := cs_all k r fun q hq => hb q (by simp [hq])
    have hp := hb e (by simp)
    have e8 : hs8 = [0, 1, 2, 3, 4, 5, 6, 7] := rfl
    have ew : colT k (e :: r) = e.2.getD k 0 + colT k r := by simp [colT]
    rw [ew, ← ih]
    simp only [cs_cons, e8, List.map_cons, List.map_nil, List.sum_cons, List.sum_nil]
    have c : e.1 = 0 ∨ e.1 = 1 ∨ e.1 = 2 ∨ e.1 = 3 ∨ e.1 = 4 ∨ e.1 = 5 ∨ e.1 = 6 ∨ e.1 = 7 := by omega
    rcases c with c | c | c | c | c | c | c | c <;> rw [c] <;> simp <;> omega
theorem cs_zero {h : Int} {k : Nat} {L : Ev} (e : rowsFor h L = []) : cs h k L = 0 := by
  unfold rowsFor at e
  have : (L.filter fun e => decide (e.1 = h)) = [] := List.map_eq_nil_iff.mp e
  unfold cs
  rw [this]; rfl
theorem cs_houses (k : Nat) {L : Ev} (hb : ∀ e ∈ L, 0 ≤ e.1 ∧ e.1 ≤ 7) : ((housesOf L).map fun h => cs h k L).sum = colT k L := by
  rw [← cs_all k L hb]
  refine filt_sum (fun h => cs h k L) _ hs8 fun h _ z => ?_
  refine cs_zero ?_
  cases e : rowsFor h L with
  | nil => rfl
  | cons a l => rw [e] at z; cases z
/-! a sack's own -/
theorem subs_get {xs ys : List Int} {i : Nat} (h1 : i < xs.length) (h2 : i < ys.length) : (subs xs ys).getD i 0 = xs.getD i 0 - ys.getD i 0 := by
  have e : (xs.zip ys)[i]? = some (xs[i], ys[i]) := List.getElem?_zip_eq_some.mpr ⟨List.getElem?_eq_getElem h1, List.getElem?_eq_getElem h2⟩
  unfold subs
  rw [List.getD_eq_getElem?_getD, List.getElem?_map, e, List.getD_eq_getElem?_getD, List.getD_eq_getElem?_getD, List.getElem?_eq_getElem h1, List.getElem?_eq_getElem h2]
  rfl
section
variable {r : Rule} {ps : List (Int × Int)}
theorem evS_map (r : Rule) (ps : List (Int × Int)) (g : Int × List Int → Int) : ((evS r ps).map g) = (List.range ps.length).map fun i => g (evI r ps i) := by simp [evS]
theorem snd_range (ps : List (Int × Int)) : ((List.range ps.length).map fun i => (ps.getD i (0, 0)).2) = ounL ps := by
  apply List.ext_getElem
  · simp [ounL]
  · intro i h1 h2
    have : i < ps.length := by simpa using h1
    simp [ounL, List.getD_eq_getElem?_getD, this]
theorem colT_grain (r : Rule) (ps : List (Int × Int)) : colT 0 (evS r ps) = grain ps := by
  unfold colT
  rw [evS_map]
  have e : ∀ i, (evI r ps i).2.getD 0 0 = (ps.getD i (0, 0)).2 := fun _ => rfl
  simp only [e]
  rw [snd_range]; rfl
theorem colT_dish (hr : r.Ok) (hs : SOk ps) : colT 1 (evS r ps) = dish r ps := by
  unfold colT
  rw [evS_map]
  have e : ∀ i, (evI r ps i).2.getD 1 0 = (dishL r ps).getD i 0 := fun _ => rfl
  simp only [e]
  have R := rows_ok hr hs
  have key : ((List.range ps.length).map fun i => (dishL r ps).getD i 0) = dishL r ps := by
    rw [← R.l1]
    apply List.ext_getElem
    · simp
    · intro i h1 h2
      have : i < (dishL r ps).length := by simpa using h1
      simp [List.getD_eq_getElem?_getD, this]
  rw [key, R.s1]
theorem colT_evs (k : Nat) (r : Rule) : ∀ ss : List (List (Int × Int)), colT k (evs r ss) = (ss.map fun ps => colT k (evS r ps)).sum
  | [] => rfl
  | ps :: t => by
    have : evs r (ps :: t) = evS r ps ++ evs r t := by simp [evs]
    rw [this, colT_app, colT_evs k r t]; simp
/-- a row's own sums -/
theorem row_sum (hr : r.Ok) (hs : SOk ps) {i : Nat} (hi : i < ps.length) : ∃ h d b u f : Int, rowI r ps i = [h, d, b, u, f] ∧ h = ps[i].1 ∧ d + b + u + f = ps[i].2 ∧ 0 ≤ d ∧ 0 ≤ b ∧ 0 ≤ u ∧ 0 ≤ f ∧ d ≤ 999 ∧ b ≤ 999 ∧ u ≤ 999 ∧ f ≤ 999 := by
  have R := rows_ok hr hs
  have lo : (ounL ps).length = ps.length := by simp [ounL]
  have e1 : (leftL r ps).getD i 0 = ps[i].2 - (dishL r ps).getD i 0 := by
    unfold leftL
    rw [subs_get (by omega) (by rw [R.l1]; exact hi)]
    congr 1
    simp [ounL, List.getD_eq_getElem?_getD, hi]
  have e2 : (restL r ps).getD i 0 = (leftL r ps).getD i 0 - (branL r ps).getD i 0 := by
    unfold restL
    rw [subs_get (by rw [R.l2]; exact hi) (by rw [R.l3]; exact hi)]
  have e3 : (flourL r ps).getD i 0 = (restL r ps).getD i 0 - (dustL r ps).getD i 0 := by
    unfold flourL
    rw [subs_get (by rw [R.l4]; exact hi) (by rw [R.l5]; exact hi)]
  have b1 := getD_bd R.b1 (by decide) i
  have b3 := getD_bd R.b3 (by decide) i
  have b5 := getD_bd R.b5 (by decide) i
  have b6 := getD_bd R.b6 (by decide) i
  refine ⟨_, _, _, _, _, rfl, ?_, ?_, b1.1, b3.1, b5.1, ?_, b1.2, b3.2, b5.2, ?_⟩
  · simp [List.getD_eq_getElem?_getD, hi]
  · omega
  · omega
  · omega
end
/-- each row comes to its ounces -/
def Bal (L : Ev) : Prop := ∀ e ∈ L, e.2.getD 0 0 = e.2.getD 1 0 + e.2.getD 2 0 + e.2.getD 3 0 + e.2.getD 4 0
theorem evs_bal {r : Rule} (hr : r.Ok) {ss : List (List (Int × Int))} (hs : ∀ ps ∈ ss, SOk ps) : Bal (evs r ss) := fun e he => by
  simp only [evs, List.mem_flatMap, evS, List.mem_map, List.mem_range] at he
  obtain ⟨ps, hps, i, hi, rfl⟩ := he
  obtain ⟨h, d, b, u, f, e1, -, e2, -⟩ := row_sum hr (hs ps hps) hi
  have e3 : (ps.getD i (0, 0)).2 = ps[i].2 := by simp [List.getD_eq_getElem?_getD, hi]
  have e4 : newI r ps i = [ps[i].2, d, b, u, f] := by unfold newI; rw [e1, e3]; rfl
  show (newI r ps i).getD 0 0 = (newI r ps i).getD 1 0 + (newI r ps i).getD 2 0 + (newI r ps i).getD 3 0 + (newI r ps i).getD 4 0
  rw [e4]
  show ps[i].2 = d + b + u + f
  omega
theorem cs_bal (h : Int) {L : Ev} (hL : Bal L) : cs h 0 L = cs h 1 L + cs h 2 L + cs h 3 L + cs h 4 L := by
  induction L with
  | nil => rfl
  | cons e r ih =>
    have i := ih fun x hx => hL x (by simp [hx])
    have b := hL e (by simp)
    simp only [cs_cons]
    by_cases c : e.1 = h
    · simp only [if_pos c]; omega
    · simp only [if_neg c]; omega
end Z

namespace Z
open PySem PySem.Spec PyProof.Rows L2

/-- _law_added: 0 _law_one, 1 _law_other, 2 _law_rows, 3 _law_row, 4 _law_own, 5 _law_house, 6 _law_mine, 7 _law_more -/
def f1_l_added : Sm Fl := (sSeq (sAsg (eDGet 2 (eG fIx (eVar 3) (eC (.int 0))) (eTup (aCons (eC (.int 0)) (aCons (eC (.int 0)) (aCons (eC (.int 0)) (aCons (eC (.int 0)) (aCons (eC (.int 0)) aNil))))))) (gN 4))
  (sDSet 2 (eTupOf (eFrz (eLc (sZip (aCons (eVar 4) (aCons (eSl (eVar 3) (oS (eC (.int 1))) oN) aNil))) (gTupM 2 (gConsM (gN 6) (gConsM (gN 7) gNilM))) tYesM (e2 fAdd (eVar 6) (eVar 7)) [6, 7]))) (eG fIx (eVar 3) (eC (.int 0)))))
def b_l_added : Sm Fl := (sSeq (sAsgD 2 (dOf (eFrz (eLc (sOne (eVar 0)) (gN 3) tYesM (eTup (aCons (eG fIx (eVar 3) (eC (.int 0))) (aCons (eSl (eVar 3) (oS (eC (.int 1))) oN) aNil))) [3]))))
  (sSeq (sFor [0, 1, 3, 4, 5, 6, 7] (sOne (eVar 1)) (gN 3) f1_l_added)
  (sRet (eTupOf (eFrz (eLc (sOne (eFrz (lSortD 2))) (gN 5) tYesM (e2 fAdd (eTup (aCons (eVar 5) aNil)) (eDIx 2 (eVar 5))) [5]))))))
def m_l_added : List Val → Store → Res Val := fnM 2 8 b_l_added
/-- law: 0 _law_script, 1 _law_k, 2 _law_box_here, 3 _law_rule_here, 4 _law_one, 5 _law_other, 6 _law_both, 7 _law_rows, 8 _law_sack_here, 9 _law_first, 10 _law_second, 11 _law_apart, 12 _law_together, 13 _law_turn, 14 _law_row, 15 _law_ounces_here -/
def f1_law : Sm Fl := (sIf (tVal (e2 fNe (eSaid (eCall 2 m_mixed (aCons (eVar 8) (aCons (eG fIx (eVar 5) (eC (.int 0))) aNil)))) (eC (.str "! much")))) (sSeq (sAsg (eCB fSum (aCons (eFrz (eLc (sOne (eCall 2 m_account (aCons (eVar 3) (aCons (eTup (aCons (eVar 8) (aCons (eG fIx (eVar 5) (eC (.int 0))) aNil))) aNil)))) (gN 14) tYesM (eG fIx (eVar 14) (eC (.int 2))) [14])) aNil)) (gN 11))
  (sSeq (sAsg (eCB fSum (aCons (eFrz (eLc (sOne (eCall 2 m_account (aCons (eVar 3) (aCons (eTup (aCons (eCall 2 m_mixed (aCons (eVar 8) (aCons (eG fIx (eVar 5) (eC (.int 0))) aNil))) aNil)) aNil)))) (gN 14) tYesM (eG fIx (eVar 14) (eC (.int 2))) [14])) aNil)) (gN 12))
  (sIf (tOrM (tVal (e2 fNe (e2 fSub (eVar 12) (eVar 11)) (eCall 3 m_more_by_mixing (aCons (eVar 3) (aCons (eVar 8) (aCons (eG fIx (eVar 5) (eC (.int 0))) aNil)))))) (tVal (e2 fNotIn (e2 fSub (eVar 12) (eVar 11)) (eTup (aCons (eC (.int 0)) (aCons (eC (.int 1)) aNil)))))) (sRet (eC (.bool false))) sNext))) sNext)
def f2_law : Sm Fl := (sSeq (sAsg (eCall 2 m_l_box (aCons (eVar 0) (aCons (eVar 1) aNil))) (gN 2))
  (sSeq (sAsg (eCall 1 m_l_rule (aCons (eVar 2) aNil)) (gN 3))
  (sSeq (sAsg (eTupOf (eFrz (eLc (sRng1 (aCons (eCall 2 m_l_take (aCons (eVar 2) (aCons (eC (.int 9)) aNil))) aNil)) (gN 13) tYesM (eCall 2 m_l_sack (aCons (eVar 2) (aCons (eC (.int 200)) aNil))) [13]))) (gN 4))
  (sSeq (sAsg (eTupOf (eFrz (eLc (sRng1 (aCons (e2 fAdd (eC (.int 1)) (eCall 2 m_l_take (aCons (eVar 2) (aCons (eC (.int 8)) aNil)))) aNil)) (gN 13) tYesM (eCall 2 m_l_sack (aCons (eVar 2) (aCons (eC (.int 999)) aNil))) [13]))) (gN 5))
  (sSeq (sPar 9 10 (aCons (eCall 2 m_account (aCons (eVar 3) (aCons (eVar 4) aNil))) (aCons (eCall 2 m_account (aCons (eVar 3) (aCons (eVar 5) aNil))) aNil)))
  (sSeq (sAsg (eCall 2 m_account (aCons (eVar 3) (aCons (e2 fAdd (eVar 4) (eVar 5)) aNil))) (gN 6))
  (sSeq (sIf (tOrM (tVal (e2 fNe (eVar 6) (eCall 2 m_l_added (aCons (eVar 9) (aCons (eVar 10) aNil))))) (tVal (e2 fNe (eCall 2 m_account (aCons (eVar 3) (aCons (e2 fAdd (eVar 5) (eVar 4)) aNil))) (eVar 6)))) (sRet (eC (.bool false))) sNext)
  (sSeq (sIf (tVal (e2 fNeL (eFrz (eLc (sOne (eVar 6)) (gN 14) (tVal (e2 fNe (eCB fSum (aCons (eSl (eVar 14) (oS (eC (.int 2))) oN) aNil)) (eG fIx (eVar 14) (eC (.int 1))))) (eVar 14) [14])) (eFrz (lLst aNil)))) (sRet (eC (.bool false))) sNext)
  (sSeq (sIf (tVal (e2 fNe (eCB fSum (aCons (eFrz (eLc (sOne (eVar 6)) (gN 14) tYesM (eG fIx (eVar 14) (eC (.int 1))) [14])) aNil)) (eCB fSum (aCons (eFrz (eLc (sOne (e2 fAdd (eVar 4) (eVar 5))) (gN 8) tYesM (eCall 1 m_grain_of (aCons (eVar 8) aNil)) [8])) aNil)))) (sRet (eC (.bool false))) sNext)
  (sSeq (sAsg (eFrz (eLc (sZip (aCons (eCall 2 m_by_house (aCons (eVar 3) (aCons (eG fIx (eVar 5) (eC (.int 0))) aNil))) (aCons (eG fIx (eVar 5) (eC (.int 0))) aNil))) (gTupM 2 (gConsM (gN 14) (gConsM (gN 15) gNilM))) tYesM (e2 fAdd (eTup (aCons (eG fIx (eVar 14) (eC (.int 0))) (aCons (eG fIx (eVar 15) (eC (.int 1))) aNil))) (eSl (eVar 14) (oS (eC (.int 1))) oN)) [14, 15])) (gN 7))
  (sSeq (sIf (tVal (e2 fNe (eCall 2 m_account (aCons (eVar 3) (aCons (eSl (eVar 5) oN (oS (eC (.int 1)))) aNil))) (eTupOf (eVar 7)))) (sRet (eC (.bool false))) sNext)
  (sFor [1, 2, 4, 6, 7, 8, 9, 10, 11, 12, 13, 14, 15] (sOne (eVar 4)) (gN 8) f1_law))))))))))))
def b_law : Sm Fl := (sSeq (sFor [1, 2, 3, 4, 5, 6, 7, 8, 9, 10, 11, 12, 13, 14, 15] (sRng1 (aCons (eCB fMax2 (aCons (eC (.int 1)) (aCons (eCB fMin2 (aCons (eCG fLen (aCons (eVar 0) aNil)) (aCons (eC (.int 3)) aNil))) aNil))) aNil)) (gN 1) f2_law)
  (sRet (eC (.bool true))))
def m_law : List Val → Store → Res Val := fnM 1 16 b_law
end Z

/-! whole accounts add up: two accounts added. -/
namespace Z
open PySem PySem.Spec PyProof.Rows L2
def tpl (xs : List Int) : PyData := .tuple (xs.map PyData.int)
def a33 (A : Ev) : List (Int × List Int) := (housesOf A).map fun h => (h, tot h A)
def addF (B : Ev) (acc : List (Int × List Int)) (hs : List Int) : List (Int × List Int) := hs.foldl (fun acc h => putI acc h (addL ((getI acc h).getD zer5) (tot h B))) acc
theorem addF_snoc (B : Ev) (acc : List (Int × List Int)) (hs : List Int) (h : Int) : addF B acc (hs ++ [h]) = putI (addF B acc hs) h (addL ((getI (addF B acc hs) h).getD zer5) (tot h B)) := by simp [addF, List.foldl_append]
theorem houses_nodup (L : Ev) : (housesOf L).Nodup := by
  have n1 : hs8.Nodup := by decide
  exact n1.filter _
theorem houses_mem {h : Int} {L : Ev} : h ∈ housesOf L ↔ (0 ≤ h ∧ h ≤ 7) ∧ rowsFor h L ≠ [] := by
  unfold housesOf
  rw [List.mem_filter, hs8_mem]
  cases rowsFor h L <;> simp
theorem a33_keys (A : Ev) : (a33 A).map (·.1) = housesOf A := by simp [a33, Function.comp_def]
theorem a33_get (A : Ev) (h : Int) : getI (a33 A) h = if h ∈ housesOf A then some (tot h A) else none := by
  have n : ((a33 A).map (·.1)).Nodup := by rw [a33_keys]; exact houses_nodup A
  by_cases c : h ∈ housesOf A
  · rw [if_pos c]
    exact (getI_mem h (tot h A) (a33 A) n).mp (List.mem_map.mpr ⟨h, c, rfl⟩)
  · rw [if_neg c]
    cases e : getI (a33 A) h with
    | none => rfl
    | some v =>
      have : h ∈ (a33 A).map (·.1) := (mem_keys _ _).mpr (by rw [e]; rfl)
      rw [a33_keys] at this
      exact absurd this c
theorem tot_none {h : Int} {L : Ev} (e : rowsFor h L = []) : tot h L = zer5 := by unfold tot; rw [e]; rfl
theorem a33_getD (A : Ev) {h : Int} (hh : 0 ≤ h ∧ h ≤ 7) : (getI (a33 A) h).getD zer5 = tot h A := by
  rw [a33_get]
  by_cases c : h ∈ housesOf A
  · rw [if_pos c]; rfl
  · rw [if_neg c]
    have : rowsFor h A = [] := Classical.byContradiction fun z => c (houses_mem.mpr ⟨hh, z⟩)
    rw [tot_none this]; rfl
theorem addF_get (A B : Ev) (h : Int) {hs : List Int} (n : hs.Nodup) (hb : ∀ h ∈ hs, 0 ≤ h ∧ h ≤ 7) : getI (addF B (a33 A) hs) h = if h ∈ hs then some (addL (tot h A) (tot h B)) else getI (a33 A) h := by
  refine snoc_ind (P := fun hs : List Int => hs.Nodup → (∀ h ∈ hs, 0 ≤ h ∧ h ≤ 7) → ∀ h, getI (addF B (a33 A) hs) h = if h ∈ hs then some (addL (tot h A) (tot h B)) else getI (a33 A) h) hs (fun _ _ h => by simp [addF]) (fun hs k ih n hb h => ?_) n hb h
  rw [List.nodup_append] at n
  have ih := ih n.1 fun x hx => hb x (List.mem_append_left _ hx)
  have hk : ¬ k ∈ hs := fun z => n.2.2 k z k (by simp) rfl
  rw [addF_snoc, getI_put, ih k, if_neg hk, a33_getD A (hb k (by simp))]
  by_cases c : h = k
  · subst c; simp
  · rw [if_neg c, ih h]
    simp [c]
theorem addF_nodup (A B : Ev) (hs : List Int) : ((addF B (a33 A) hs).map (·.1)).Nodup :=
  snoc_ind (P := fun hs : List Int => ((addF B (a33 A) hs).map (·.1)).Nodup) hs (by show ((a33 A).map (·.1)).Nodup; rw [a33_keys]; exact houses_nodup A) fun hs k ih => by
    rw [addF_snoc]; exact putI_nodup ih _ _
theorem addF_keys (A B : Ev) : sortI ((addF B (a33 A) (housesOf B)).map (·.1)) = housesOf (A ++ B) := by
  refine (sortI_uniq ?_ ?_).symm
  · refine (List.perm_ext_iff_of_nodup (houses_nodup _) (addF_nodup A B _)).mpr fun h => ?_
    rw [mem_keys, addF_get A B h (houses_nodup B) fun h hh => (houses_mem.mp hh).1, a33_get, houses_mem, rowsFor_app]
    have key : ((0 ≤ h ∧ h ≤ 7) ∧ rowsFor h A ++ rowsFor h B ≠ []) ↔ (h ∈ housesOf A ∨ h ∈ housesOf B) := by
      rw [houses_mem, houses_mem]
      by_cases c : 0 ≤ h ∧ h ≤ 7
      · cases rowsFor h A <;> cases rowsFor h B <;> simp [c]
      · simp [c]
    rw [key]
    by_cases cB : h ∈ housesOf B
    · simp [cB]
    · by_cases cA : h ∈ housesOf A <;> simp [cB, cA]
  · have : hs8.Pairwise (· ≤ ·) := by decide
    exact this.filter _
theorem addF_val {A B : Ev} (a : Five A) (b : Five B) {h : Int} (hh : h ∈ housesOf (A ++ B)) : getI (addF B (a33 A) (housesOf B)) h = some (tot h (A ++ B)) := by
  have hm := houses_mem.mp hh
  rw [addF_get A B h (houses_nodup B) fun h hh => (houses_mem.mp hh).1, tot_app h a b]
  by_cases c : h ∈ housesOf B
  · rw [if_pos c]
  · rw [if_neg c]
    have hB : rowsFor h B = [] := Classical.byContradiction fun z => c (houses_mem.mpr ⟨hm.1, z⟩)
    have hA : rowsFor h A ≠ [] := fun z => hm.2 (by rw [rowsFor_app, z, hB]; rfl)
    rw [a33_get, if_pos (houses_mem.mpr ⟨hm.1, hA⟩), tot_none hB, tot_cs h a]
    simp [zer5, addL]
/-! in the program's words -/
def dOfR (x : Val) (M1 : Store) : Res (List (Key × Val)) := match x with
  | .d (.tuple ds) => match pairsK ds with
    | some ps => if ds ≠ [] then .ok ((mergeP [] ps).map fun p => (p.1, .d p.2)) M1 else .stuck
    | none => .stuck
  | .d (.list ds) => match pairsK ds with
    | some ps => .ok ((mergeP [] ps).map fun p => (p.1, .d p.2)) M1
    | none => .stuck
  | _ => .stuck
theorem wp_dOf {Q : List (Key × Val) → Store → Prop} {m : Sm Val} {ρ : Rho} {M : Store} : Wp Q (dOf m ρ M) = Wp (fun x M1 => Wp Q (dOfR x M1)) (m ρ M) := wp_bindE ..
theorem pairsK_tpl (L : List (Int × List Int)) : pairsK (L.map fun p => .tuple [.int p.1, tpl p.2]) = some (dI tpl L) := by
  induction L with
  | nil => rfl
  | cons p r ih => simp [pairsK, keyOf, dI] at ih ⊢; simp [ih]
theorem dOfR_tpl (A : Ev) (M : Store) : dOfR (.d (.list ((a33 A).map fun p => .tuple [.int p.1, tpl p.2]))) M = .ok ((dI tpl (a33 A)).map fun p => (p.1, Val.d p.2)) M := by
  have e1 := pairsK_tpl (a33 A)
  have e2 := mergeP_dI tpl (a33 A) []
  rw [putAll_self (by rw [a33_keys]; exact houses_nodup A)] at e2
  show (match pairsK ((a33 A).map fun p => .tuple [.int p.1, tpl p.2]) with
    | some ps => Res.ok ((mergeP [] ps).map fun p : Key × PyData => (p.1, Val.d p.2)) M
    | none => Res.stuck) = _
  rw [e1]
  show Res.ok ((mergeP (dI tpl []) (dI tpl (a33 A))).map fun p : Key × PyData => (p.1, Val.d p.2)) M = _
  rw [e2]
theorem ix0_cons (M : Store) (h : Int) (L : List Int) : ixV M (.d (.tuple ((h :: L).map PyData.int))) 0 = some (.d (.int h)) := by
  have : atI ((h :: L).map PyData.int) ((0 : Nat) : Int) = some (.int h) := atI_nat _ 0 (by simp)
  simp only [ixV]
  rw [show (0 : Int) = ((0 : Nat) : Int) from rfl, this]; rfl
theorem l_added_eq {A B : Ev} (a : Five A) (b : Five B) (M : Store) : m_l_added [.d (.tuple (accL A)), .d (.tuple (accL B))] M = .ok (.d (.tuple (accL (A ++ B)))) M := by
  have hl8 : ∀ L : Ev, (housesOf L).length ≤ 8 := fun L => List.length_filter_le ..
  have hA8 := hl8 A
  have hB8 := hl8 B
  have h88 := hl8 (A ++ B)
  refine Wp.eq ?_
  unfold m_l_added b_l_added
  rw [wp_fn]
  refine ⟨rfl, ?_⟩
  have hst : startR 8 [Val.d (.tuple (accL A)), .d (.tuple (accL B))] = [some (.sh (.d (.tuple (accL A)))), some (.sh (.d (.tuple (accL B)))), none, none, none, none, none, none] := rfl
  rw [hst]
  refine wp_seqC (fun ρ M' => ρ = [some (.sh (.d (.tuple (accL A)))), some (.sh (.d (.tuple (accL B)))), some (.od (dI tpl (a33 A))), none, none, none, none, none] ∧ M' = M) ?_ ?_
  · have e1 := dOfR_tpl A M
    have e2 := pureD_fun (dI tpl (a33 A))
    have e3 : ((a33 A).map fun p => PyData.tuple [.int p.1, tpl p.2]) = (housesOf A).map fun h => .tuple [.int h, tpl (tot h A)] := by unfold a33; rw [List.map_map]; rfl
    rw [e3] at e1
    have hit := items_tupV (fun h => PyData.tuple ((h :: tot h A).map PyData.int)) (housesOf A)
    have eA : (housesOf A).map (fun h => PyData.tuple ((h :: tot h A).map PyData.int)) = accL A := rfl
    rw [eA] at hit
    have e4 : pures ((housesOf A).map fun h => Val.d (.tuple [.int h, tpl (tot h A)])) = some ((housesOf A).map fun h => .tuple [.int h, tpl (tot h A)]) := pures_fun _ _
    generalize PyData.tuple (accL B) = BD at *
    have k1 : kindV M (.d (.tuple (accL A))) = some false := rfl
    generalize hAD : PyData.tuple (accL A) = AD at *
    rw [wp_asgD, wp_dOf]
    simp -dsimp
    refine wp_mapA (housesOf A) (fun h => .d (.tuple ((h :: tot h A).map PyData.int))) (fun h => .d (.tuple [.int h, tpl (tot h A)])) ?_
    simp -dsimp [k1]
    refine ⟨hit, by omega, fun h _ => ?_, ?_⟩
    · have hsl : fSl (some 1) none (.tuple ((h :: tot h A).map PyData.int)) = some (tpl (tot h A)) := by
        show some (PyData.tuple (cut ((h :: tot h A).map PyData.int) (some 1) none)) = _
        rw [cut_from _ (by decide)]; rfl
      have hix : ∀ M, ixV M (.d (.tuple ((h :: tot h A).map PyData.int))) 0 = some (.d (.int h)) := fun M => ix0_cons M h (tot h A)
      generalize tpl (tot h A) = TA at *
      generalize PyData.tuple ((h :: tot h A).map PyData.int) = RO at *
      simp -dsimp [hix, hsl]
    · generalize ((housesOf A).map fun h => Val.d (.tuple [.int h, tpl (tot h A)])) = V1 at *
      generalize ((housesOf A).map fun h => PyData.tuple [.int h, tpl (tot h A)]) = V2 at *
      generalize dI tpl (a33 A) = D at *
      simp -dsimp [e4, e1, e2]
  rintro _ M1 ⟨rfl, rfl⟩
  have kl : ∀ n, (addF B (a33 A) ((housesOf B).take n)).length ≤ 8 := fun n => by
    have n1 := addF_nodup A B ((housesOf B).take n)
    have : ((addF B (a33 A) ((housesOf B).take n)).map (·.1)).length ≤ 8 := nodup8 n1 fun h hh => by
      rw [mem_keys, addF_get A B h ((houses_nodup B).sublist (List.take_sublist ..)) fun h hh => (houses_mem.mp (List.mem_of_mem_take hh)).1, a33_get] at hh
      by_cases cB : h ∈ (housesOf B).take n
      · exact (houses_mem.mp (List.mem_of_mem_take cB)).1
      · by_cases cA : h ∈ housesOf A
        · exact (houses_mem.mp cA).1
        · simp [cB, cA] at hh
    simpa using this
  have hitB := items_tupV (fun h => PyData.tuple ((h :: tot h B).map PyData.int)) (housesOf B)
  have eB : (housesOf B).map (fun h => PyData.tuple ((h :: tot h B).map PyData.int)) = accL B := rfl
  rw [eB] at hitB
  have k1 : ∀ M, kindV M (.d (.tuple (accL B))) = some false := fun _ => rfl
  rw [wp_seq, wp_sFor]
  generalize hBD : PyData.tuple (accL B) = BD at *
  generalize hAD : PyData.tuple (accL A) = AD at *
  refine wp_acc 2 (fun i s M2 => s = some (.od (dI tpl (addF B (a33 A) ((housesOf B).take i)))) ∧ M2 = M1) ?_
  simp -dsimp [k1]
  refine ⟨_, hitB, ⟨_, rfl, rfl, rfl⟩, ?_, ?_⟩
  · rintro j x s M2 hx ⟨rfl, rfl⟩
    have hj : j < (housesOf B).length := by simpa using (List.getElem?_eq_some_iff.mp hx).1
    rw [List.getElem?_map, List.getElem?_eq_getElem hj] at hx
    simp only [Option.map_some, Option.some.injEq] at hx
    subst hx
    have e1 : (housesOf B).take (j + 1) = (housesOf B).take j ++ [(housesOf B)[j]] := by rw [List.take_succ, List.getElem?_eq_getElem hj]; rfl
    have hl := kl j
    rw [e1, addF_snoc]
    generalize addF B (a33 A) ((housesOf B).take j) = D0 at *
    generalize (housesOf B)[j] = h at *
    have hv := valP_dI tpl h D0
    have hpu := putP_dI tpl h (addL ((getI D0 h).getD zer5) (tot h B)) D0
    have hdl := dI_len tpl D0
    have hg : ((getI D0 h).map tpl).getD (.tuple [.int 0, .int 0, .int 0, .int 0, .int 0]) = tpl ((getI D0 h).getD zer5) := by cases getI D0 h <;> rfl
    have hlt : (dI tpl D0).length < 100000 := by omega
    have hsl : fSl (some 1) none (.tuple ((h :: tot h B).map PyData.int)) = some (tpl (tot h B)) := by
      show some (PyData.tuple (cut ((h :: tot h B).map PyData.int) (some 1) none)) = _
      rw [cut_from _ (by decide)]; rfl
    have hix : ∀ M, ixV M (.d (.tuple ((h :: tot h B).map PyData.int))) 0 = some (.d (.int h)) := fun M => ix0_cons M h (tot h B)
    have htb : (tot h B).length ≤ 5 := tot_lenA h B
    generalize (getI D0 h).getD zer5 = own at *
    generalize tot h B = nw at *
    generalize dI tpl D0 = D at *
    generalize PyData.tuple ((h :: nw).map PyData.int) = RO at *
    have hzi : (Src.zip false false (.d (tpl own)) (.d (tpl nw))).items = some ((own.zip nw).map fun p => Val.d (.tuple [.int p.1, .int p.2])) := items_zipV PyData.int PyData.int false false _ _ own nw (kst PyData.int [] own) (kst PyData.int [] nw)
    have e5 : pures ((own.zip nw).map fun q => Val.d (.int (q.1 + q.2))) = some ((addL own nw).map PyData.int) := by
      unfold addL; rw [List.map_map]; exact pures_fun _ _
    have e6 : ∀ M, itemsK M true (.d (.list ((addL own nw).map PyData.int))) = some ((own.zip nw).map fun q => Val.d (.int (q.1 + q.2))) := fun M => by
      rw [ksl]; unfold addL; rw [List.map_map]; rfl
    have e7 : PyData.tuple ((addL own nw).map PyData.int) = tpl (addL own nw) := rfl
    have kO : ∀ M, kindV M (.d (tpl own)) = some false := fun _ => rfl
    have kW : ∀ M, kindV M (.d (tpl nw)) = some false := fun _ => rfl
    have hol : own.length ≤ 5 ∨ True := .inr trivial
    generalize tpl (addL own nw) = TN at *
    unfold f1_l_added
    simp -dsimp [hix, hv, hg]
    refine wp_mapA (own.zip nw) (fun q => .d (.tuple [.int q.1, .int q.2])) (fun q => .d (.int (q.1 + q.2))) ?_
    generalize tpl own = TO at *
    generalize tpl nw = TW at *
    simp -dsimp [hsl, kO, kW]
    refine ⟨hzi, by rw [List.length_zip]; omega, fun q _ => by simp -dsimp, ?_⟩
    generalize ((own.zip nw).map fun q => Val.d (.int (q.1 + q.2))) = V1 at *
    generalize (addL own nw).map PyData.int = V2 at *
    simp -dsimp [e5, e6, e7, hix, dsetR, hpu, hlt]
  · rintro s M2 ⟨rfl, rfl⟩
    have e0 : (housesOf B).take ((housesOf B).map fun h => Val.d (.tuple ((h :: tot h B).map PyData.int))).length = housesOf B := List.take_of_length_le (by simp)
    rw [e0]
    have hik := intKeys_dI tpl (addF B (a33 A) (housesOf B))
    have hkl := kl (housesOf B).length
    rw [List.take_length] at hkl
    have hsk := addF_keys A B
    have hst : sortDR (dI tpl (addF B (a33 A) (housesOf B))) M2 = .ok ((housesOf (A ++ B)).map fun i => .d (.int i)) M2 := by
      unfold sortDR; rw [hik]; simp only; rw [if_pos (by rw [List.length_map]; omega), hsk]
    have hps : pures ((housesOf (A ++ B)).map fun i => Val.d (.int i)) = some ((housesOf (A ++ B)).map PyData.int) := pures_fun _ _
    have hval : ∀ h ∈ housesOf (A ++ B), valP (dI tpl (addF B (a33 A) (housesOf B))) (.inl h) = some (tpl (tot h (A ++ B))) := fun h hh => by
      rw [valP_dI, addF_val a b hh]; rfl
    have k3 : ∀ L, kindV M2 (.d (.list L)) = some true := fun _ => rfl
    unfold accL
    generalize dI tpl (addF B (a33 A) (housesOf B)) = D at *
    generalize A ++ B = L at *
    generalize housesOf L = HS at *
    simp -dsimp
    refine wp_mapA HS (fun h => .d (.int h)) (fun h => .d (.tuple ((h :: tot h L).map PyData.int))) ?_
    simp -dsimp [hst, hps, k3]
    refine ⟨items_listV PyData.int HS, by omega, fun h hh => ?_, ?_⟩
    · have h1 := hval h hh
      have hT := tot_lenA h L
      have hA : fAdd (.tuple [.int h]) (tpl (tot h L)) = some (.tuple ((h :: tot h L).map PyData.int)) := by
        unfold tpl
        simp only [fAdd]; rw [if_pos (by simp; omega)]; rfl
      generalize PyData.tuple ((h :: tot h L).map PyData.int) = TT at *
      generalize tpl (tot h L) = T at *
      simp -dsimp [dixR, h1, hA]
    · have h2 : pures (HS.map fun h => Val.d (.tuple ((h :: tot h L).map PyData.int))) = some (HS.map fun h => .tuple ((h :: tot h L).map PyData.int)) := pures_fun _ _
      generalize (HS.map fun h => Val.d (.tuple ((h :: tot h L).map PyData.int))) = V1 at *
      generalize (HS.map fun h => PyData.tuple ((h :: tot h L).map PyData.int)) = V2 at *
      simp -dsimp [h2]
/-! what is asked of accounts -/
def rowA (L : Ev) (h : Int) : PyData := .tuple ((h :: tot h L).map PyData.int)
theorem rowA_ix {L : Ev} (hL : Five L) (h : Int) (k : Nat) (hk : k < 5) (M : Store) : ixV M (.d (rowA L h)) ((k + 1 : Nat) : Int) = some (.d (.int (cs h k L))) := by
  unfold rowA
  rw [tot_cs h hL]
  match k, hk with
  | 0, _ => rfl
  | 1, _ => rfl
  | 2, _ => rfl
  | 3, _ => rfl
  | 4, _ => rfl
theorem rowA_sl {L : Ev} (hL : Five L) (h : Int) : fSl (some 2) none (rowA L h) = some (.tuple ([cs h 1 L, cs h 2 L, cs h 3 L, cs h 4 L].map PyData.int)) := by
  unfold rowA
  rw [tot_cs h hL]; rfl
theorem depthAll_of {k : Nat} : ∀ {xs : List PyData}, (∀ x ∈ xs, x.depth ≤ k) → PyData.depthAll xs ≤ k
  | [], _ => by simp [PyData.depthAll]
  | x :: r, h => by
    have h1 := h x (by simp)
    have h2 := depthAll_of (xs := r) fun y hy => h y (by simp [hy])
    simp only [PyData.depthAll]
    omega
theorem acc_plain (L : Ev) : (PyData.tuple (accL L)).plain = true ∧ (PyData.tuple (accL L)).depth ≤ 90 := by
  constructor
  · show PyData.plainAll _ = true
    refine plainAll_of fun x hx => ?_
    obtain ⟨h, _, rfl⟩ := List.mem_map.mp hx
    exact plain_ints _
  · have : PyData.depthAll (accL L) ≤ 1 := depthAll_of fun x hx => by
      obtain ⟨h, _, rfl⟩ := List.mem_map.mp hx
      simp only [PyData.depth, depth_ints]
      omega
    simp only [PyData.depth]
    omega
theorem fNe_acc (L : Ev) : fNe (.tuple (accL L)) (.tuple (accL L)) = some (.bool false) := fNe_self (acc_plain L).1 (acc_plain L).2
theorem acc_items (L : Ev) : (Src.one false (.d (.tuple (accL L)))).items = some ((housesOf L).map fun h => Val.d (rowA L h)) := items_tupV (rowA L) (housesOf L)
theorem houses_le (L : Ev) : (housesOf L).length ≤ 8 := List.length_filter_le ..
theorem col_pures (L : Ev) (k : Nat) : pures ((housesOf L).map fun h => Val.d (.int (cs h k L))) = some (((housesOf L).map fun h => cs h k L).map PyData.int) := by
  rw [List.map_map]; exact pures_fun (fun h => PyData.int (cs h k L)) _
theorem col_sum {L : Ev} (k : Nat) (hb : ∀ e ∈ L, 0 ≤ e.1 ∧ e.1 ≤ 7) : fSum [.list (((housesOf L).map fun h => cs h k L).map PyData.int)] = some (.int (colT k L)) := by rw [fSum_lints, cs_houses k hb]
/-! a sack's own rows -/
theorem nodup_filter : ∀ {L : Ev} {e : Int × List Int}, (L.map (·.1)).Nodup → e ∈ L → (L.filter fun q => decide (q.1 = e.1)) = [e]
  | [], _, _, h => by cases h
  | q :: r, e, n, h => by
    simp only [List.map_cons, List.nodup_cons] at n
    rcases List.mem_cons.mp h with rfl | h
    · have : (r.filter fun q => decide (q.1 = e.1)) = [] := List.filter_eq_nil_iff.mpr fun q hq z => n.1 (by
        have : q.1 = e.1 := by simpa using z
        rw [← this]; exact List.mem_map.mpr ⟨q, hq, rfl⟩)
      rw [List.filter_cons_of_pos (by simp), this]
    · have ne : q.1 ≠ e.1 := fun z => n.1 (by rw [z]; exact List.mem_map.mpr ⟨e, h, rfl⟩)
      rw [List.filter_cons_of_neg (by simpa using ne), nodup_filter n.2 h]
theorem evS_keys (r : Rule) (ps : List (Int × Int)) : (evS r ps).map (·.1) = ps.map Prod.fst := by
  apply List.ext_getElem
  · simp [evS]
  · intro i h1 h2
    have : i < ps.length := by simpa using h2
    simp [evS, evI, List.getD_eq_getElem?_getD, this]
theorem houses_evS {r : Rule} {ps : List (Int × Int)} (h : SOk ps) : housesOf (evS r ps) = ps.map Prod.fst := by
  have rise := h.rise
  have nd : (ps.map Prod.fst).Nodup := rise.imp fun h => Int.ne_of_lt h
  have e1 : ps.map Prod.fst = sortI (ps.map Prod.fst) := sortI_uniq (List.Perm.refl _) (rise.imp fun h => Int.le_of_lt h)
  have e2 : housesOf (evS r ps) = sortI (ps.map Prod.fst) := by
    refine sortI_uniq ?_ ?_
    · refine (List.perm_ext_iff_of_nodup (houses_nodup _) nd).mpr fun k => ?_
      rw [houses_mem, ← evS_keys r ps]
      constructor
      · rintro ⟨-, h2⟩
        obtain ⟨e, he, rfl⟩ := rowsFor_mem h2
        exact List.mem_map.mpr ⟨e, he, rfl⟩
      · intro hk
        obtain ⟨e, he, rfl⟩ := List.mem_map.mp hk
        have hb := evs_bd (r := r) (ss := [ps]) (fun q hq => by simp at hq; subst hq; exact h) e (by simpa [evs] using he)
        refine ⟨hb, fun z => ?_⟩
        have : e.2 ∈ rowsFor e.1 (evS r ps) := List.mem_map.mpr ⟨e, List.mem_filter.mpr ⟨he, by simp⟩, rfl⟩
        rw [z] at this; cases this
    · have : hs8.Pairwise (· ≤ ·) := by decide
      exact this.filter _
  rw [e2, ← e1]
theorem addL_zer (a b c d f : Int) : addL zer5 [a, b, c, d, f] = [a, b, c, d, f] := by simp [zer5, addL]
def rowE (r : Rule) (ps : List (Int × Int)) (i : Nat) : PyData := .tuple (((ps.getD i (0, 0)).1 :: newI r ps i).map PyData.int)
theorem accL_one {r : Rule} {ps : List (Int × Int)} (h : SOk ps) : accL (evs r [ps]) = (List.range ps.length).map (rowE r ps) := by
  have e0 : evs r [ps] = evS r ps := by simp [evs]
  have nd : ((evS r ps).map (·.1)).Nodup := by rw [evS_keys]; exact h.rise.imp fun h => Int.ne_of_lt h
  rw [e0]
  unfold accL
  rw [houses_evS h]
  apply List.ext_getElem
  · simp
  · intro i h1 h2
    have hi : i < ps.length := by simpa using h2
    have hm : evI r ps i ∈ evS r ps := List.mem_map.mpr ⟨i, by simpa using hi, rfl⟩
    have hg : ps.getD i (0, 0) = ps[i] := by simp [List.getD_eq_getElem?_getD, hi]
    have hf := nodup_filter nd hm
    have e1 : (evI r ps i).1 = ps[i].1 := by unfold evI; rw [hg]
    rw [e1] at hf
    have ht : tot ps[i].1 (evS r ps) = newI r ps i := by
      unfold tot rowsFor
      rw [hf]
      show addL zer5 (newI r ps i) = newI r ps i
      rw [evI_five, addL_zer]
    simp only [List.getElem_map, List.getElem_range]
    rw [ht]
    unfold rowE
    rw [hg]
theorem zipR_items33 (r : Rule) (ps : List (Int × Int)) : (Src.zip false false (.d (.tuple (rowsL r ps))) (.d (sackD ps))).items = some (((List.range ps.length).zip ps).map fun q => Val.d (.tuple [rowD r ps q.1, pr q.2])) :=
  items_zipV (rowD r ps) pr false false _ _ (List.range ps.length) ps (by simp [itemsK, rowsL, Function.comp_def]) (kss [] ps)
theorem zipR_eq (ps : List (Int × Int)) : ((List.range ps.length).zip ps) = (List.range ps.length).map fun i => (i, ps.getD i (0, 0)) := by
  apply List.ext_getElem
  · simp
  · intro i h1 h2
    have hi : i < ps.length := by simpa using h2
    simp [List.getElem_zip, List.getD_eq_getElem?_getD, hi]
theorem zipR_items' (r : Rule) (ps : List (Int × Int)) : (Src.zip false false (.d (.tuple (rowsL r ps))) (.d (sackD ps))).items = some ((List.range ps.length).map fun i => Val.d (.tuple [rowD r ps i, pr (ps.getD i (0, 0))])) := by
  rw [zipR_items33, zipR_eq, List.map_map]; rfl
theorem ssD_add {ss tt : List (List (Int × Int))} (h1 : ss.length ≤ 40) (h2 : tt.length ≤ 40) : fAdd (sacksD ss) (sacksD tt) = some (sacksD (ss ++ tt)) := by
  unfold sacksD
  simp only [fAdd]; rw [if_pos (by simp; omega), List.map_append]
theorem ssD_cut (q : List (Int × Int)) (t : List (List (Int × Int))) : fSl none (some 1) (sacksD (q :: t)) = some (sacksD [q]) := by
  show some (PyData.tuple (cut ((q :: t).map sackD) none (some 1))) = _
  rw [cut_to _ (by decide)]; rfl
theorem ssD_ix (M : Store) (q : List (Int × Int)) (t : List (List (Int × Int))) : ixV M (.d (sacksD (q :: t))) 0 = some (.d (sackD q)) := by
  have : atI ((q :: t).map sackD) ((0 : Nat) : Int) = some (sackD q) := atI_nat _ 0 (by simp)
  show (atI ((q :: t).map sackD) 0).map Val.d = _
  rw [show (0 : Int) = ((0 : Nat) : Int) from rfl, this]; rfl
theorem ssD_items (ss : List (List (Int × Int))) : (Src.one false (.d (sacksD ss))).items = some (ss.map fun s => Val.d (sackD s)) := items_tupV sackD ss
theorem account_one {r : Rule} {ss : List (List (Int × Int))} (hr : r.Ok) (hs : ∀ ps ∈ ss, SOk ps) (h40 : ss.length ≤ 40) (M : Store) : m_account [.d r.D, .d (sacksD ss)] M = .ok (.d (accD r ss)) M := (account_loop hr hs h40 M).eq
theorem Bal.app' {A B : Ev} (a : Bal A) (b : Bal B) : Bal (A ++ B) := fun e h => (List.mem_append.mp h).elim (a e) (b e)
/-- a sack beside the others' first -/
theorem mix33_w {r : Rule} (hr : r.Ok) {ps q : List (Int × Int)} {tt : List (List (Int × Int))} (hp : SOk ps) (hq : SOk q) (M : Store) (s0 : Option Slot) :
    Wp (fun f M' => (∃ a b, f = .nx [s0, none, none, some (.sh (.d r.D)), none, some (.sh (.d (sacksD (q :: tt)))), none, none, some (.sh (.d (sackD ps))), none, none, a, b, none, none, none]) ∧ M' = M)
      (f1_law [s0, none, none, some (.sh (.d r.D)), none, some (.sh (.d (sacksD (q :: tt)))), none, none, some (.sh (.d (sackD ps))), none, none, none, none, none, none, none] M) := by
  have hm := mixed_eq hp hq M
  have hb := mbm_eq hr hp hq M
  have ix := fun M => ssD_ix M q tt
  generalize sacksD (q :: tt) = TD at *
  cases hT : toss (ps ++ q) with
  | false =>
    rw [hT] at hm
    have hn : fNe (.str "! much") (.str "! much") = some (.bool false) := fNe_str_self _
    unfold f1_law
    simp -dsimp [ix, hm, saidR, hn]
  | true =>
    rw [hT] at hm hb
    have ok := toss_SOk hp hq hT
    have hsz := fRepr_of ((sack_sz ok (by decide))) (by decide) (by decide)
    have two : ∀ x ∈ [ps, q], SOk x := by simp [hp, hq]
    have one : ∀ x ∈ [joinL (ps ++ q)], SOk x := by simp [ok]
    have a1 := account_one hr two (by simp) M
    have a2 := account_one hr one (by simp) M
    have c1 : colT 1 (evs r [ps, q]) = dish r ps + dish r q := by rw [colT_evs]; simp [colT_dish hr hp, colT_dish hr hq]
    have c2 : colT 1 (evs r [joinL (ps ++ q)]) = dish r (joinL (ps ++ q)) := by rw [colT_evs]; simp [colT_dish hr ok]
    have hmo := more_01 hr hp hq
    have e3 : dish r (joinL (ps ++ q)) - (dish r ps + dish r q) = moreI r ps q := by unfold moreI; omega
    have hin : fNotIn (.int (moreI r ps q)) (.tuple [.int 0, .int 1]) = some (.bool false) := by
      have e := fNotIn_ints (moreI r ps q) [0, 1]
      have hmem : moreI r ps q ∈ [(0 : Int), 1] := by
        unfold moreI
        simp only [List.mem_cons, List.mem_nil_iff, or_false]; omega
      rw [decide_eq_true hmem] at e
      exact e
    have b1 := evs_bd (r := r) two
    have b2 := evs_bd (r := r) one
    have f1 := evs_five r [ps, q]
    have f2 := evs_five r [joinL (ps ++ q)]
    have g1 : sacksD [ps, q] = .tuple [sackD ps, sackD q] := rfl
    have g2 : sacksD [joinL (ps ++ q)] = .tuple [sackD (joinL (ps ++ q))] := rfl
    rw [g1] at a1
    rw [g2] at a2
    unfold accD at a1 a2
    generalize moreI r ps q = MI at *
    generalize sackD (joinL (ps ++ q)) = J at *
    generalize evs r [ps, q] = L1 at *
    generalize evs r [joinL (ps ++ q)] = L2 at *
    have i1 := acc_items L1
    have i2 := acc_items L2
    have k1 : ∀ M, kindV M (.d (.tuple (accL L1))) = some false := fun _ => rfl
    have k2 : ∀ M, kindV M (.d (.tuple (accL L2))) = some false := fun _ => rfl
    have s1 := col_sum 1 b1
    have s2 := col_sum 1 b2
    have p1 := col_pures L1 1
    have p2 := col_pures L2 1
    rw [c1] at s1
    rw [c2] at s2
    by_cases c : J.shown = "! much"
    · have hn : fNe (.str "! much") (.str "! much") = some (.bool false) := fNe_str_self _
      unfold f1_law
      simp -dsimp [ix, hm, saidR, hsz, c, hn]
    have hn : fNe (.str J.shown) (.str "! much") = some (.bool true) := by
      simp only [fNe, okEq, PyData.plain, PyData.depth, PyData.eqv] at *
      simp [c]
    unfold f1_law
    simp -dsimp [ix, hm, saidR, hsz, hn]
    refine wp_mapA (housesOf L1) (fun h => .d (rowA L1 h)) (fun h => .d (.int (cs h 1 L1))) ?_
    generalize PyData.tuple (accL L1) = AD1 at *
    generalize PyData.tuple (accL L2) = AD2 at *
    simp -dsimp [ix, a1, k1]
    refine ⟨i1, by have := houses_le L1; omega, fun h _ => ?_, ?_⟩
    · have : ∀ M, ixV M (.d (rowA L1 h)) 2 = some (.d (.int (cs h 1 L1))) := rowA_ix f1 h 1 (by decide)
      generalize rowA L1 h = RO at *
      simp -dsimp [this]
    generalize (housesOf L1).map (fun h => Val.d (.int (cs h 1 L1))) = V1 at *
    generalize ((housesOf L1).map fun h => cs h 1 L1).map PyData.int = V2 at *
    simp -dsimp [p1, s1]
    refine wp_mapA (housesOf L2) (fun h => .d (rowA L2 h)) (fun h => .d (.int (cs h 1 L2))) ?_
    simp -dsimp [ix, hm, a2, k2]
    refine ⟨i2, by have := houses_le L2; omega, fun h _ => ?_, ?_⟩
    · have : ∀ M, ixV M (.d (rowA L2 h)) 2 = some (.d (.int (cs h 1 L2))) := rowA_ix f2 h 1 (by decide)
      generalize rowA L2 h = RO at *
      simp -dsimp [this]
    generalize (housesOf L2).map (fun h => Val.d (.int (cs h 1 L2))) = V3 at *
    generalize ((housesOf L2).map fun h => cs h 1 L2).map PyData.int = V4 at *
    simp -dsimp [p2, s2, ix, hb, e3, hin]
theorem law_true : ∀ ns : List Int, ns.length ≤ 63 → (∀ z ∈ ns, PySem.Builtin.Int.intBits z ≤ 1048576) → ∃ M, m_law [.scr ns] [] = .ok (.d (.bool true)) M := by
  intro ns _ _
  refine law_loop (by decide) rfl fun i M => ?_
  unfold f2_law
  simp -dsimp [-wp_seq, -sSeq_eq]
  refine wp_seqC (fun ρ M' => ρ = [some (.sh (.scr ns)), some (.sh (.d (.int i))), some (.sh (.ref M.length)), none, none, none, none, none, none, none, none, none, none, none, none, none] ∧ BStep M.length M' M') ?_ ?_
  · simp -dsimp
    refine (box_w ns i M).mono ?_
    rintro _ M1 ⟨rfl, hb⟩
    simp -dsimp
    exact BStep.refl hb
  rintro _ M1 ⟨rfl, s1⟩
  refine wp_seqC (fun ρ M' => ∃ r : Rule, r.Ok ∧ ρ = [some (.sh (.scr ns)), some (.sh (.d (.int i))), some (.sh (.ref M.length)), some (.sh (.d r.D)), none, none, none, none, none, none, none, none, none, none, none, none] ∧ BStep M.length M1 M') ?_ ?_
  · simp -dsimp
    refine (rule_w s1.box).mono ?_
    rintro _ M2 ⟨r, rfl, hr, s2⟩
    simp -dsimp
    exact ⟨r, hr, rfl, s2⟩
  rintro _ M2 ⟨r, hr, rfl, s2⟩
  refine wp_seqC (fun ρ M' => ∃ ss, ss.length ≤ 8 ∧ (∀ ps ∈ ss, SOk ps) ∧ ρ = [some (.sh (.scr ns)), some (.sh (.d (.int i))), some (.sh (.ref M.length)), some (.sh (.d r.D)), some (.sh (.d (sacksD ss))), none, none, none, none, none, none, none, none, none, none, none] ∧ BStep M.length M1 M') ?_ ?_
  · simp -dsimp
    refine wp_draws (fun _ d => ∃ ps, d = sackD ps ∧ SOk ps) (fun M' => BStep M.length M1 M') ?_
    simp -dsimp
    refine (take_w s2.box).mono ?_
    rintro _ M3 ⟨d1, rfl, d10, d11, s3⟩
    have hin : inR d1 = true := by simp [inR]; omega
    simp -dsimp [hin]
    refine ⟨_, items_r _, by simp; omega, s2.trans s3, ?_, ?_⟩
    · rintro j x M5 hx t5
      simp -dsimp
      refine (sack_w t5.box (.inl (by decide)) (by omega)).mono ?_
      rintro _ M6 ⟨ps, rfl, hps, s6⟩
      simp -dsimp
      exact ⟨⟨ps, rfl, hps.mono (by decide)⟩, t5.trans s6⟩
    intro ds M5 hdl hd s5
    have hdl : ds.length = d1.toNat := by simpa using hdl
    obtain ⟨ss, rfl, hss⟩ := draws_sacks hd
    simp -dsimp
    exact ⟨ss, by simp at hdl; omega, hss, rfl, s5⟩
  rintro _ M3 ⟨ss, lss, hss, rfl, s3⟩
  refine wp_seqC (fun ρ M' => ∃ tt, 1 ≤ tt.length ∧ tt.length ≤ 8 ∧ (∀ ps ∈ tt, SOk ps) ∧ ρ = [some (.sh (.scr ns)), some (.sh (.d (.int i))), some (.sh (.ref M.length)), some (.sh (.d r.D)), some (.sh (.d (sacksD ss))), some (.sh (.d (sacksD tt))), none, none, none, none, none, none, none, none, none, none] ∧ BStep M.length M1 M') ?_ ?_
  · generalize sacksD ss = SD at *
    simp -dsimp
    refine wp_draws (fun _ d => ∃ ps, d = sackD ps ∧ SOk ps) (fun M' => BStep M.length M1 M') ?_
    simp -dsimp
    refine (take_w s3.box).mono ?_
    rintro _ M4 ⟨d1, rfl, d10, d11, s4⟩
    have hin : inR (1 + d1) = true := by simp [inR]; omega
    simp -dsimp [hin]
    refine ⟨_, items_r _, by simp; omega, s3.trans s4, ?_, ?_⟩
    · rintro j x M5 hx t5
      simp -dsimp
      refine (sack_w t5.box (.inl (by decide)) (by omega)).mono ?_
      rintro _ M6 ⟨ps, rfl, hps, s6⟩
      simp -dsimp
      exact ⟨⟨ps, rfl, hps.mono (by decide)⟩, t5.trans s6⟩
    intro ds M5 hdl hd s5
    have hdl : ds.length = (1 + d1).toNat := by simpa using hdl
    obtain ⟨tt, rfl, htt⟩ := draws_sacks hd
    simp -dsimp
    exact ⟨tt, by simp at hdl; omega, by simp at hdl; omega, htt, rfl, s5⟩
  rintro _ M4 ⟨tt, ltt1, ltt, htt, rfl, s4⟩
  have hst : ∀ ps ∈ ss ++ tt, SOk ps := fun ps h => (List.mem_append.mp h).elim (hss ps) (htt ps)
  have hts : ∀ ps ∈ tt ++ ss, SOk ps := fun ps h => (List.mem_append.mp h).elim (htt ps) (hss ps)
  have a1 := account_one hr hss (by omega)
  have a2 := account_one hr htt (by omega)
  have a3 := account_one hr hst (by simp; omega)
  have a4 := account_one hr hts (by simp; omega)
  have ad1 := ssD_add (ss := ss) (tt := tt) (by omega) (by omega)
  have ad2 := ssD_add (ss := tt) (tt := ss) (by omega) (by omega)
  have five1 := evs_five r ss
  have five2 := evs_five r tt
  have eL : evs r (ss ++ tt) = evs r ss ++ evs r tt := evs_app ..
  have eC : accD r (tt ++ ss) = accD r (ss ++ tt) := by
    unfold accD; rw [evs_app, evs_app, accL_comm five2 five1]
  have la : ∀ M, m_l_added [.d (accD r ss), .d (accD r tt)] M = .ok (.d (accD r (ss ++ tt))) M := fun M => by
    have := l_added_eq five1 five2 M
    unfold accD; rw [eL]; exact this
  have hne : fNe (accD r (ss ++ tt)) (accD r (ss ++ tt)) = some (.bool false) := fNe_acc _
  rw [eC] at a4
  obtain ⟨q, t, rfl⟩ : ∃ q t, tt = q :: t := by
    cases tt with
    | nil => simp at ltt1
    | cons q t => exact ⟨q, t, rfl⟩
  have hq : SOk q := htt q (by simp)
  have hix := fun M => ssD_ix M q t
  have hct := ssD_cut q t
  refine wp_seqC (fun ρ M' => ρ = [some (.sh (.scr ns)), some (.sh (.d (.int i))), some (.sh (.ref M.length)), some (.sh (.d r.D)), some (.sh (.d (sacksD ss))), some (.sh (.d (sacksD (q :: t)))), none, none, none, some (.sh (.d (accD r ss))), some (.sh (.d (accD r (q :: t)))), none, none, none, none, none] ∧ M' = M4) ?_ ?_
  · generalize sacksD ss = SD at *
    generalize sacksD (q :: t) = TD at *
    generalize accD r ss = A1 at *
    generalize accD r (q :: t) = A2 at *
    simp -dsimp [a1, a2]
  rintro _ M4 ⟨rfl, rfl⟩
  refine wp_seqC (fun ρ M' => ρ = [some (.sh (.scr ns)), some (.sh (.d (.int i))), some (.sh (.ref M.length)), some (.sh (.d r.D)), some (.sh (.d (sacksD ss))), some (.sh (.d (sacksD (q :: t)))), some (.sh (.d (accD r (ss ++ q :: t)))), none, none, some (.sh (.d (accD r ss))), some (.sh (.d (accD r (q :: t)))), none, none, none, none, none] ∧ M' = M4) ?_ ?_
  · generalize sacksD (ss ++ q :: t) = BD at *
    generalize accD r (ss ++ q :: t) = A3 at *
    generalize sacksD ss = SD at *
    generalize sacksD (q :: t) = TD at *
    generalize accD r ss = A1 at *
    generalize accD r (q :: t) = A2 at *
    simp -dsimp [ad1, a3]
  rintro _ M4 ⟨rfl, rfl⟩
  refine wp_seqC (fun ρ M' => ρ = [some (.sh (.scr ns)), some (.sh (.d (.int i))), some (.sh (.ref M.length)), some (.sh (.d r.D)), some (.sh (.d (sacksD ss))), some (.sh (.d (sacksD (q :: t)))), some (.sh (.d (accD r (ss ++ q :: t)))), none, none, some (.sh (.d (accD r ss))), some (.sh (.d (accD r (q :: t)))), none, none, none, none, none] ∧ M' = M4) ?_ ?_
  · generalize sacksD (ss ++ q :: t) = BD at *
    generalize sacksD (q :: t ++ ss) = CD at *
    generalize accD r (ss ++ q :: t) = A3 at *
    generalize sacksD ss = SD at *
    generalize sacksD (q :: t) = TD at *
    generalize accD r ss = A1 at *
    generalize accD r (q :: t) = A2 at *
    simp -dsimp [ad2, a4, la, hne]
  rintro _ M4 ⟨rfl, rfl⟩
  have fL := five1.app five2
  have bL := (evs_bal hr hss).app' (evs_bal hr htt)
  have eA : accD r (ss ++ q :: t) = .tuple (accL (evs r ss ++ evs r (q :: t))) := by unfold accD; rw [eL]
  have bd := evs_bd (r := r) hst
  rw [eL] at bd
  have hcol : colT 0 (evs r ss ++ evs r (q :: t)) = ((ss ++ q :: t).map grain).sum := by
    rw [← eL, colT_evs]
    congr 1
    exact List.map_congr_left fun ps _ => colT_grain r ps
  have cs0 := col_sum 0 bd
  rw [hcol] at cs0
  rw [eA]
  have aI := acc_items (evs r ss ++ evs r (q :: t))
  have kA : ∀ M, kindV M (.d (.tuple (accL (evs r ss ++ evs r (q :: t))))) = some false := fun _ => rfl
  have hcp := col_pures (evs r ss ++ evs r (q :: t)) 0
  have h8 := houses_le (evs r ss ++ evs r (q :: t))
  generalize evs r ss ++ evs r (q :: t) = L at *
  have hrow : ∀ h, ∀ M, ixV M (.d (rowA L h)) 1 = some (.d (.int (cs h 0 L))) := fun h => rowA_ix fL h 0 (by decide)
  have hrs : ∀ h, fSl (some 2) none (rowA L h) = some (.tuple ([cs h 1 L, cs h 2 L, cs h 3 L, cs h 4 L].map PyData.int)) := fun h => rowA_sl fL h
  have hrsum : ∀ h, fSum [.tuple ([cs h 1 L, cs h 2 L, cs h 3 L, cs h 4 L].map PyData.int)] = some (.int (cs h 0 L)) := fun h => by
    rw [fSum_tints, cs_bal h bL]; simp [Int.add_assoc]
  refine wp_seqC (fun ρ M' => ρ = [some (.sh (.scr ns)), some (.sh (.d (.int i))), some (.sh (.ref M.length)), some (.sh (.d r.D)), some (.sh (.d (sacksD ss))), some (.sh (.d (sacksD (q :: t)))), some (.sh (.d (.tuple (accL L)))), none, none, some (.sh (.d (accD r ss))), some (.sh (.d (accD r (q :: t)))), none, none, none, none, none] ∧ M' = M4) ?_ ?_
  · generalize PyData.tuple (accL L) = A3 at *
    generalize sacksD ss = SD at *
    generalize sacksD (q :: t) = TD at *
    generalize accD r ss = A1 at *
    generalize accD r (q :: t) = A2 at *
    have hnil : fNeL (.list []) (.list []) = some (.bool false) := by simp [fNeL, fNe, okEq, PyData.plain, PyData.plainAll, PyData.depth, PyData.depthAll, PyData.eqv, PyData.eqvAll]
    simp -dsimp
    refine wp_filtA (housesOf L) (fun h => .d (rowA L h)) (fun _ => false) (fun h => .d (rowA L h)) ?_
    simp -dsimp [kA]
    refine ⟨aI, by omega, fun h _ => ?_, ?_⟩
    · have h1 := hrow h
      have h2 := hrs h
      have h3 := hrsum h
      generalize rowA L h = RO at *
      generalize PyData.tuple ([cs h 1 L, cs h 2 L, cs h 3 L, cs h 4 L].map PyData.int) = RS at *
      simp -dsimp [h1, h2, h3]
    · have hff : ((housesOf L).filter fun _ => false) = [] := List.filter_eq_nil_iff.mpr (by simp)
      rw [hff]
      simp -dsimp [hnil]
  rintro _ M4 ⟨rfl, rfl⟩
  refine wp_seqC (fun ρ M' => ρ = [some (.sh (.scr ns)), some (.sh (.d (.int i))), some (.sh (.ref M.length)), some (.sh (.d r.D)), some (.sh (.d (sacksD ss))), some (.sh (.d (sacksD (q :: t)))), some (.sh (.d (.tuple (accL L)))), none, none, some (.sh (.d (accD r ss))), some (.sh (.d (accD r (q :: t)))), none, none, none, none, none] ∧ M' = M4) ?_ ?_
  · have bI := ssD_items (ss ++ q :: t)
    have kB : ∀ M, kindV M (.d (sacksD (ss ++ q :: t))) = some false := fun _ => rfl
    have lB : (ss ++ q :: t).length ≤ 16 := by simp at ltt ⊢; omega
    have pB : pures ((ss ++ q :: t).map fun s => Val.d (.int (grain s))) = some (((ss ++ q :: t).map grain).map PyData.int) := by rw [List.map_map]; exact pures_fun _ _
    have sB : fSum [.list (((ss ++ q :: t).map grain).map PyData.int)] = some (.int ((ss ++ q :: t).map grain).sum) := fSum_lints _
    generalize PyData.tuple (accL L) = A3 at *
    generalize sacksD (ss ++ q :: t) = BD at *
    generalize sacksD ss = SD at *
    generalize sacksD (q :: t) = TD at *
    generalize accD r ss = A1 at *
    generalize accD r (q :: t) = A2 at *
    generalize ss ++ q :: t = BB at *
    simp -dsimp
    refine wp_mapA (housesOf L) (fun h => .d (rowA L h)) (fun h => .d (.int (cs h 0 L))) ?_
    simp -dsimp [kA]
    refine ⟨aI, by omega, fun h _ => ?_, ?_⟩
    · have h1 := hrow h
      generalize rowA L h = RO at *
      simp -dsimp [h1]
    generalize (housesOf L).map (fun h => Val.d (.int (cs h 0 L))) = V1 at *
    generalize ((housesOf L).map fun h => cs h 0 L).map PyData.int = V2 at *
    simp -dsimp [hcp, cs0]
    refine wp_mapA BB (fun s => .d (sackD s)) (fun s => .d (.int (grain s))) ?_
    simp -dsimp [ad1, kB]
    refine ⟨bI, by omega, fun s hs => by simp -dsimp [grain_ofS (hst s hs)], ?_⟩
    generalize (BB.map fun s => Val.d (.int (grain s))) = V3 at *
    generalize (BB.map grain).map PyData.int = V4 at *
    simp -dsimp [pB, sB]
  rintro _ M4 ⟨rfl, rfl⟩
  have ho := accL_one (r := r) hq
  have a5 := account_one hr (ss := [q]) (by simpa using hq) (by simp)
  have hbh := fun M => by_houseE hr hq M
  have hzi := zipR_items' r q
  have kR : ∀ M, kindV M (.d (.tuple (rowsL r q))) = some false := fun _ => rfl
  have kq : ∀ M, kindV M (.d (sackD q)) = some false := fun _ => rfl
  have hp5 : pures ((List.range q.length).map fun j => Val.d (rowE r q j)) = some ((List.range q.length).map (rowE r q)) := pures_fun _ _
  have hq4 := hq.hi
  have hpl := acc_plain (evs r [q])
  have hne5 := fNe_acc (evs r [q])
  refine wp_seqC (fun ρ M' => ρ = [some (.sh (.scr ns)), some (.sh (.d (.int i))), some (.sh (.ref M.length)), some (.sh (.d r.D)), some (.sh (.d (sacksD ss))), some (.sh (.d (sacksD (q :: t)))), some (.sh (.d (.tuple (accL L)))), some (.sh (.d (.list ((List.range q.length).map (rowE r q))))), none, some (.sh (.d (accD r ss))), some (.sh (.d (accD r (q :: t)))), none, none, none, none, none] ∧ M' = M4) ?_ ?_
  · generalize PyData.tuple (accL L) = A3 at *
    generalize sacksD ss = SD at *
    generalize sacksD (q :: t) = TD at *
    generalize accD r ss = A1 at *
    generalize accD r (q :: t) = A2 at *
    simp -dsimp
    refine wp_mapA (List.range q.length) (fun j => .d (.tuple [rowD r q j, pr (q.getD j (0, 0))])) (fun j => .d (rowE r q j)) ?_
    generalize PyData.tuple (rowsL r q) = RD at *
    simp -dsimp [hbh, hix, kR, kq]
    refine ⟨hzi, by simp; omega, fun j hj => ?_, ?_⟩
    · have hj : j < q.length := by simpa using hj
      have hx0 : ∀ M, ixV M (.d (rowD r q j)) 0 = some (.d (.int (q.getD j (0, 0)).1)) := fun _ => rfl
      have hx1 : ∀ M, ixV M (.d (pr (q.getD j (0, 0)))) 1 = some (.d (.int (q.getD j (0, 0)).2)) := fun _ => rfl
      have hsl : fSl (some 1) none (rowD r q j) = some (.tuple (((rowI r q j).drop 1).map PyData.int)) := by
        show some (PyData.tuple (cut ((rowI r q j).map PyData.int) (some 1) none)) = _
        rw [cut_from _ (by decide), List.map_drop]; rfl
      have hA : fAdd (.tuple [.int (q.getD j (0, 0)).1, .int (q.getD j (0, 0)).2]) (.tuple (((rowI r q j).drop 1).map PyData.int)) = some (rowE r q j) := rfl
      generalize rowE r q j = RE at *
      generalize PyData.tuple (((rowI r q j).drop 1).map PyData.int) = T at *
      generalize rowD r q j = RO at *
      generalize pr (q.getD j (0, 0)) = PO at *
      generalize (q.getD j (0, 0)).1 = n1 at *
      generalize (q.getD j (0, 0)).2 = n2 at *
      simp -dsimp [hx0, hx1, hsl, hA]
    generalize ((List.range q.length).map fun j => Val.d (rowE r q j)) = V1 at *
    generalize (List.range q.length).map (rowE r q) = V2 at *
    simp -dsimp [hp5]
  rintro _ M4 ⟨rfl, rfl⟩
  rw [← ho]
  have k7 : ∀ M, itemsK M true (.d (.list (accL (evs r [q])))) = some ((accL (evs r [q])).map Val.d) := fun _ => rfl
  have p7 : pures ((accL (evs r [q])).map Val.d) = some (accL (evs r [q])) := pures_map _
  unfold accD at a5
  refine wp_seqC (fun ρ M' => ∃ s7, ρ = [some (.sh (.scr ns)), some (.sh (.d (.int i))), some (.sh (.ref M.length)), some (.sh (.d r.D)), some (.sh (.d (sacksD ss))), some (.sh (.d (sacksD (q :: t)))), some (.sh (.d (.tuple (accL L)))), s7, none, some (.sh (.d (accD r ss))), some (.sh (.d (accD r (q :: t)))), none, none, none, none, none] ∧ M' = M4) ?_ ?_
  · generalize PyData.tuple (accL L) = A3 at *
    generalize sacksD ss = SD at *
    generalize sacksD (q :: t) = TD at *
    generalize accD r ss = A1 at *
    generalize accD r (q :: t) = A2 at *
    generalize accL (evs r [q]) = A5 at *
    simp -dsimp [hct, a5, k7, p7, hne5]
  rintro _ M4 ⟨s7, rfl, rfl⟩
  have bI := ssD_items ss
  have kS : ∀ M, kindV M (.d (sacksD ss)) = some false := fun _ => rfl
  have hm := fun ps hps M => mix33_w (q := q) (tt := t) hr (hss ps hps) hq M (some (.sh (.scr ns)))
  generalize sacksD ss = SD at *
  generalize sacksD (q :: t) = TD at *
  rw [wp_sFor]
  refine wp_fix (fun _ M' => M' = M4) ?_
  simp -dsimp [kS]
  refine ⟨_, bI, rfl, ?_, ?_⟩
  · rintro j x M5 hx rfl
    obtain ⟨ps, hps, rfl⟩ := List.mem_map.mp (List.mem_of_getElem? hx)
    simp -dsimp
    refine (hm ps hps M5).mono ?_
    rintro f _ ⟨⟨a, b, rfl⟩, rfl⟩
    simp
  · rintro M5 rfl
    simp
end Z

namespace Z
open PySem PySem.Spec PyProof.Rows L2

def top (i : Nat) : Stmt := PySem.Challenge.pw_grindturns_k33_whole_accounts_add_up.main.body.getD i (.Pass ⟨0, 0, 0, 0⟩)
abbrev st_l_said : Stmt := top 46
abbrev N_l_said : List Str := ["_law_call", "_law_e"]
abbrev ps_l_said : List Str := ["_law_call"]
abbrev st_l_word : Stmt := top 45
abbrev N_l_word : List Str := ["_law_e", "_law_kinds", "_law_words"]
abbrev ps_l_word : List Str := ["_law_e"]
abbrev st_is_whole : Stmt := top 20
abbrev N_is_whole : List Str := ["thing"]
abbrev ps_is_whole : List Str := ["thing"]
abbrev st_is_from_to : Stmt := top 21
abbrev N_is_from_to : List Str := ["thing", "least", "most"]
abbrev ps_is_from_to : List Str := ["thing", "least", "most"]
abbrev st_are_houses : Stmt := top 22
abbrev N_are_houses : List Str := ["thing", "house", "other"]
abbrev ps_are_houses : List Str := ["thing"]
abbrev st_is_sack : Stmt := top 24
abbrev N_is_sack : List Str := ["thing", "one"]
abbrev ps_is_sack : List Str := ["thing"]
abbrev st_mixed_in : Stmt := top 29
abbrev N_mixed_in : List Str := ["one", "other", "found", "house", "ounces"]
abbrev ps_mixed_in : List Str := ["one", "other"]
abbrev st_need_sack : Stmt := top 26
abbrev N_need_sack : List Str := ["thing"]
abbrev ps_need_sack : List Str := ["thing"]
abbrev st_mixed : Stmt := top 30
abbrev N_mixed : List Str := ["one", "other", "found"]
abbrev ps_mixed : List Str := ["one", "other"]
abbrev st_giving : Stmt := top 31
abbrev N_giving : List Str := ["rule", "sack", "house", "ounces"]
abbrev ps_giving : List Str := ["rule", "sack"]
abbrev st_dish_in : Stmt := top 32
abbrev N_dish_in : List Str := ["rule", "sack"]
abbrev ps_dish_in : List Str := ["rule", "sack"]
abbrev st_is_rule : Stmt := top 23
abbrev N_is_rule : List Str := ["thing"]
abbrev ps_is_rule : List Str := ["thing"]
abbrev st_need_rule : Stmt := top 25
abbrev N_need_rule : List Str := ["thing"]
abbrev ps_need_rule : List Str := ["thing"]
abbrev st_more_by_mixing : Stmt := top 41
abbrev N_more_by_mixing : List Str := ["rule", "one", "other", "both"]
abbrev ps_more_by_mixing : List Str := ["rule", "one", "other"]
abbrev st_shared_in : Stmt := top 35
abbrev N_shared_in : List Str := ["amount", "weights", "total", "found", "order", "rest", "at", "weight"]
abbrev ps_shared_in : List Str := ["amount", "weights"]
abbrev st_grain_in : Stmt := top 27
abbrev N_grain_in : List Str := ["sack", "house", "ounces"]
abbrev ps_grain_in : List Str := ["sack"]
abbrev st_parts_in : Stmt := top 33
abbrev N_parts_in : List Str := ["rule", "sack", "dish", "left", "bran", "dust"]
abbrev ps_parts_in : List Str := ["rule", "sack"]
abbrev st_rows_in : Stmt := top 36
abbrev N_rows_in : List Str := ["rule", "sack", "dishes", "left", "brans", "rest", "dusts", "rows", "dish", "bran", "dust", "flour", "at", "house", "ounces", "own", "one"]
abbrev ps_rows_in : List Str := ["rule", "sack"]
abbrev st_account : Stmt := top 40
abbrev N_account : List Str := ["rule", "sacks", "found", "sack", "row", "own", "house", "ounces", "one", "more"]
abbrev ps_account : List Str := ["rule", "sacks"]
abbrev st_by_house : Stmt := top 37
abbrev N_by_house : List Str := ["rule", "sack"]
abbrev ps_by_house : List Str := ["rule", "sack"]
abbrev st_grain_of : Stmt := top 28
abbrev N_grain_of : List Str := ["sack"]
abbrev ps_grain_of : List Str := ["sack"]
abbrev st_l_added : Stmt := top 51
abbrev N_l_added : List Str := ["_law_one", "_law_other", "_law_rows", "_law_row", "_law_own", "_law_house", "_law_mine", "_law_more"]
abbrev ps_l_added : List Str := ["_law_one", "_law_other"]
abbrev st_l_take : Stmt := top 44
abbrev N_l_take : List Str := ["_law_box_here", "_law_many", "_law_high", "_law_digit"]
abbrev ps_l_take : List Str := ["_law_box_here", "_law_many"]
abbrev st_l_ounces : Stmt := top 49
abbrev N_l_ounces : List Str := ["_law_box_here", "_law_most"]
abbrev ps_l_ounces : List Str := ["_law_box_here", "_law_most"]
abbrev st_l_sack : Stmt := top 50
abbrev N_l_sack : List Str := ["_law_box_here", "_law_most", "_law_pool", "_law_some", "_law_turn", "_law_house"]
abbrev ps_l_sack : List Str := ["_law_box_here", "_law_most"]
abbrev st_l_some_houses : Stmt := top 47
abbrev N_l_some_houses : List Str := ["_law_box_here", "_law_share", "_law_house"]
abbrev ps_l_some_houses : List Str := ["_law_box_here", "_law_share"]
abbrev st_l_rule : Stmt := top 48
abbrev N_l_rule : List Str := ["_law_box_here", "_law_per", "_law_bran", "_law_dust"]
abbrev ps_l_rule : List Str := ["_law_box_here"]
abbrev st_l_box : Stmt := top 43
abbrev N_l_box : List Str := ["_law_script", "_law_k", "_law_cell"]
abbrev ps_l_box : List Str := ["_law_script", "_law_k"]
abbrev st_law : Stmt := top 52
abbrev N_law : List Str := ["_law_script", "_law_k", "_law_box_here", "_law_rule_here", "_law_one", "_law_other", "_law_both", "_law_rows", "_law_sack_here", "_law_first", "_law_second", "_law_apart", "_law_together", "_law_turn", "_law_row", "_law_ounces_here"]
abbrev ps_law : List Str := ["_law_script"]
structure Txt (K : PySem.W.Frag) (mg : Str → Option Value) : Prop where
  b_ValueError : mg "ValueError" = none
  b_abs : mg "abs" = none
  b_all : mg "all" = none
  b_bool : mg "bool" = none
  b_dict : mg "dict" = none
  b_divmod : mg "divmod" = none
  b_enumerate : mg "enumerate" = none
  b_int : mg "int" = none
  b_isinstance : mg "isinstance" = none
  b_len : mg "len" = none
  b_list : mg "list" = none
  b_max : mg "max" = none
  b_min : mg "min" = none
  b_range : mg "range" = none
  b_repr : mg "repr" = none
  b_sorted : mg "sorted" = none
  b_sum : mg "sum" = none
  b_tuple : mg "tuple" = none
  b_zip : mg "zip" = none
  c_MOST_HOUSES : ∃ u, mg "MOST_HOUSES" = some u ∧ RelV (.int 4) u
  c_MOST_OUNCES : ∃ u, mg "MOST_OUNCES" = some u ∧ RelV (.int 999) u
  c_MOST_SACKS : ∃ u, mg "MOST_SACKS" = some u ∧ RelV (.int 40) u
  x_NoRule : XZ K mg "NoRule"
  x_NoSack : XZ K mg "NoSack"
  x_TooMuch : XZ K mg "TooMuch"
  d_l_said : DefK K mg "_law_said" st_l_said ps_l_said
  d_l_word : DefK K mg "_law_word" st_l_word ps_l_word
  d_is_whole : DefK K mg "is_whole" st_is_whole ps_is_whole
  d_is_from_to : DefK K mg "is_from_to" st_is_from_to ps_is_from_to
  d_are_houses : DefK K mg "are_houses" st_are_houses ps_are_houses
  d_is_sack : DefK K mg "is_sack" st_is_sack ps_is_sack
  d_mixed_in : DefK K mg "mixed_in" st_mixed_in ps_mixed_in
  d_need_sack : DefK K mg "need_sack" st_need_sack ps_need_sack
  d_mixed : DefK K mg "mixed" st_mixed ps_mixed
  d_giving : DefK K mg "giving" st_giving ps_giving
  d_dish_in : DefK K mg "dish_in" st_dish_in ps_dish_in
  d_is_rule : DefK K mg "is_rule" st_is_rule ps_is_rule
  d_need_rule : DefK K mg "need_rule" st_need_rule ps_need_rule
  d_more_by_mixing : DefK K mg "more_by_mixing" st_more_by_mixing ps_more_by_mixing
  d_shared_in : DefK K mg "shared_in" st_shared_in ps_shared_in
  d_grain_in : DefK K mg "grain_in" st_grain_in ps_grain_in
  d_parts_in : DefK K mg "parts_in" st_parts_in ps_parts_in
  d_rows_in : DefK K mg "rows_in" st_rows_in ps_rows_in
  d_account : DefK K mg "account" st_account ps_account
  d_by_house : DefK K mg "by_house" st_by_house ps_by_house
  d_grain_of : DefK K mg "grain_of" st_grain_of ps_grain_of
  d_l_added : DefK K mg "_law_added" st_l_added ps_l_added
  d_l_take : DefK K mg "_law_take" st_l_take ps_l_take
  d_l_ounces : DefK K mg "_law_ounces" st_l_ounces ps_l_ounces
  d_l_sack : DefK K mg "_law_sack" st_l_sack ps_l_sack
  d_l_some_houses : DefK K mg "_law_some_houses" st_l_some_houses ps_l_some_houses
  d_l_rule : DefK K mg "_law_rule" st_l_rule ps_l_rule
  d_l_box : DefK K mg "_law_box" st_l_box ps_l_box
  d_law : DefK K mg "law" st_law ps_law
  said : SaidK K mg
  err : ErrK K mg
section
variable {P : Program} {w : World} {K : PySem.W.Frag} {mg : Str → Option Value} {base : Heap} {Tt : List (Addr × Str)}
theorem sc_l_said : FnScope N_l_said ps_l_said (defScope st_l_said) := ⟨rfl, rfl, rfl, by decide +kernel, rfl, by decide +kernel, by decide +kernel⟩
theorem sc_l_word : FnScope N_l_word ps_l_word (defScope st_l_word) := ⟨rfl, rfl, rfl, by decide +kernel, rfl, by decide +kernel, by decide +kernel⟩
theorem z_l_word (T : Txt K mg) (B : Mods base) : WordZ P w K mg base 1 := by
  obtain ⟨f, fd, h1, F, hb⟩ := T.d_l_word.ex
  refine ⟨f, fd, h1, F.kp, hb, wz_of (k := 0) F sc_l_word fun cd A out s H p D c wd Q hot hr hz hm hw hQ => ?_⟩
  obtain ⟨i, w1, hi, hwi, rfl⟩ := word_at hw
  obtain ⟨A1, hA, xc, xv, xo⟩ := T.err.at_ i c hi
  rw [hm] at hA; cases hA
  have hu : (A.deeper (envOfC "_law_word" (defScope st_l_word) s.heap.objs.size f cd)).units + 180 < cLine := by have := hr.un; omega
  obtain ⟨a0, m0, _, k0⟩ := xo 0 "NoRule" rfl
  obtain ⟨a1, m1, _, k1⟩ := xo 1 "NoSack" rfl
  obtain ⟨a2, m2, _, k2⟩ := xo 2 "NoRights" rfl
  obtain ⟨a3, m3, _, k3⟩ := xo 3 "NoSpeeds" rfl
  obtain ⟨a4, m4, _, k4⟩ := xo 4 "NoWater" rfl
  obtain ⟨a5, m5, _, k5⟩ := xo 5 "NoMoment" rfl
  obtain ⟨a6, m6, _, k6⟩ := xo 6 "NoBook" rfl
  obtain ⟨a7, m7, _, k7⟩ := xo 7 "NoNumber" rfl
  obtain ⟨a8, m8, _, k8⟩ := xo 8 "NoWeights" rfl
  obtain ⟨a9, m9, _, k9⟩ := xo 9 "NoHouses" rfl
  obtain ⟨a10, m10, _, k10⟩ := xo 10 "NoDeed" rfl
  obtain ⟨a11, m11, _, k11⟩ := xo 11 "NoText" rfl
  obtain ⟨a12, m12, _, k12⟩ := xo 12 "NoWord" rfl
  obtain ⟨a13, m13, _, k13⟩ := xo 13 "TooMuch" rfl
  obtain ⟨a14, m14, _, k14⟩ := xo 14 "TooMany" rfl
  have hf : ∃ vs, p.2.data = .fields vs := let ⟨vs, e, _⟩ := hot.2; ⟨vs, e⟩
  exact ⟨_, (pss_cons (ps_set (i := 1) sc_l_word.nd rfl (by first | exact Or.inl rfl | exact Or.inr rfl) (pe_lst (pa_cons (pe_isP xc hz hf (List.mem_singleton.mpr rfl) (by rfl) T.b_isinstance (pv 0) (by rfl) m0 k0) (pa_cons (pe_isP xc hz hf (List.mem_singleton.mpr rfl) (by rfl) T.b_isinstance (pv 0) (by rfl) m1 k1) (pa_cons (pe_isP xc hz hf (List.mem_singleton.mpr rfl) (by rfl) T.b_isinstance (pv 0) (by rfl) m2 k2) (pa_cons (pe_isP xc hz hf (List.mem_singleton.mpr rfl) (by rfl) T.b_isinstance (pv 0) (by rfl) m3 k3) pa_nil))))))
    (pss_cons (ps_set (i := 1) sc_l_word.nd rfl (by first | exact Or.inl rfl | exact Or.inr rfl) (pe_op op_cat (pv 1) (pe_lst (pa_cons (pe_isP xc hz hf (List.mem_singleton.mpr rfl) (by rfl) T.b_isinstance (pv 0) (by rfl) m4 k4) (pa_cons (pe_isP xc hz hf (List.mem_singleton.mpr rfl) (by rfl) T.b_isinstance (pv 0) (by rfl) m5 k5) (pa_cons (pe_isP xc hz hf (List.mem_singleton.mpr rfl) (by rfl) T.b_isinstance (pv 0) (by rfl) m6 k6) (pa_cons (pe_isP xc hz hf (List.mem_singleton.mpr rfl) (by rfl) T.b_isinstance (pv 0) (by rfl) m7 k7) pa_nil)))))))
    (pss_cons (ps_set (i := 1) sc_l_word.nd rfl (by first | exact Or.inl rfl | exact Or.inr rfl) (pe_op op_cat (pv 1) (pe_lst (pa_cons (pe_isP xc hz hf (List.mem_singleton.mpr rfl) (by rfl) T.b_isinstance (pv 0) (by rfl) m8 k8) (pa_cons (pe_isP xc hz hf (List.mem_singleton.mpr rfl) (by rfl) T.b_isinstance (pv 0) (by rfl) m9 k9) (pa_cons (pe_isP xc hz hf (List.mem_singleton.mpr rfl) (by rfl) T.b_isinstance (pv 0) (by rfl) m10 k10) (pa_cons (pe_isP xc hz hf (List.mem_singleton.mpr rfl) (by rfl) T.b_isinstance (pv 0) (by rfl) m11 k11) pa_nil)))))))
    (pss_cons (ps_set (i := 1) sc_l_word.nd rfl (by first | exact Or.inl rfl | exact Or.inr rfl) (pe_op op_cat (pv 1) (pe_lst (pa_cons (pe_isP xc hz hf (List.mem_singleton.mpr rfl) (by rfl) T.b_isinstance (pv 0) (by rfl) m12 k12) (pa_cons (pe_isP xc hz hf (List.mem_singleton.mpr rfl) (by rfl) T.b_isinstance (pv 0) (by rfl) m13 k13) (pa_cons (pe_isP xc hz hf (List.mem_singleton.mpr rfl) (by rfl) T.b_isinstance (pv 0) (by rfl) m14 k14) pa_nil))))))
    (pss_cons (ps_if (PW.pt (pw_or (pt_not (pt_val (pe_isV xc hz hf (List.mem_singleton.mpr rfl) (by rfl) T.b_isinstance (pv 0) (by rfl) T.b_ValueError xv))) (pw_or1 (pt_cmpR (oz_ne hu) (pe_bm PySem.F.plainAttrs_list PySem.F.slot_list_count PySem.F.type_list_count (mt_countZ hu) (pv 1) (pa_cons pe_bl pa_nil)) pe_int (nomark _))))) (pss_one (ps_ret pe_str)) pss_nil)
    (pss_cons (ps_set (i := 2) sc_l_word.nd rfl (by first | exact Or.inl rfl | exact Or.inr rfl) (pe_lst (pa_cons pe_str (pa_cons pe_str (pa_cons pe_str (pa_cons pe_str (pa_cons pe_str (pa_cons pe_str (pa_cons pe_str (pa_cons pe_str (pa_cons pe_str (pa_cons pe_str (pa_cons pe_str pa_nil)))))))))))))
    (pss_one (ps_ret (pe_op oz_addF pe_str (pe_ix ix_list (pe_op op_cat (pv 2) (pe_lst (pa_cons pe_str (pa_cons pe_str (pa_cons pe_str (pa_cons pe_str pa_nil)))))) (pe_bm PySem.F.plainAttrs_list PySem.F.slot_list_index PySem.F.type_list_index (mt_indexZ hu) (pv 1) (pa_cons pe_bl pa_nil)) (fun _ _ => rfl))))))))))),
    word_reads hi hwi hQ⟩
theorem sc_is_whole : FnScope N_is_whole ps_is_whole (defScope st_is_whole) := ⟨rfl, rfl, rfl, by decide +kernel, rfl, by decide +kernel, by decide +kernel⟩
theorem z_is_whole (T : Txt K mg) (B : Mods base) : FZ P w K mg base Tt 1 "is_whole" 1 m_is_whole := FZ.mk' T.d_is_whole fun f fd F =>
  fnZ' (b := b_is_whole) F sc_is_whole rfl rfl fun cd A out s H E hg hr => by
    exact ⟨_, (pss_one (ps_ret (pe_and (pe_callB cb_isI (by rfl) T.b_isinstance bb_isinstance (pa_cons (pv 0) (pa_cons (pe_bltn (v := .ty "int") (by rfl) T.b_int boot_int rfl) pa_nil))) (pe_one (pe_not (pe_callB cb_isB (by rfl) T.b_isinstance bb_isinstance (pa_cons (pv 0) (pa_cons (pe_bltn (v := .ty "bool") (by rfl) T.b_bool boot_bool rfl) pa_nil)))))))),
    (es_ret (ev_and (ev_isa ev_var.w).w (ev_not (ev_isa ev_var.w).w)))⟩
theorem sc_is_from_to : FnScope N_is_from_to ps_is_from_to (defScope st_is_from_to) := ⟨rfl, rfl, rfl, by decide +kernel, rfl, by decide +kernel, by decide +kernel⟩
theorem z_is_from_to (T : Txt K mg) (B : Mods base) : FZ P w K mg base Tt 2 "is_from_to" 3 m_is_from_to := FZ.mk' T.d_is_from_to fun f fd F =>
  fnZ' (b := b_is_from_to) F sc_is_from_to rfl rfl fun cd A out s H E hg hr => by
    exact ⟨_, (pss_one (ps_ret (pe_and (zp_call (z_is_whole T B) (by exact hg) (by exact hr) (by decide) (by rfl) ps_cx (pa_cons (pv 0) pa_nil)) (pe_one (pe_chain (oz_le (hu_room (by exact hr))) (oz_le (hu_room (by exact hr))) (pv 1) (pv 0) (pv 2)))))),
    (es_ret (ev_and (ev_call (ea_cons ev_var ea_nil)).w (ev_chain (op2_flat fl_le) (op2_flat fl_le) ev_var.w ev_var.w ev_var.w)))⟩
theorem sc_are_houses : FnScope N_are_houses ps_are_houses (defScope st_are_houses) := ⟨rfl, rfl, rfl, by decide +kernel, rfl, by decide +kernel, by decide +kernel⟩
theorem z_are_houses (T : Txt K mg) (B : Mods base) : FZ P w K mg base Tt 3 "are_houses" 1 m_are_houses := FZ.mk' T.d_are_houses fun f fd F =>
  fnZ' (b := b_are_houses) F sc_are_houses rfl rfl fun cd A out s H E hg hr => by
    exact ⟨_, (pss_cons (ps_if (PW.pt (pw_or (pt_not (pt_val (pe_callB cb_isT (by rfl) T.b_isinstance bb_isinstance (pa_cons (pv 0) (pa_cons (pe_bltn (v := .ty "tuple") (by rfl) T.b_tuple boot_tuple rfl) pa_nil))))) (pw_or1 (pt_not (pt_val (pe_callB (cb_all (by rfl)) (by rfl) T.b_all bb_all (pa_cons (pe_lc (own := [("house", 1)]) (by rfl) sc_are_houses.nd (pi_seq (pv 0)) (blkOk_by (N := N_are_houses) (sc := defScope st_are_houses) (by decide +kernel)) (fun _ _ _ _ _ => (pg_name (i := 1) sc_are_houses.nd (by rfl) (by first | exact Or.inl rfl | exact Or.inr rfl))) (fun _ _ _ _ _ => pts_nil) (fun _ _ _ _ _ => (zp_call (z_is_from_to T B) (by exact hg) (by exact hr) (by decide) (by rfl) ps_no (pa_cons (pv 1) (pa_cons pe_int (pa_cons pe_int pa_nil)))))) pa_nil))))))) (pss_one (ps_ret pe_bl)) pss_nil)
      (pss_one (ps_ret (pe_callB (cb_all (by rfl)) (by rfl) T.b_all bb_all (pa_cons (pe_lc (own := [("house", 1), ("other", 2)]) (by rfl) sc_are_houses.nd (pi_zipK (by rfl) T.b_zip (pa_cons (pv 0) (pa_cons (pe_slice sl_z (pv 0) (po_some pe_int) po_none) pa_nil))) (blkOk_by (N := N_are_houses) (sc := defScope st_are_houses) (by decide +kernel)) (fun _ _ _ _ _ => (pg_tup (by rfl) (pgs_cons (pg_name (i := 1) sc_are_houses.nd (by rfl) (by first | exact Or.inl rfl | exact Or.inr rfl)) (pgs_cons (pg_name (i := 2) sc_are_houses.nd (by rfl) (by first | exact Or.inl rfl | exact Or.inr rfl)) pgs_nil)))) (fun _ _ _ _ _ => pts_nil) (fun _ _ _ _ _ => (pe_cmpR (oz_lt (hu_room (by exact hr))) (pv 1) (pv 2) (nomark _)))) pa_nil))))),
    (es_seq (es_if (et_or (et_not (et_B (ev_isa ev_var.w).w)) (et_not (et_B (ev_cb (opn_flat fl_all) (eaw_cons (ev_frzE (el_lcE (vs := [1]) (ei_one ev_var) eg_name (by decide) sk_name et_yes (ev_call (ea_cons ev_var (ea_cons ev_int (ea_cons ev_int ea_nil)))))).w eaw_nil)).w))) (es_ret ev_bl) es_next)
      (es_ret (ev_cb (opn_flat fl_all) (eaw_cons (ev_frzE (el_lcE (vs := [1, 2]) (ei_zip (ea_cons ev_var (ea_cons (ev_sl ev_var.w (eo_some ev_int) eo_none) ea_nil))) (eg_tup (eg_cons eg_name (eg_cons eg_name eg_nil sk_name) sk_name)) (by decide) (sk_tup (sk_cons sk_name (sk_cons sk_name sk_nil))) et_yes (ev_op (op2_flat fl_lt) ev_var.w ev_var.w))).w eaw_nil))))⟩
theorem sc_is_sack : FnScope N_is_sack ps_is_sack (defScope st_is_sack) := ⟨rfl, rfl, rfl, by decide +kernel, rfl, by decide +kernel, by decide +kernel⟩
theorem z_is_sack (T : Txt K mg) (B : Mods base) : FZ P w K mg base Tt 4 "is_sack" 1 m_is_sack := FZ.mk' T.d_is_sack fun f fd F =>
  fnZ' (b := b_is_sack) F sc_is_sack rfl rfl fun cd A out s H E hg hr => by
    exact ⟨_, (pss_cons (ps_if (PW.pt (pw_or (pt_not (pt_val (pe_callB cb_isT (by rfl) T.b_isinstance bb_isinstance (pa_cons (pv 0) (pa_cons (pe_bltn (v := .ty "tuple") (by rfl) T.b_tuple boot_tuple rfl) pa_nil))))) (pw_or1 (pt_not (pt_chain (oz_le (hu_room (by exact hr))) (oz_le (hu_room (by exact hr))) pe_int (pe_callB cb_len (by rfl) T.b_len PySem.boot_len (pa_cons (pv 0) pa_nil)) (zp_const (by rfl) T.c_MOST_HOUSES)))))) (pss_one (ps_ret pe_bl)) pss_nil)
      (pss_cons (ps_for po_cx rfl (pi_seq (pv 0)) (pg_name (i := 1) sc_is_sack.nd (by rfl) (by first | exact Or.inl rfl | exact Or.inr rfl)) (pss_one (ps_if (PW.pt (pw_or (pt_not (pt_val (pe_callB cb_isT (by rfl) T.b_isinstance bb_isinstance (pa_cons (pv 1) (pa_cons (pe_bltn (v := .ty "tuple") (by rfl) T.b_tuple boot_tuple rfl) pa_nil))))) (pw_or (pt_cmpR (oz_ne (hu_room (by exact hr))) (pe_callB cb_len (by rfl) T.b_len PySem.boot_len (pa_cons (pv 1) pa_nil)) pe_int (nomark _)) (pw_or1 (pt_not (pt_val (zp_call (z_is_from_to T B) (by exact hg) (by exact hr) (by decide) (by rfl) ps_cx (pa_cons (pe_ix ix_seq (pv 1) pe_int (fun _ _ => rfl)) (pa_cons pe_int (pa_cons (zp_const (by rfl) T.c_MOST_OUNCES) pa_nil)))))))))) (pss_one (ps_ret pe_bl)) pss_nil)))
      (pss_one (ps_ret (zp_call (z_are_houses T B) (by exact hg) (by exact hr) (by decide) (by rfl) ps_cx (pa_cons (pe_tupleOfS (by rfl) T.b_tuple (pe_lc (own := [("one", 1)]) (by rfl) sc_is_sack.nd (pi_seq (pv 0)) (blkOk_by (N := N_is_sack) (sc := defScope st_is_sack) (by decide +kernel)) (fun _ _ _ _ _ => (pg_name (i := 1) sc_is_sack.nd (by rfl) (by first | exact Or.inl rfl | exact Or.inr rfl))) (fun _ _ _ _ _ => pts_nil) (fun _ _ _ _ _ => (pe_ix ix_seq (pv 1) pe_int (fun _ _ => rfl))))) pa_nil)))))),
    (es_seq (es_if (et_or (et_not (et_B (ev_isa ev_var.w).w)) (et_not (et_test (ev_chain (op2_flat fl_le) (op2_flat fl_le) ev_int.w (ev_CG fLen_at (eaw_cons ev_var.w eaw_nil)).w ev_int.w).w))) (es_ret ev_bl) es_next)
      (es_seq (es_for (ks := [1]) (ei_one ev_var) egn (es_if (et_or (et_not (et_B (ev_isa ev_var.w).w)) (et_or (et_test (ev_op (op2_flat fl_ne) (ev_CG fLen_at (eaw_cons ev_var.w eaw_nil)).w ev_int.w).w) (et_not (et_B (ev_call (ea_cons (ev_opG fIx_at ev_var.w ev_int.w) (ea_cons ev_int (ea_cons ev_int ea_nil)))).w)))) (es_ret ev_bl) es_next))
      (es_ret (ev_call (ea_cons (ev_tupOf (ev_frzE (el_lcE (vs := [1]) (ei_one ev_var) eg_name (by decide) sk_name et_yes (ev_opG fIx_at ev_var.w ev_int.w))).w) ea_nil)))))⟩
theorem sc_mixed_in : FnScope N_mixed_in ps_mixed_in (defScope st_mixed_in) := ⟨rfl, rfl, rfl, by decide +kernel, rfl, by decide +kernel, by decide +kernel⟩
theorem z_mixed_in (T : Txt K mg) (B : Mods base) : FZ P w K mg base Tt 1 "mixed_in" 2 m_mixed_in := FZ.mk' T.d_mixed_in fun f fd F =>
  fnZ' (b := b_mixed_in) F sc_mixed_in rfl rfl fun cd A out s H E hg hr => by
    exact ⟨_, (pss_cons (ps_set (i := 2) sc_mixed_in.nd rfl (by first | exact Or.inl rfl | exact Or.inr rfl) (pe_callTy (cb_dictZ (by rfl)) (by rfl) T.b_dict boot_dict (pa_cons (pv 0) pa_nil)))
      (pss_cons (ps_for po_cx rfl (pi_seq (pv 1)) (pg_tup (by rfl) (pgs_cons (pg_name (i := 3) sc_mixed_in.nd (by rfl) (by first | exact Or.inl rfl | exact Or.inr rfl)) (pgs_cons (pg_name (i := 4) sc_mixed_in.nd (by rfl) (by first | exact Or.inl rfl | exact Or.inr rfl)) pgs_nil))) (pss_one (ps_asg (pe_op oz_add (pe_dget2Z (hu_room (by exact hr)) (pv 2) (pv 3) pe_int ⟨by rfl, by rfl, by rfl, by rfl⟩) (pv 4)) (pg_sub (pv 2) (pv 3) (set_dictZ (hu_room (by exact hr)))))))
      (pss_one (ps_ret (pe_tupleOfS (by rfl) T.b_tuple (pe_callB (cb_sortIZ (by rfl) (hu_room (by exact hr))) (by rfl) T.b_sorted bb_sorted (pa_cons (pe_bm0 PySem.F.plainAttrs_dict PySem.F.slot_dict_items PySem.F.type_dict_items mt_itemsZ (pv 2)) pa_nil))))))),
    (es_seq (es_asgD (ed_dict ev_var))
      (es_seq (es_for (ks := [0, 1, 3, 4]) (ei_one ev_var) (eg_tupG (egt_cons egn (egt_cons egn egt_nil))) (es_dset (ev_op op2_add (ev_dget ev_var ev_int).w ev_var.w) ev_var))
      (es_ret (ev_tupOf (ev_frzE el_sortItems).w))))⟩
theorem sc_need_sack : FnScope N_need_sack ps_need_sack (defScope st_need_sack) := ⟨rfl, rfl, rfl, by decide +kernel, rfl, by decide +kernel, by decide +kernel⟩
theorem z_need_sack (T : Txt K mg) (B : Mods base) : FZ P w K mg base Tt 5 "need_sack" 1 m_need_sack := FZ.mk' T.d_need_sack fun f fd F =>
  fnZ' (b := b_need_sack) F sc_need_sack rfl rfl fun cd A out s H E hg hr => by
    exact ⟨_, (pss_one (ps_if (pt_not (pt_val (zp_call (z_is_sack T B) (by exact hg) (by exact hr) (by decide) (by rfl) ps_cx (pa_cons (pv 0) pa_nil)))) (pss_one (zs_raise T.x_NoSack (by rfl) tk_cx (by rfl))) pss_nil)),
    (es_if (et_not (et_B (ev_call (ea_cons ev_var ea_nil)).w)) (es_raiseX T.x_NoSack) es_next)⟩
theorem sc_mixed : FnScope N_mixed ps_mixed (defScope st_mixed) := ⟨rfl, rfl, rfl, by decide +kernel, rfl, by decide +kernel, by decide +kernel⟩
theorem z_mixed (T : Txt K mg) (B : Mods base) : FZ P w K mg base Tt 6 "mixed" 2 m_mixed := FZ.mk' T.d_mixed fun f fd F =>
  fnZ' (b := b_mixed) F sc_mixed rfl rfl fun cd A out s H E hg hr => by
    exact ⟨_, (pss_cons (ps_expr (zp_call (z_need_sack T B) (by exact hg) (by exact hr) (by decide) (by rfl) ps_cx (pa_cons (pv 0) pa_nil)))
      (pss_cons (ps_expr (zp_call (z_need_sack T B) (by exact hg) (by exact hr) (by decide) (by rfl) ps_cx (pa_cons (pv 1) pa_nil)))
      (pss_cons (ps_set (i := 2) sc_mixed.nd rfl (by first | exact Or.inl rfl | exact Or.inr rfl) (zp_call (z_mixed_in T B) (by exact hg) (by exact hr) (by decide) (by rfl) ps_cx (pa_cons (pv 0) (pa_cons (pv 1) pa_nil))))
      (pss_cons (ps_if (pt_not (pt_val (zp_call (z_is_sack T B) (by exact hg) (by exact hr) (by decide) (by rfl) ps_cx (pa_cons (pv 2) pa_nil)))) (pss_one (zs_raise T.x_TooMuch (by rfl) tk_cx (by rfl))) pss_nil)
      (pss_one (ps_ret (pv 2))))))),
    (es_seq (es_drop (ev_call (ea_cons ev_var ea_nil)))
      (es_seq (es_drop (ev_call (ea_cons ev_var ea_nil)))
      (es_seq (es_asg (ev_call (ea_cons ev_var (ea_cons ev_var ea_nil))) egn)
      (es_seq (es_if (et_not (et_B (ev_call (ea_cons ev_var ea_nil)).w)) (es_raiseX T.x_TooMuch) es_next)
      (es_ret ev_var)))))⟩
theorem sc_giving : FnScope N_giving ps_giving (defScope st_giving) := ⟨rfl, rfl, rfl, by decide +kernel, rfl, by decide +kernel, by decide +kernel⟩
theorem z_giving (T : Txt K mg) (B : Mods base) : FZ P w K mg base Tt 1 "giving" 2 m_giving := FZ.mk' T.d_giving fun f fd F =>
  fnZ' (b := b_giving) F sc_giving rfl rfl fun cd A out s H E hg hr => by
    exact ⟨_, (pss_one (ps_ret (pe_lc (own := [("house", 2), ("ounces", 3)]) (by rfl) sc_giving.nd (pi_seq (pv 1)) (blkOk_by (N := N_giving) (sc := defScope st_giving) (by decide +kernel)) (fun _ _ _ _ _ => (pg_tup (by rfl) (pgs_cons (pg_name (i := 2) sc_giving.nd (by rfl) (by first | exact Or.inl rfl | exact Or.inr rfl)) (pgs_cons (pg_name (i := 3) sc_giving.nd (by rfl) (by first | exact Or.inl rfl | exact Or.inr rfl)) pgs_nil)))) (fun _ _ _ _ _ => pts_nil) (fun _ _ _ _ _ => (pe_ifExp (pt_cmpR (oz_in (hu_room (by exact hr))) (pv 2) (pe_ix ix_seq (pv 0) pe_int (fun _ _ => rfl)) rfl) pe_int (pv 3)))))),
    (es_ret (ev_frzE (el_lcE (vs := [2, 3]) (ei_one ev_var) (eg_tup (eg_cons eg_name (eg_cons eg_name eg_nil sk_name) sk_name)) (by decide) (sk_tup (sk_cons sk_name (sk_cons sk_name sk_nil))) et_yes (ev_if (et_test (ev_op (op2_flat fl_in) ev_var.w (ev_opG fIx_at ev_var.w ev_int.w).w).w) ev_int ev_var))))⟩
theorem sc_dish_in : FnScope N_dish_in ps_dish_in (defScope st_dish_in) := ⟨rfl, rfl, rfl, by decide +kernel, rfl, by decide +kernel, by decide +kernel⟩
theorem z_dish_in (T : Txt K mg) (B : Mods base) : FZ P w K mg base Tt 2 "dish_in" 2 m_dish_in := FZ.mk' T.d_dish_in fun f fd F =>
  fnZ' (b := b_dish_in) F sc_dish_in rfl rfl fun cd A out s H E hg hr => by
    exact ⟨_, (pss_one (ps_ret (pe_op oz_div (pe_callB (cb_sum (by rfl)) (by rfl) T.b_sum bb_sum (pa_cons (zp_call (z_giving T B) (by exact hg) (by exact hr) (by decide) (by rfl) ps_cx (pa_cons (pv 0) (pa_cons (pv 1) pa_nil))) pa_nil)) (pe_ix ix_seq (pv 0) pe_int (fun _ _ => rfl))))),
    (es_ret (ev_op (op2_flat fl_div) (ev_cb (opn_flat fl_sum) (eaw_cons (ev_call (ea_cons ev_var (ea_cons ev_var ea_nil))).w eaw_nil)).w (ev_opG fIx_at ev_var.w ev_int.w).w))⟩
theorem sc_is_rule : FnScope N_is_rule ps_is_rule (defScope st_is_rule) := ⟨rfl, rfl, rfl, by decide +kernel, rfl, by decide +kernel, by decide +kernel⟩
theorem z_is_rule (T : Txt K mg) (B : Mods base) : FZ P w K mg base Tt 4 "is_rule" 1 m_is_rule := FZ.mk' T.d_is_rule fun f fd F =>
  fnZ' (b := b_is_rule) F sc_is_rule rfl rfl fun cd A out s H E hg hr => by
    exact ⟨_, (pss_cons (ps_if (PW.pt (pw_or (pt_not (pt_val (pe_callB cb_isT (by rfl) T.b_isinstance bb_isinstance (pa_cons (pv 0) (pa_cons (pe_bltn (v := .ty "tuple") (by rfl) T.b_tuple boot_tuple rfl) pa_nil))))) (pw_or (pt_cmpR (oz_ne (hu_room (by exact hr))) (pe_callB cb_len (by rfl) T.b_len PySem.boot_len (pa_cons (pv 0) pa_nil)) pe_int (nomark _)) (pw_or1 (pt_not (pt_val (zp_call (z_is_from_to T B) (by exact hg) (by exact hr) (by decide) (by rfl) ps_cx (pa_cons (pe_ix ix_seq (pv 0) pe_int (fun _ _ => rfl)) (pa_cons pe_int (pa_cons pe_int pa_nil)))))))))) (pss_one (ps_ret pe_bl)) pss_nil)
      (pss_one (ps_ret (pe_and (zp_call (z_is_from_to T B) (by exact hg) (by exact hr) (by decide) (by rfl) ps_cx (pa_cons (pe_ix ix_seq (pv 0) pe_int (fun _ _ => rfl)) (pa_cons pe_int (pa_cons pe_int pa_nil)))) (pe_and (zp_call (z_is_from_to T B) (by exact hg) (by exact hr) (by decide) (by rfl) ps_cx (pa_cons (pe_ix ix_seq (pv 0) pe_int (fun _ _ => rfl)) (pa_cons pe_int (pa_cons pe_int pa_nil)))) (pe_one (zp_call (z_are_houses T B) (by exact hg) (by exact hr) (by decide) (by rfl) ps_cx (pa_cons (pe_ix ix_seq (pv 0) pe_int (fun _ _ => rfl)) pa_nil)))))))),
    (es_seq (es_if (et_or (et_not (et_B (ev_isa ev_var.w).w)) (et_or (et_test (ev_op (op2_flat fl_ne) (ev_CG fLen_at (eaw_cons ev_var.w eaw_nil)).w ev_int.w).w) (et_not (et_B (ev_call (ea_cons (ev_opG fIx_at ev_var.w ev_int.w) (ea_cons ev_int (ea_cons ev_int ea_nil)))).w)))) (es_ret ev_bl) es_next)
      (es_ret (ev_and (ev_call (ea_cons (ev_opG fIx_at ev_var.w ev_int.w) (ea_cons ev_int (ea_cons ev_int ea_nil)))).w (ev_and (ev_call (ea_cons (ev_opG fIx_at ev_var.w ev_int.w) (ea_cons ev_int (ea_cons ev_int ea_nil)))).w (ev_call (ea_cons (ev_opG fIx_at ev_var.w ev_int.w) ea_nil))))))⟩
theorem sc_need_rule : FnScope N_need_rule ps_need_rule (defScope st_need_rule) := ⟨rfl, rfl, rfl, by decide +kernel, rfl, by decide +kernel, by decide +kernel⟩
theorem z_need_rule (T : Txt K mg) (B : Mods base) : FZ P w K mg base Tt 5 "need_rule" 1 m_need_rule := FZ.mk' T.d_need_rule fun f fd F =>
  fnZ' (b := b_need_rule) F sc_need_rule rfl rfl fun cd A out s H E hg hr => by
    exact ⟨_, (pss_one (ps_if (pt_not (pt_val (zp_call (z_is_rule T B) (by exact hg) (by exact hr) (by decide) (by rfl) ps_cx (pa_cons (pv 0) pa_nil)))) (pss_one (zs_raise T.x_NoRule (by rfl) tk_cx (by rfl))) pss_nil)),
    (es_if (et_not (et_B (ev_call (ea_cons ev_var ea_nil)).w)) (es_raiseX T.x_NoRule) es_next)⟩
theorem sc_more_by_mixing : FnScope N_more_by_mixing ps_more_by_mixing (defScope st_more_by_mixing) := ⟨rfl, rfl, rfl, by decide +kernel, rfl, by decide +kernel, by decide +kernel⟩
theorem z_more_by_mixing (T : Txt K mg) (B : Mods base) : FZ P w K mg base Tt 7 "more_by_mixing" 3 m_more_by_mixing := FZ.mk' T.d_more_by_mixing fun f fd F =>
  fnZ' (b := b_more_by_mixing) F sc_more_by_mixing rfl rfl fun cd A out s H E hg hr => by
    exact ⟨_, (pss_cons (ps_expr (zp_call (z_need_rule T B) (by exact hg) (by exact hr) (by decide) (by rfl) ps_cx (pa_cons (pv 0) pa_nil)))
      (pss_cons (ps_set (i := 3) sc_more_by_mixing.nd rfl (by first | exact Or.inl rfl | exact Or.inr rfl) (zp_call (z_mixed T B) (by exact hg) (by exact hr) (by decide) (by rfl) ps_cx (pa_cons (pv 1) (pa_cons (pv 2) pa_nil))))
      (pss_one (ps_ret (pe_op oz_sub (pe_op oz_sub (zp_call (z_dish_in T B) (by exact hg) (by exact hr) (by decide) (by rfl) ps_cx (pa_cons (pv 0) (pa_cons (pv 3) pa_nil))) (zp_call (z_dish_in T B) (by exact hg) (by exact hr) (by decide) (by rfl) ps_cx (pa_cons (pv 0) (pa_cons (pv 1) pa_nil)))) (zp_call (z_dish_in T B) (by exact hg) (by exact hr) (by decide) (by rfl) ps_cx (pa_cons (pv 0) (pa_cons (pv 2) pa_nil)))))))),
    (es_seq (es_drop (ev_call (ea_cons ev_var ea_nil)))
      (es_seq (es_asg (ev_call (ea_cons ev_var (ea_cons ev_var ea_nil))) egn)
      (es_ret (ev_op (op2_flat fl_sub) (ev_op (op2_flat fl_sub) (ev_call (ea_cons ev_var (ea_cons ev_var ea_nil))).w (ev_call (ea_cons ev_var (ea_cons ev_var ea_nil))).w).w (ev_call (ea_cons ev_var (ea_cons ev_var ea_nil))).w))))⟩
theorem sc_shared_in : FnScope N_shared_in ps_shared_in (defScope st_shared_in) := ⟨rfl, rfl, rfl, by decide +kernel, rfl, by decide +kernel, by decide +kernel⟩
theorem z_shared_in (T : Txt K mg) (B : Mods base) : FZ P w K mg base Tt 1 "shared_in" 2 m_shared_in := FZ.mk' T.d_shared_in fun f fd F =>
  fnZ' (b := b_shared_in) F sc_shared_in rfl rfl fun cd A out s H E hg hr => by
    exact ⟨_, (pss_cons (ps_set (i := 2) sc_shared_in.nd rfl (by first | exact Or.inl rfl | exact Or.inr rfl) (pe_callB (cb_sum (by rfl)) (by rfl) T.b_sum bb_sum (pa_cons (pv 1) pa_nil)))
      (pss_cons (ps_if (pt_cmpR (oz_eq (hu_room (by exact hr))) (pv 2) pe_int (nomark _)) (pss_one (ps_ret (pe_lc (own := [("weight", 7)]) (by rfl) sc_shared_in.nd (pi_seq (pv 1)) (blkOk_by (N := N_shared_in) (sc := defScope st_shared_in) (by decide +kernel)) (fun _ _ _ _ _ => (pg_name (i := 7) sc_shared_in.nd (by rfl) (by first | exact Or.inl rfl | exact Or.inr rfl))) (fun _ _ _ _ _ => pts_nil) (fun _ _ _ _ _ => pe_int)))) pss_nil)
      (pss_cons (ps_setLc (i := 3) (own := [("weight", 7)]) rfl sc_shared_in.nd rfl rfl (sw_true rfl rfl rfl (by decide +kernel)) (pi_seq (pv 1)) (blkOk_by (N := N_shared_in) (sc := defScope st_shared_in) (by decide +kernel)) (fun _ _ _ _ _ => (pg_name (i := 7) sc_shared_in.nd (by rfl) (by first | exact Or.inl rfl | exact Or.inr rfl))) (fun _ _ _ _ _ => pts_nil) (fun _ _ _ _ _ => (pe_op oz_div (pe_op oz_mulI (pv 7) (pv 0)) (pv 2))))
      (pss_cons (ps_set (i := 4) sc_shared_in.nd rfl (by first | exact Or.inl rfl | exact Or.inr rfl) (pe_callB (cb_sort (hu_room (by exact hr))) (by rfl) T.b_sorted bb_sorted (pa_cons (pe_lc (own := [("at", 6), ("weight", 7)]) (by rfl) sc_shared_in.nd (pi_enumK (by rfl) T.b_enumerate (pa_cons (pv 1) pa_nil)) (blkOk_by (N := N_shared_in) (sc := defScope st_shared_in) (by decide +kernel)) (fun _ _ _ _ _ => (pg_tup (by rfl) (pgs_cons (pg_name (i := 6) sc_shared_in.nd (by rfl) (by first | exact Or.inl rfl | exact Or.inr rfl)) (pgs_cons (pg_name (i := 7) sc_shared_in.nd (by rfl) (by first | exact Or.inl rfl | exact Or.inr rfl)) pgs_nil)))) (fun _ _ _ _ _ => pts_nil) (fun _ _ _ _ _ => (pe_tupS (pa_cons (pe_op oz_sub pe_int (pe_op oz_mod (pe_op oz_mulI (pv 7) (pv 0)) (pv 2))) (pa_cons (pv 6) pa_nil))))) pa_nil)))
      (pss_cons (ps_for po_cx rfl (pi_seq (pe_slice sl_z (pv 4) po_none (po_some (pe_op oz_sub (pv 0) (pe_callB (cb_sum (by rfl)) (by rfl) T.b_sum bb_sum (pa_cons (pv 3) pa_nil)))))) (pg_tup (by rfl) (pgs_cons (pg_name (i := 5) sc_shared_in.nd (by rfl) (by first | exact Or.inl rfl | exact Or.inr rfl)) (pgs_cons (pg_name (i := 6) sc_shared_in.nd (by rfl) (by first | exact Or.inl rfl | exact Or.inr rfl)) pgs_nil))) (pss_one (ps_asg (pe_op oz_add (pe_ix ix_seq (pv 3) (pv 6) (fun _ _ => rfl)) pe_int) (pg_sub (pv 3) (pv 6) set_list))))
      (pss_one (ps_ret (pv 3)))))))),
    (es_seq (es_asg (ev_cb (opn_flat fl_sum) (eaw_cons ev_var.w eaw_nil)) egn)
      (es_seq (es_if (et_test (ev_op (op2_flat fl_eq) ev_var.w ev_int.w).w) (es_ret (ev_frzE (el_lcE (vs := [7]) (ei_one ev_var) eg_name (by decide) sk_name et_yes ev_int))) es_next)
      (es_seq (es_asgL (el_lcE (vs := [7]) (ei_one ev_var) eg_name (by decide) sk_name et_yes (ev_op (op2_flat fl_div) (ev_op (op2_flat fl_mulI) ev_var.w ev_var.w).w ev_var.w)))
      (es_seq (es_asg (ev_frzE (el_sort (ev_frzE (el_lcE (vs := [6, 7]) (ei_enum (ea_cons ev_var ea_nil)) (eg_tup (eg_cons eg_name (eg_cons eg_name eg_nil sk_name) sk_name)) (by decide) (sk_tup (sk_cons sk_name (sk_cons sk_name sk_nil))) et_yes (ev_tupE (ea_cons (ev_op (op2_flat fl_sub) ev_int.w (ev_op (op2_flat fl_mod) (ev_op (op2_flat fl_mulI) ev_var.w ev_var.w).w ev_var.w).w) (ea_cons ev_var ea_nil))))).w)) egn)
      (es_seq (es_for (ks := [0, 1, 2, 4, 5, 6, 7]) (ei_one (ev_sl ev_var.w eo_none (eo_some (ev_op (op2_flat fl_sub) ev_var.w (ev_cb (opn_flat fl_sum) (eaw_cons ev_wvar eaw_nil)).w)))) (eg_tupG (egt_cons egn (egt_cons egn egt_nil))) (es_set (ev_op op2_add (ev_opG fIx_at ev_wvar ev_var.w).w ev_int.w) ev_var))
      (es_frz (i := 3) (es_ret ev_var)))))))⟩
theorem sc_grain_in : FnScope N_grain_in ps_grain_in (defScope st_grain_in) := ⟨rfl, rfl, rfl, by decide +kernel, rfl, by decide +kernel, by decide +kernel⟩
theorem z_grain_in (T : Txt K mg) (B : Mods base) : FZ P w K mg base Tt 1 "grain_in" 1 m_grain_in := FZ.mk' T.d_grain_in fun f fd F =>
  fnZ' (b := b_grain_in) F sc_grain_in rfl rfl fun cd A out s H E hg hr => by
    exact ⟨_, (pss_one (ps_ret (pe_callB (cb_sum (by rfl)) (by rfl) T.b_sum bb_sum (pa_cons (pe_lc (own := [("house", 1), ("ounces", 2)]) (by rfl) sc_grain_in.nd (pi_seq (pv 0)) (blkOk_by (N := N_grain_in) (sc := defScope st_grain_in) (by decide +kernel)) (fun _ _ _ _ _ => (pg_tup (by rfl) (pgs_cons (pg_name (i := 1) sc_grain_in.nd (by rfl) (by first | exact Or.inl rfl | exact Or.inr rfl)) (pgs_cons (pg_name (i := 2) sc_grain_in.nd (by rfl) (by first | exact Or.inl rfl | exact Or.inr rfl)) pgs_nil)))) (fun _ _ _ _ _ => pts_nil) (fun _ _ _ _ _ => (pv 2))) pa_nil)))),
    (es_ret (ev_cb (opn_flat fl_sum) (eaw_cons (ev_frzE (el_lcE (vs := [1, 2]) (ei_one ev_var) (eg_tup (eg_cons eg_name (eg_cons eg_name eg_nil sk_name) sk_name)) (by decide) (sk_tup (sk_cons sk_name (sk_cons sk_name sk_nil))) et_yes ev_var)).w eaw_nil)))⟩
theorem sc_parts_in : FnScope N_parts_in ps_parts_in (defScope st_parts_in) := ⟨rfl, rfl, rfl, by decide +kernel, rfl, by decide +kernel, by decide +kernel⟩
theorem z_parts_in (T : Txt K mg) (B : Mods base) : FZ P w K mg base Tt 3 "parts_in" 2 m_parts_in := FZ.mk' T.d_parts_in fun f fd F =>
  fnZ' (b := b_parts_in) F sc_parts_in rfl rfl fun cd A out s H E hg hr => by
    exact ⟨_, (pss_cons (ps_set (i := 2) sc_parts_in.nd rfl (by first | exact Or.inl rfl | exact Or.inr rfl) (zp_call (z_dish_in T B) (by exact hg) (by exact hr) (by decide) (by rfl) ps_cx (pa_cons (pv 0) (pa_cons (pv 1) pa_nil))))
      (pss_cons (ps_set (i := 3) sc_parts_in.nd rfl (by first | exact Or.inl rfl | exact Or.inr rfl) (pe_op oz_sub (zp_call (z_grain_in T B) (by exact hg) (by exact hr) (by decide) (by rfl) ps_cx (pa_cons (pv 1) pa_nil)) (pv 2)))
      (pss_cons (ps_par (i := 4) (j := 5) rfl sc_parts_in.nd rfl rfl (by decide) rfl rfl (pa_cons (pe_op oz_div (pe_op oz_mulI (pv 3) (pe_ix ix_seq (pv 0) pe_int (fun _ _ => rfl))) pe_int) (pa_cons (pe_op oz_div (pe_op oz_mulI (pv 3) (pe_ix ix_seq (pv 0) pe_int (fun _ _ => rfl))) pe_int) pa_nil)) rfl)
      (pss_one (ps_ret (pe_tupS (pa_cons (pv 2) (pa_cons (pv 4) (pa_cons (pv 5) (pa_cons (pe_op oz_sub (pe_op oz_sub (pv 3) (pv 4)) (pv 5)) pa_nil)))))))))),
    (es_seq (es_asg (ev_call (ea_cons ev_var (ea_cons ev_var ea_nil))) egn)
      (es_seq (es_asg (ev_op (op2_flat fl_sub) (ev_call (ea_cons ev_var ea_nil)).w ev_var.w) egn)
      (es_seq (es_par (ea_cons (ev_op (op2_flat fl_div) (ev_op (op2_flat fl_mulI) ev_var.w (ev_opG fIx_at ev_var.w ev_int.w).w).w ev_int.w) (ea_cons (ev_op (op2_flat fl_div) (ev_op (op2_flat fl_mulI) ev_var.w (ev_opG fIx_at ev_var.w ev_int.w).w).w ev_int.w) ea_nil)))
      (es_ret (ev_tupE (ea_cons ev_var (ea_cons ev_var (ea_cons ev_var (ea_cons (ev_op (op2_flat fl_sub) (ev_op (op2_flat fl_sub) ev_var.w ev_var.w).w ev_var.w) ea_nil)))))))))⟩
theorem sc_rows_in : FnScope N_rows_in ps_rows_in (defScope st_rows_in) := ⟨rfl, rfl, rfl, by decide +kernel, rfl, by decide +kernel, by decide +kernel⟩
theorem z_rows_in (T : Txt K mg) (B : Mods base) : FZ P w K mg base Tt 4 "rows_in" 2 m_rows_in := FZ.mk' T.d_rows_in fun f fd F =>
  fnZ' (b := b_rows_in) F sc_rows_in rfl rfl fun cd A out s H E hg hr => by
    exact ⟨_, (pss_cons (ps_asg (zp_call (z_parts_in T B) (by exact hg) (by exact hr) (by decide) (by rfl) ps_cx (pa_cons (pv 0) (pa_cons (pv 1) pa_nil))) (pg_tup (by rfl) (pgs_cons (pg_name (i := 8) sc_rows_in.nd (by rfl) (by first | exact Or.inl rfl | exact Or.inr rfl)) (pgs_cons (pg_name (i := 9) sc_rows_in.nd (by rfl) (by first | exact Or.inl rfl | exact Or.inr rfl)) (pgs_cons (pg_name (i := 10) sc_rows_in.nd (by rfl) (by first | exact Or.inl rfl | exact Or.inr rfl)) (pgs_cons (pg_name (i := 11) sc_rows_in.nd (by rfl) (by first | exact Or.inl rfl | exact Or.inr rfl)) pgs_nil))))))
      (pss_cons (ps_set (i := 2) sc_rows_in.nd rfl (by first | exact Or.inl rfl | exact Or.inr rfl) (zp_call (z_shared_in T B) (by exact hg) (by exact hr) (by decide) (by rfl) ps_cx (pa_cons (pv 8) (pa_cons (zp_call (z_giving T B) (by exact hg) (by exact hr) (by decide) (by rfl) ps_cx (pa_cons (pv 0) (pa_cons (pv 1) pa_nil))) pa_nil))))
      (pss_cons (ps_setLc (i := 3) (own := [("own", 15), ("house", 13), ("ounces", 14)]) rfl sc_rows_in.nd rfl rfl (sw_true rfl rfl rfl (by decide +kernel)) (pi_zipK (by rfl) T.b_zip (pa_cons (pv 1) (pa_cons (pv 2) pa_nil))) (blkOk_by (N := N_rows_in) (sc := defScope st_rows_in) (by decide +kernel)) (fun _ _ _ _ _ => (pg_tup (by rfl) (pgs_cons (pg_tup (by rfl) (pgs_cons (pg_name (i := 13) sc_rows_in.nd (by rfl) (by first | exact Or.inl rfl | exact Or.inr rfl)) (pgs_cons (pg_name (i := 14) sc_rows_in.nd (by rfl) (by first | exact Or.inl rfl | exact Or.inr rfl)) pgs_nil))) (pgs_cons (pg_name (i := 15) sc_rows_in.nd (by rfl) (by first | exact Or.inl rfl | exact Or.inr rfl)) pgs_nil)))) (fun _ _ _ _ _ => pts_nil) (fun _ _ _ _ _ => (pe_op oz_sub (pv 14) (pv 15))))
      (pss_cons (ps_set (i := 4) sc_rows_in.nd rfl (by first | exact Or.inl rfl | exact Or.inr rfl) (zp_call (z_shared_in T B) (by exact hg) (by exact hr) (by decide) (by rfl) ps_cx (pa_cons (pv 9) (pa_cons (pv 3) pa_nil))))
      (pss_cons (ps_setLc (i := 5) (own := [("one", 16), ("own", 15)]) rfl sc_rows_in.nd rfl rfl (sw_true rfl rfl rfl (by decide +kernel)) (pi_zipK (by rfl) T.b_zip (pa_cons (pv 3) (pa_cons (pv 4) pa_nil))) (blkOk_by (N := N_rows_in) (sc := defScope st_rows_in) (by decide +kernel)) (fun _ _ _ _ _ => (pg_tup (by rfl) (pgs_cons (pg_name (i := 16) sc_rows_in.nd (by rfl) (by first | exact Or.inl rfl | exact Or.inr rfl)) (pgs_cons (pg_name (i := 15) sc_rows_in.nd (by rfl) (by first | exact Or.inl rfl | exact Or.inr rfl)) pgs_nil)))) (fun _ _ _ _ _ => pts_nil) (fun _ _ _ _ _ => (pe_op oz_sub (pv 16) (pv 15))))
      (pss_cons (ps_set (i := 6) sc_rows_in.nd rfl (by first | exact Or.inl rfl | exact Or.inr rfl) (zp_call (z_shared_in T B) (by exact hg) (by exact hr) (by decide) (by rfl) ps_cx (pa_cons (pv 10) (pa_cons (pv 5) pa_nil))))
      (pss_cons (ps_set (i := 7) sc_rows_in.nd rfl (by first | exact Or.inl rfl | exact Or.inr rfl) (pe_lst pa_nil))
      (pss_cons (ps_for po_cx rfl (pi_enumK (by rfl) T.b_enumerate (pa_cons (pv 1) pa_nil)) (pg_tup (by rfl) (pgs_cons (pg_name (i := 12) sc_rows_in.nd (by rfl) (by first | exact Or.inl rfl | exact Or.inr rfl)) (pgs_cons (pg_tup (by rfl) (pgs_cons (pg_name (i := 13) sc_rows_in.nd (by rfl) (by first | exact Or.inl rfl | exact Or.inr rfl)) (pgs_cons (pg_name (i := 14) sc_rows_in.nd (by rfl) (by first | exact Or.inl rfl | exact Or.inr rfl)) pgs_nil))) pgs_nil))) (pss_one (ps_expr (pe_bm PySem.F.plainAttrs_list PySem.F.slot_list_append PySem.F.type_list_append mt_append (pv 7) (pa_cons (pe_tupS (pa_cons (pv 13) (pa_cons (pe_ix ix_seq (pv 2) (pv 12) (fun _ _ => rfl)) (pa_cons (pe_ix ix_seq (pv 4) (pv 12) (fun _ _ => rfl)) (pa_cons (pe_ix ix_seq (pv 6) (pv 12) (fun _ _ => rfl)) (pa_cons (pe_op oz_sub (pe_ix ix_seq (pv 5) (pv 12) (fun _ _ => rfl)) (pe_ix ix_seq (pv 6) (pv 12) (fun _ _ => rfl))) pa_nil)))))) pa_nil)))))
      (pss_one (ps_ret (pe_tupleOfS (by rfl) T.b_tuple (pv 7)))))))))))),
    (es_seq (es_asg (ev_call (ea_cons ev_var (ea_cons ev_var ea_nil))) (eg_tupG (egt_cons egn (egt_cons egn (egt_cons egn (egt_cons egn egt_nil))))))
      (es_seq (es_asg (ev_call (ea_cons ev_var (ea_cons (ev_call (ea_cons ev_var (ea_cons ev_var ea_nil))) ea_nil))) egn)
      (es_seq (es_asg (ev_frzE (el_lcE (vs := [15, 13, 14]) (ei_zip (ea_cons ev_var (ea_cons ev_var ea_nil))) (eg_tup (eg_cons (eg_tup (eg_cons eg_name (eg_cons eg_name eg_nil sk_name) sk_name)) (eg_cons eg_name eg_nil sk_name) (sk_tup (sk_cons sk_name (sk_cons sk_name sk_nil))))) (by decide) (sk_tup (sk_cons (sk_tup (sk_cons sk_name (sk_cons sk_name sk_nil))) (sk_cons sk_name sk_nil))) et_yes (ev_op (op2_flat fl_sub) ev_var.w ev_var.w))) egn)
      (es_seq (es_asg (ev_call (ea_cons ev_var (ea_cons ev_var ea_nil))) egn)
      (es_seq (es_asg (ev_frzE (el_lcE (vs := [16, 15]) (ei_zip (ea_cons ev_var (ea_cons ev_var ea_nil))) (eg_tup (eg_cons eg_name (eg_cons eg_name eg_nil sk_name) sk_name)) (by decide) (sk_tup (sk_cons sk_name (sk_cons sk_name sk_nil))) et_yes (ev_op (op2_flat fl_sub) ev_var.w ev_var.w))) egn)
      (es_seq (es_asg (ev_call (ea_cons ev_var (ea_cons ev_var ea_nil))) egn)
      (es_seq (es_asgL (el_lstE ea_nil))
      (es_seq (es_for (ks := [0, 1, 3, 8, 9, 10, 11, 12, 13, 14, 15, 16]) (ei_enum (ea_cons ev_var ea_nil)) (eg_tupG (egt_cons egn (egt_cons (eg_tupG (egt_cons egn (egt_cons egn egt_nil))) egt_nil))) (es_app (ev_tupE (ea_cons ev_var (ea_cons (ev_opG fIx_at ev_var.w ev_var.w) (ea_cons (ev_opG fIx_at ev_var.w ev_var.w) (ea_cons (ev_opG fIx_at ev_var.w ev_var.w) (ea_cons (ev_op (op2_flat fl_sub) (ev_opG fIx_at ev_var.w ev_var.w).w (ev_opG fIx_at ev_var.w ev_var.w).w) ea_nil))))))))
      (es_ret (ev_tupOf ev_wvar))))))))))⟩
theorem sc_account : FnScope N_account ps_account (defScope st_account) := ⟨rfl, rfl, rfl, by decide +kernel, rfl, by decide +kernel, by decide +kernel⟩
theorem z_account (T : Txt K mg) (B : Mods base) : FZ P w K mg base Tt 6 "account" 2 m_account := FZ.mk' T.d_account fun f fd F =>
  fnZ' (b := b_account) F sc_account rfl rfl fun cd A out s H E hg hr => by
    exact ⟨_, (pss_cons (ps_expr (zp_call (z_need_rule T B) (by exact hg) (by exact hr) (by decide) (by rfl) ps_cx (pa_cons (pv 0) pa_nil)))
      (pss_cons (ps_if (PW.pt (pw_or (pt_not (pt_val (pe_callB cb_isT (by rfl) T.b_isinstance bb_isinstance (pa_cons (pv 1) (pa_cons (pe_bltn (v := .ty "tuple") (by rfl) T.b_tuple boot_tuple rfl) pa_nil))))) (pw_or (pt_cmpR (oz_gt (hu_room (by exact hr))) (pe_callB cb_len (by rfl) T.b_len PySem.boot_len (pa_cons (pv 1) pa_nil)) (zp_const (by rfl) T.c_MOST_SACKS) (nomark _)) (pw_or1 (pt_not (pt_val (pe_callB (cb_all (by rfl)) (by rfl) T.b_all bb_all (pa_cons (pe_lc (own := [("sack", 3)]) (by rfl) sc_account.nd (pi_seq (pv 1)) (blkOk_by (N := N_account) (sc := defScope st_account) (by decide +kernel)) (fun _ _ _ _ _ => (pg_name (i := 3) sc_account.nd (by rfl) (by first | exact Or.inl rfl | exact Or.inr rfl))) (fun _ _ _ _ _ => pts_nil) (fun _ _ _ _ _ => (zp_call (z_is_sack T B) (by exact hg) (by exact hr) (by decide) (by rfl) ps_no (pa_cons (pv 3) pa_nil)))) pa_nil)))))))) (pss_one (zs_raise T.x_NoSack (by rfl) tk_cx (by rfl))) pss_nil)
      (pss_cons (ps_set (i := 2) sc_account.nd rfl (by first | exact Or.inl rfl | exact Or.inr rfl) pe_dnewK)
      (pss_cons (ps_for po_cx rfl (pi_seq (pv 1)) (pg_name (i := 3) sc_account.nd (by rfl) (by first | exact Or.inl rfl | exact Or.inr rfl)) (pss_one (ps_for po_cx rfl (pi_zipK (by rfl) T.b_zip (pa_cons (pv 3) (pa_cons (zp_call (z_rows_in T B) (by exact hg) (by exact hr) (by decide) (by rfl) ps_cx (pa_cons (pv 0) (pa_cons (pv 3) pa_nil))) pa_nil))) (pg_tup (by rfl) (pgs_cons (pg_tup (by rfl) (pgs_cons (pg_name (i := 6) sc_account.nd (by rfl) (by first | exact Or.inl rfl | exact Or.inr rfl)) (pgs_cons (pg_name (i := 7) sc_account.nd (by rfl) (by first | exact Or.inl rfl | exact Or.inr rfl)) pgs_nil))) (pgs_cons (pg_name (i := 4) sc_account.nd (by rfl) (by first | exact Or.inl rfl | exact Or.inr rfl)) pgs_nil))) (pss_cons (ps_set (i := 5) sc_account.nd rfl (by first | exact Or.inl rfl | exact Or.inr rfl) (pe_dget2Z (hu_room (by exact hr)) (pv 2) (pv 6) (pe_lst (pa_cons pe_int (pa_cons pe_int (pa_cons pe_int (pa_cons pe_int (pa_cons pe_int pa_nil)))))) ⟨by rfl, by rfl, by rfl, by rfl⟩))
      (pss_one (ps_asg (pe_lc (own := [("one", 8), ("more", 9)]) (by rfl) sc_account.nd (pi_zipK (by rfl) T.b_zip (pa_cons (pv 5) (pa_cons (pe_op oz_add (pe_tupS (pa_cons (pv 7) pa_nil)) (pe_slice sl_z (pv 4) (po_some pe_int) po_none)) pa_nil))) (blkOk_by (N := N_account) (sc := defScope st_account) (by decide +kernel)) (fun _ _ _ _ _ => (pg_tup (by rfl) (pgs_cons (pg_name (i := 8) sc_account.nd (by rfl) (by first | exact Or.inl rfl | exact Or.inr rfl)) (pgs_cons (pg_name (i := 9) sc_account.nd (by rfl) (by first | exact Or.inl rfl | exact Or.inr rfl)) pgs_nil)))) (fun _ _ _ _ _ => pts_nil) (fun _ _ _ _ _ => (pe_op oz_add (pv 8) (pv 9)))) (pg_sub (pv 2) (pv 6) (set_dictZ (hu_room (by exact hr))))))))))
      (pss_one (ps_ret (pe_tupleOfS (by rfl) T.b_tuple (pe_lc (own := [("house", 6)]) (by rfl) sc_account.nd (pi_seq (pe_callB (cb_sortDI (by rfl)) (by rfl) T.b_sorted bb_sorted (pa_cons (pv 2) pa_nil))) (blkOk_by (N := N_account) (sc := defScope st_account) (by decide +kernel)) (fun _ _ _ _ _ => (pg_name (i := 6) sc_account.nd (by rfl) (by first | exact Or.inl rfl | exact Or.inr rfl))) (fun _ _ _ _ _ => pts_nil) (fun _ _ _ _ _ => (pe_op oz_add (pe_tupS (pa_cons (pv 6) pa_nil)) (pe_tupleOfS (by rfl) T.b_tuple (pe_dgetZ (hu_room (by exact hr)) (pv 2) (pv 6) (fun _ _ => rfl))))))))))))),
    (es_seq (es_drop (ev_call (ea_cons ev_var ea_nil)))
      (es_seq (es_if (et_or (et_not (et_B (ev_isa ev_var.w).w)) (et_or (et_test (ev_op (op2_flat fl_gt) (ev_CG fLen_at (eaw_cons ev_var.w eaw_nil)).w ev_int.w).w) (et_not (et_B (ev_cb (opn_flat fl_all) (eaw_cons (ev_frzE (el_lcE (vs := [3]) (ei_one ev_var) eg_name (by decide) sk_name et_yes (ev_call (ea_cons ev_var ea_nil)))).w eaw_nil)).w)))) (es_raiseX T.x_NoSack) es_next)
      (es_seq (es_asgD ed_nil)
      (es_seq (es_for (ks := [1, 3, 4, 5, 6, 7, 8, 9]) (ei_one ev_var) egn (es_for (ks := [1, 3, 4, 5, 6, 7, 8, 9]) (ei_zip (ea_cons ev_var (ea_cons (ev_call (ea_cons ev_var (ea_cons ev_var ea_nil))) ea_nil))) (eg_tupG (egt_cons (eg_tupG (egt_cons egn (egt_cons egn egt_nil))) (egt_cons egn egt_nil))) (es_seq (es_asg (ev_dget ev_var (ev_frzE (el_lstE (ea_cons ev_int (ea_cons ev_int (ea_cons ev_int (ea_cons ev_int (ea_cons ev_int ea_nil)))))))) egn)
      (es_dset (ev_frzE (el_lcE (vs := [8, 9]) (ei_zip (ea_cons ev_var (ea_cons (ev_op op2_add (ev_tupE (ea_cons ev_var ea_nil)).w (ev_sl ev_var.w (eo_some ev_int) eo_none).w) ea_nil))) (eg_tup (eg_cons eg_name (eg_cons eg_name eg_nil sk_name) sk_name)) (by decide) (sk_tup (sk_cons sk_name (sk_cons sk_name sk_nil))) et_yes (ev_op op2_add ev_var.w ev_var.w))) ev_var))))
      (es_ret (ev_tupOf (ev_frzE (el_lcE (vs := [6]) (ei_one (ev_frzE el_sortD)) eg_name (by decide) sk_name et_yes (ev_op op2_add (ev_tupE (ea_cons ev_var ea_nil)).w (ev_tupOf (ev_dix ev_var).w).w))).w))))))⟩
theorem sc_by_house : FnScope N_by_house ps_by_house (defScope st_by_house) := ⟨rfl, rfl, rfl, by decide +kernel, rfl, by decide +kernel, by decide +kernel⟩
theorem z_by_house (T : Txt K mg) (B : Mods base) : FZ P w K mg base Tt 6 "by_house" 2 m_by_house := FZ.mk' T.d_by_house fun f fd F =>
  fnZ' (b := b_by_house) F sc_by_house rfl rfl fun cd A out s H E hg hr => by
    exact ⟨_, (pss_cons (ps_expr (zp_call (z_need_rule T B) (by exact hg) (by exact hr) (by decide) (by rfl) ps_cx (pa_cons (pv 0) pa_nil)))
      (pss_cons (ps_expr (zp_call (z_need_sack T B) (by exact hg) (by exact hr) (by decide) (by rfl) ps_cx (pa_cons (pv 1) pa_nil)))
      (pss_one (ps_ret (zp_call (z_rows_in T B) (by exact hg) (by exact hr) (by decide) (by rfl) ps_cx (pa_cons (pv 0) (pa_cons (pv 1) pa_nil))))))),
    (es_seq (es_drop (ev_call (ea_cons ev_var ea_nil)))
      (es_seq (es_drop (ev_call (ea_cons ev_var ea_nil)))
      (es_ret (ev_call (ea_cons ev_var (ea_cons ev_var ea_nil))))))⟩
theorem sc_grain_of : FnScope N_grain_of ps_grain_of (defScope st_grain_of) := ⟨rfl, rfl, rfl, by decide +kernel, rfl, by decide +kernel, by decide +kernel⟩
theorem z_grain_of (T : Txt K mg) (B : Mods base) : FZ P w K mg base Tt 6 "grain_of" 1 m_grain_of := FZ.mk' T.d_grain_of fun f fd F =>
  fnZ' (b := b_grain_of) F sc_grain_of rfl rfl fun cd A out s H E hg hr => by
    exact ⟨_, (pss_cons (ps_expr (zp_call (z_need_sack T B) (by exact hg) (by exact hr) (by decide) (by rfl) ps_cx (pa_cons (pv 0) pa_nil)))
      (pss_one (ps_ret (zp_call (z_grain_in T B) (by exact hg) (by exact hr) (by decide) (by rfl) ps_cx (pa_cons (pv 0) pa_nil))))),
    (es_seq (es_drop (ev_call (ea_cons ev_var ea_nil)))
      (es_ret (ev_call (ea_cons ev_var ea_nil))))⟩
theorem sc_l_added : FnScope N_l_added ps_l_added (defScope st_l_added) := ⟨rfl, rfl, rfl, by decide +kernel, rfl, by decide +kernel, by decide +kernel⟩
theorem z_l_added (T : Txt K mg) (B : Mods base) : FZ P w K mg base Tt 1 "_law_added" 2 m_l_added := FZ.mk' T.d_l_added fun f fd F =>
  fnZ' (b := b_l_added) F sc_l_added rfl rfl fun cd A out s H E hg hr => by
    exact ⟨_, (pss_cons (ps_set (i := 2) sc_l_added.nd rfl (by first | exact Or.inl rfl | exact Or.inr rfl) (pe_callTy (cb_dictZ (by rfl)) (by rfl) T.b_dict boot_dict (pa_cons (pe_lc (own := [("_law_row", 3)]) (by rfl) sc_l_added.nd (pi_seq (pv 0)) (blkOk_by (N := N_l_added) (sc := defScope st_l_added) (by decide +kernel)) (fun _ _ _ _ _ => (pg_name (i := 3) sc_l_added.nd (by rfl) (by first | exact Or.inl rfl | exact Or.inr rfl))) (fun _ _ _ _ _ => pts_nil) (fun _ _ _ _ _ => (pe_tupS (pa_cons (pe_ix ix_seq (pv 3) pe_int (fun _ _ => rfl)) (pa_cons (pe_slice sl_z (pv 3) (po_some pe_int) po_none) pa_nil))))) pa_nil)))
      (pss_cons (ps_for po_cx rfl (pi_seq (pv 1)) (pg_name (i := 3) sc_l_added.nd (by rfl) (by first | exact Or.inl rfl | exact Or.inr rfl)) (pss_cons (ps_set (i := 4) sc_l_added.nd rfl (by first | exact Or.inl rfl | exact Or.inr rfl) (pe_dget2Z (hu_room (by exact hr)) (pv 2) (pe_ix ix_seq (pv 3) pe_int (fun _ _ => rfl)) (pe_tupS (pa_cons pe_int (pa_cons pe_int (pa_cons pe_int (pa_cons pe_int (pa_cons pe_int pa_nil)))))) ⟨by rfl, by rfl, by rfl, by rfl⟩))
      (pss_one (ps_asg (pe_tupleOfS (by rfl) T.b_tuple (pe_lc (own := [("_law_mine", 6), ("_law_more", 7)]) (by rfl) sc_l_added.nd (pi_zipK (by rfl) T.b_zip (pa_cons (pv 4) (pa_cons (pe_slice sl_z (pv 3) (po_some pe_int) po_none) pa_nil))) (blkOk_by (N := N_l_added) (sc := defScope st_l_added) (by decide +kernel)) (fun _ _ _ _ _ => (pg_tup (by rfl) (pgs_cons (pg_name (i := 6) sc_l_added.nd (by rfl) (by first | exact Or.inl rfl | exact Or.inr rfl)) (pgs_cons (pg_name (i := 7) sc_l_added.nd (by rfl) (by first | exact Or.inl rfl | exact Or.inr rfl)) pgs_nil)))) (fun _ _ _ _ _ => pts_nil) (fun _ _ _ _ _ => (pe_op oz_add (pv 6) (pv 7))))) (pg_sub (pv 2) (pe_ix ix_seq (pv 3) pe_int (fun _ _ => rfl)) (set_dictZ (hu_room (by exact hr))))))))
      (pss_one (ps_ret (pe_tupleOfS (by rfl) T.b_tuple (pe_lc (own := [("_law_house", 5)]) (by rfl) sc_l_added.nd (pi_seq (pe_callB (cb_sortDI (by rfl)) (by rfl) T.b_sorted bb_sorted (pa_cons (pv 2) pa_nil))) (blkOk_by (N := N_l_added) (sc := defScope st_l_added) (by decide +kernel)) (fun _ _ _ _ _ => (pg_name (i := 5) sc_l_added.nd (by rfl) (by first | exact Or.inl rfl | exact Or.inr rfl))) (fun _ _ _ _ _ => pts_nil) (fun _ _ _ _ _ => (pe_op oz_add (pe_tupS (pa_cons (pv 5) pa_nil)) (pe_dgetZ (hu_room (by exact hr)) (pv 2) (pv 5) (fun _ _ => rfl)))))))))),
    (es_seq (es_asgD (ed_dict (ev_frzE (el_lcE (vs := [3]) (ei_one ev_var) eg_name (by decide) sk_name et_yes (ev_tupE (ea_cons (ev_opG fIx_at ev_var.w ev_int.w) (ea_cons (ev_sl ev_var.w (eo_some ev_int) eo_none) ea_nil)))))))
      (es_seq (es_for (ks := [0, 1, 3, 4, 5, 6, 7]) (ei_one ev_var) egn (es_seq (es_asg (ev_dget (ev_opG fIx_at ev_var.w ev_int.w) (ev_tupE (ea_cons ev_int (ea_cons ev_int (ea_cons ev_int (ea_cons ev_int (ea_cons ev_int ea_nil))))))) egn)
      (es_dset (ev_tupOf (ev_frzE (el_lcE (vs := [6, 7]) (ei_zip (ea_cons ev_var (ea_cons (ev_sl ev_var.w (eo_some ev_int) eo_none) ea_nil))) (eg_tup (eg_cons eg_name (eg_cons eg_name eg_nil sk_name) sk_name)) (by decide) (sk_tup (sk_cons sk_name (sk_cons sk_name sk_nil))) et_yes (ev_op op2_add ev_var.w ev_var.w))).w) (ev_opG fIx_at ev_var.w ev_int.w))))
      (es_ret (ev_tupOf (ev_frzE (el_lcE (vs := [5]) (ei_one (ev_frzE el_sortD)) eg_name (by decide) sk_name et_yes (ev_op op2_add (ev_tupE (ea_cons ev_var ea_nil)).w (ev_dix ev_var).w))).w))))⟩
theorem sc_l_take : FnScope N_l_take ps_l_take (defScope st_l_take) := ⟨rfl, rfl, rfl, by decide +kernel, rfl, by decide +kernel, by decide +kernel⟩
theorem z_l_take (T : Txt K mg) (B : Mods base) : FZ P w K mg base Tt 1 "_law_take" 2 m_l_take := FZ.mk' T.d_l_take fun f fd F =>
  fnZ' (b := b_l_take) F sc_l_take rfl rfl fun cd A out s H E hg hr => by
    exact ⟨_, (pss_cons (ps_if (pt_cmpR (oz_gt (hu_room (by exact hr))) (pe_ix ix_seq (pv 0) pe_int (fun _ _ => rfl)) pe_int (nomark _)) (pss_cons (ps_asg (pe_callB call_divmodW (by rfl) T.b_divmod bb_divmod (pa_cons (pe_ix ix_seq (pv 0) pe_int (fun _ _ => rfl)) (pa_cons (pv 1) pa_nil))) (pg_tup (by rfl) (pgs_cons (pg_sub (pv 0) pe_int set_list) (pgs_cons (pg_name (i := 3) sc_l_take.nd (by rfl) (by first | exact Or.inl rfl | exact Or.inr rfl)) pgs_nil))))
      (pss_one (ps_ret (pv 3)))) pss_nil)
      (pss_cons (ps_asg (pe_op oz_mod (pe_op oz_add (pe_op oz_mulI (pe_ix ix_seq (pv 0) pe_int (fun _ _ => rfl)) pe_int) pe_int) pe_int) (pg_sub (pv 0) pe_int set_list))
      (pss_cons (ps_set (i := 2) sc_l_take.nd rfl (by first | exact Or.inl rfl | exact Or.inr rfl) (pe_op oz_add (pe_op oz_div (pe_ix ix_seq (pv 0) pe_int (fun _ _ => rfl)) pe_int) pe_int))
      (pss_one (ps_ret (pe_op oz_mod (pe_op oz_div (pe_op oz_mod (pe_op oz_mulI (pe_op oz_mulI (pv 2) (pv 2)) (pv 2)) pe_int) pe_int) (pv 1))))))),
    (es_seq (es_if (et_test (ev_op (op2_flat fl_gt) (ev_opG fIx_at ev_var.w ev_int.w).w ev_int.w).w) (es_seq (es_asg (ev_CG fDivmod_at (eaw_cons (ev_opG fIx_at ev_var.w ev_int.w).w (eaw_cons ev_var.w eaw_nil))) (eg_tupG (egt_cons (eg_sub ev_var ev_int) (egt_cons egn egt_nil))))
      (es_ret ev_var)) es_next)
      (es_seq (es_asg (ev_op (op2_flat fl_mod) (ev_op op2_add (ev_op (op2_flat fl_mulI) (ev_opG fIx_at ev_var.w ev_int.w).w ev_int.w).w ev_int.w).w ev_int.w) (eg_sub ev_var ev_int))
      (es_seq (es_asg (ev_op op2_add (ev_op (op2_flat fl_div) (ev_opG fIx_at ev_var.w ev_int.w).w ev_int.w).w ev_int.w) egn)
      (es_ret (ev_op (op2_flat fl_mod) (ev_op (op2_flat fl_div) (ev_op (op2_flat fl_mod) (ev_op (op2_flat fl_mulI) (ev_op (op2_flat fl_mulI) ev_var.w ev_var.w).w ev_var.w).w ev_int.w).w ev_int.w).w ev_var.w)))))⟩
theorem sc_l_ounces : FnScope N_l_ounces ps_l_ounces (defScope st_l_ounces) := ⟨rfl, rfl, rfl, by decide +kernel, rfl, by decide +kernel, by decide +kernel⟩
theorem z_l_ounces (T : Txt K mg) (B : Mods base) : FZ P w K mg base Tt 2 "_law_ounces" 2 m_l_ounces := FZ.mk' T.d_l_ounces fun f fd F =>
  fnZ' (b := b_l_ounces) F sc_l_ounces rfl rfl fun cd A out s H E hg hr => by
    exact ⟨_, (pss_one (ps_ret (pe_ix ix_seq (pe_lst (pa_cons pe_int (pa_cons (pv 1) (pa_cons (pe_op oz_add pe_int (zp_call (z_l_take T B) (by exact hg) (by exact hr) (by decide) (by rfl) ps_cx (pa_cons (pv 0) (pa_cons (pv 1) pa_nil)))) (pa_cons (pe_op oz_add pe_int (zp_call (z_l_take T B) (by exact hg) (by exact hr) (by decide) (by rfl) ps_cx (pa_cons (pv 0) (pa_cons pe_int pa_nil)))) pa_nil))))) (zp_call (z_l_take T B) (by exact hg) (by exact hr) (by decide) (by rfl) ps_cx (pa_cons (pv 0) (pa_cons pe_int pa_nil))) (fun _ _ => rfl)))),
    (es_ret (ev_opG fIx_at (ev_frzE (el_lstE (ea_cons ev_int (ea_cons ev_var (ea_cons (ev_op op2_add ev_int.w (ev_call (ea_cons ev_var (ea_cons ev_var ea_nil))).w) (ea_cons (ev_op op2_add ev_int.w (ev_call (ea_cons ev_var (ea_cons ev_int ea_nil))).w) ea_nil)))))).w (ev_call (ea_cons ev_var (ea_cons ev_int ea_nil))).w))⟩
theorem sc_l_sack : FnScope N_l_sack ps_l_sack (defScope st_l_sack) := ⟨rfl, rfl, rfl, by decide +kernel, rfl, by decide +kernel, by decide +kernel⟩
theorem z_l_sack (T : Txt K mg) (B : Mods base) : FZ P w K mg base Tt 3 "_law_sack" 2 m_l_sack := FZ.mk' T.d_l_sack fun f fd F =>
  fnZ' (b := b_l_sack) F sc_l_sack rfl rfl fun cd A out s H E hg hr => by
    exact ⟨_, (pss_cons (ps_set (i := 2) sc_l_sack.nd rfl (by first | exact Or.inl rfl | exact Or.inr rfl) (pe_listRg (by rfl) (by rfl) T.b_list (prg_1 (by rfl) T.b_range pe_int)))
      (pss_cons (ps_setLc (i := 3) (own := [("_law_turn", 4)]) rfl sc_l_sack.nd rfl rfl (sw_true rfl rfl rfl (by decide +kernel)) (pi_range1 (by rfl) T.b_range (pa_cons (pe_ix ix_seq (pe_lst (pa_cons pe_int (pa_cons pe_int (pa_cons pe_int (pa_cons pe_int (pa_cons pe_int pa_nil)))))) (zp_call (z_l_take T B) (by exact hg) (by exact hr) (by decide) (by rfl) ps_cx (pa_cons (pv 0) (pa_cons pe_int pa_nil))) (fun _ _ => rfl)) pa_nil)) (blkOk_by (N := N_l_sack) (sc := defScope st_l_sack) (by decide +kernel)) (fun _ _ _ _ _ => (pg_name (i := 4) sc_l_sack.nd (by rfl) (by first | exact Or.inl rfl | exact Or.inr rfl))) (fun _ _ _ _ _ => pts_nil) (fun _ _ _ _ _ => (pe_bm PySem.F.plainAttrs_list PySem.F.slot_list_pop PySem.F.type_list_pop mt_popAt (pv 2) (pa_cons (zp_call (z_l_take T B) (by exact hg) (by exact hr) (by decide) (by rfl) ps_no (pa_cons (pv 0) (pa_cons (pe_callB cb_len (by rfl) T.b_len PySem.boot_len (pa_cons (pv 2) pa_nil)) pa_nil))) pa_nil))))
      (pss_one (ps_ret (pe_tupleOfS (by rfl) T.b_tuple (pe_lc (own := [("_law_house", 5)]) (by rfl) sc_l_sack.nd (pi_seq (pe_callB (cb_sort (hu_room (by exact hr))) (by rfl) T.b_sorted bb_sorted (pa_cons (pv 3) pa_nil))) (blkOk_by (N := N_l_sack) (sc := defScope st_l_sack) (by decide +kernel)) (fun _ _ _ _ _ => (pg_name (i := 5) sc_l_sack.nd (by rfl) (by first | exact Or.inl rfl | exact Or.inr rfl))) (fun _ _ _ _ _ => pts_nil) (fun _ _ _ _ _ => (pe_tupS (pa_cons (pv 5) (pa_cons (zp_call (z_l_ounces T B) (by exact hg) (by exact hr) (by decide) (by rfl) ps_no (pa_cons (pv 0) (pa_cons (pv 1) pa_nil))) pa_nil)))))))))),
    (es_seq (es_asg (ev_layE (el_range ev_int)) egn)
      (es_seq (es_asg (ev_frzE (el_lcE (vs := [4]) (ei_rng1 (ea_cons (ev_opG fIx_at (ev_frzE (el_lstE (ea_cons ev_int (ea_cons ev_int (ea_cons ev_int (ea_cons ev_int (ea_cons ev_int ea_nil))))))).w (ev_call (ea_cons ev_var (ea_cons ev_int ea_nil))).w) ea_nil)) eg_name (by decide) sk_name et_yes (ev_lm lr_popAt ev_var (ea_cons (ev_call (ea_cons ev_var (ea_cons (ev_CG fLen_at (eaw_cons ev_var.w eaw_nil)) ea_nil))) ea_nil)))) egn)
      (es_ret (ev_tupOf (ev_frzE (el_lcE (vs := [5]) (ei_one (ev_frzE (el_sort ev_var.w))) eg_name (by decide) sk_name et_yes (ev_tupE (ea_cons ev_var (ea_cons (ev_call (ea_cons ev_var (ea_cons ev_var ea_nil))) ea_nil))))).w))))⟩
theorem sc_l_some_houses : FnScope N_l_some_houses ps_l_some_houses (defScope st_l_some_houses) := ⟨rfl, rfl, rfl, by decide +kernel, rfl, by decide +kernel, by decide +kernel⟩
theorem z_l_some_houses (T : Txt K mg) (B : Mods base) : FZ P w K mg base Tt 2 "_law_some_houses" 2 m_l_some_houses := FZ.mk' T.d_l_some_houses fun f fd F =>
  fnZ' (b := b_l_some_houses) F sc_l_some_houses rfl rfl fun cd A out s H E hg hr => by
    exact ⟨_, (pss_one (ps_ret (pe_tupleOfS (by rfl) T.b_tuple (pe_lc (own := [("_law_house", 2)]) (by rfl) sc_l_some_houses.nd (pi_range1 (by rfl) T.b_range (pa_cons pe_int pa_nil)) (blkOk_by (N := N_l_some_houses) (sc := defScope st_l_some_houses) (by decide +kernel)) (fun _ _ _ _ _ => (pg_name (i := 2) sc_l_some_houses.nd (by rfl) (by first | exact Or.inl rfl | exact Or.inr rfl))) (fun _ _ _ _ _ => (pts_one (pt_cmpR (oz_eq (hu_room (by exact hr))) (zp_call (z_l_take T B) (by exact hg) (by exact hr) (by decide) (by rfl) ps_no (pa_cons (pv 0) (pa_cons (pv 1) pa_nil))) pe_int (nomark _)))) (fun _ _ _ _ _ => (pv 2)))))),
    (es_ret (ev_tupOf (ev_frzE (el_lcE (vs := [2]) (ei_rng1 (ea_cons ev_int ea_nil)) eg_name (by decide) sk_name (et_test (ev_op (op2_flat fl_eq) (ev_call (ea_cons ev_var (ea_cons ev_var ea_nil))).w ev_int.w).w) ev_var)).w))⟩
theorem sc_l_rule : FnScope N_l_rule ps_l_rule (defScope st_l_rule) := ⟨rfl, rfl, rfl, by decide +kernel, rfl, by decide +kernel, by decide +kernel⟩
theorem z_l_rule (T : Txt K mg) (B : Mods base) : FZ P w K mg base Tt 3 "_law_rule" 1 m_l_rule := FZ.mk' T.d_l_rule fun f fd F =>
  fnZ' (b := b_l_rule) F sc_l_rule rfl rfl fun cd A out s H E hg hr => by
    exact ⟨_, (pss_cons (ps_set (i := 1) sc_l_rule.nd rfl (by first | exact Or.inl rfl | exact Or.inr rfl) (pe_ix ix_seq (pe_lst (pa_cons pe_int (pa_cons pe_int (pa_cons pe_int (pa_cons pe_int (pa_cons (pe_op oz_add pe_int (zp_call (z_l_take T B) (by exact hg) (by exact hr) (by decide) (by rfl) ps_cx (pa_cons (pv 0) (pa_cons pe_int pa_nil)))) pa_nil)))))) (zp_call (z_l_take T B) (by exact hg) (by exact hr) (by decide) (by rfl) ps_cx (pa_cons (pv 0) (pa_cons pe_int pa_nil))) (fun _ _ => rfl)))
      (pss_cons (ps_par (i := 2) (j := 3) rfl sc_l_rule.nd rfl rfl (by decide) rfl rfl (pa_cons (pe_ix ix_seq (pe_lst (pa_cons pe_int (pa_cons pe_int (pa_cons (zp_call (z_l_take T B) (by exact hg) (by exact hr) (by decide) (by rfl) ps_cx (pa_cons (pv 0) (pa_cons pe_int pa_nil))) pa_nil)))) (zp_call (z_l_take T B) (by exact hg) (by exact hr) (by decide) (by rfl) ps_cx (pa_cons (pv 0) (pa_cons pe_int pa_nil))) (fun _ _ => rfl)) (pa_cons (pe_ix ix_seq (pe_lst (pa_cons pe_int (pa_cons pe_int (pa_cons (zp_call (z_l_take T B) (by exact hg) (by exact hr) (by decide) (by rfl) ps_cx (pa_cons (pv 0) (pa_cons pe_int pa_nil))) pa_nil)))) (zp_call (z_l_take T B) (by exact hg) (by exact hr) (by decide) (by rfl) ps_cx (pa_cons (pv 0) (pa_cons pe_int pa_nil))) (fun _ _ => rfl)) pa_nil)) rfl)
      (pss_one (ps_ret (pe_tupS (pa_cons (pv 1) (pa_cons (pv 2) (pa_cons (pv 3) (pa_cons (zp_call (z_l_some_houses T B) (by exact hg) (by exact hr) (by decide) (by rfl) ps_cx (pa_cons (pv 0) (pa_cons (pe_op oz_add pe_int (zp_call (z_l_take T B) (by exact hg) (by exact hr) (by decide) (by rfl) ps_cx (pa_cons (pv 0) (pa_cons pe_int pa_nil)))) pa_nil))) pa_nil))))))))),
    (es_seq (es_asg (ev_opG fIx_at (ev_frzE (el_lstE (ea_cons ev_int (ea_cons ev_int (ea_cons ev_int (ea_cons ev_int (ea_cons (ev_op op2_add ev_int.w (ev_call (ea_cons ev_var (ea_cons ev_int ea_nil))).w) ea_nil))))))).w (ev_call (ea_cons ev_var (ea_cons ev_int ea_nil))).w) egn)
      (es_seq (es_par (ea_cons (ev_opG fIx_at (ev_frzE (el_lstE (ea_cons ev_int (ea_cons ev_int (ea_cons (ev_call (ea_cons ev_var (ea_cons ev_int ea_nil))) ea_nil))))).w (ev_call (ea_cons ev_var (ea_cons ev_int ea_nil))).w) (ea_cons (ev_opG fIx_at (ev_frzE (el_lstE (ea_cons ev_int (ea_cons ev_int (ea_cons (ev_call (ea_cons ev_var (ea_cons ev_int ea_nil))) ea_nil))))).w (ev_call (ea_cons ev_var (ea_cons ev_int ea_nil))).w) ea_nil)))
      (es_ret (ev_tupE (ea_cons ev_var (ea_cons ev_var (ea_cons ev_var (ea_cons (ev_call (ea_cons ev_var (ea_cons (ev_op op2_add ev_int.w (ev_call (ea_cons ev_var (ea_cons ev_int ea_nil))).w) ea_nil))) ea_nil))))))))⟩
theorem sc_l_box : FnScope N_l_box ps_l_box (defScope st_l_box) := ⟨rfl, rfl, rfl, by decide +kernel, rfl, by decide +kernel, by decide +kernel⟩
theorem z_l_box (T : Txt K mg) (B : Mods base) : FZ P w K mg base Tt 1 "_law_box" 2 m_l_box := FZ.mk' T.d_l_box fun f fd F =>
  fnZ' (b := b_l_box) F sc_l_box rfl rfl fun cd A out s H E hg hr => by
    exact ⟨_, (pss_cons (ps_set (i := 2) sc_l_box.nd rfl (by first | exact Or.inl rfl | exact Or.inr rfl) (pe_op oz_add (pe_op oz_mulI pe_int (pv 1)) pe_int))
      (pss_cons (ps_if (pt_cmpR (oz_lt (hu_room (by exact hr))) (pv 1) (pe_callB cb_len (by rfl) T.b_len PySem.boot_len (pa_cons (pv 0) pa_nil)) (nomark _)) (pss_one (ps_set (i := 2) sc_l_box.nd rfl (by first | exact Or.inl rfl | exact Or.inr rfl) (pe_ix ix_seq (pv 0) (pv 1) (fun _ _ => rfl)))) pss_nil)
      (pss_cons (ps_if (pt_cmpR (oz_eq (hu_room (by exact hr))) (pe_op oz_mod (pv 2) pe_int) pe_int (nomark _)) (pss_one (ps_ret (pe_lst (pa_cons (pe_op oz_div (pe_callB cb_abs (by rfl) T.b_abs bb_abs (pa_cons (pv 2) pa_nil)) pe_int) (pa_cons (pe_op oz_add (pe_op oz_add (pe_op oz_mod (pv 2) pe_int) (pe_op oz_mulI pe_int (pv 1))) pe_int) pa_nil))))) pss_nil)
      (pss_one (ps_ret (pe_lst (pa_cons pe_int (pa_cons (pe_op oz_add (pe_op oz_add (pe_op oz_mod (pv 2) pe_int) (pe_op oz_mulI pe_int (pv 1))) pe_int) pa_nil)))))))),
    (es_seq (es_asg (ev_op op2_add (ev_op (op2_flat fl_mulI) ev_int.w ev_var.w).w ev_int.w) egn)
      (es_seq (es_if (et_test (ev_op (op2_flat fl_lt) ev_var.w (ev_CG fLen_at (eaw_cons ev_var.w eaw_nil)).w).w) (es_asg (ev_opG fIx_at ev_var.w ev_var.w) egn) es_next)
      (es_seq (es_if (et_test (ev_op (op2_flat fl_eq) (ev_op (op2_flat fl_mod) ev_var.w ev_int.w).w ev_int.w).w) (es_ret (ev_layE (el_lstE (ea_cons (ev_op (op2_flat fl_div) (ev_cb (opn_flat fl_abs) (eaw_cons ev_var.w eaw_nil)).w ev_int.w) (ea_cons (ev_op op2_add (ev_op op2_add (ev_op (op2_flat fl_mod) ev_var.w ev_int.w).w (ev_op (op2_flat fl_mulI) ev_int.w ev_var.w).w).w ev_int.w) ea_nil))))) es_next)
      (es_ret (ev_layE (el_lstE (ea_cons ev_int (ea_cons (ev_op op2_add (ev_op op2_add (ev_op (op2_flat fl_mod) ev_var.w ev_int.w).w (ev_op (op2_flat fl_mulI) ev_int.w ev_var.w).w).w ev_int.w) ea_nil))))))))⟩
theorem sc_law : FnScope N_law ps_law (defScope st_law) := ⟨rfl, rfl, rfl, by decide +kernel, rfl, by decide +kernel, by decide +kernel⟩
theorem z_law {c0 p0 : Addr} (T : Txt K mg) (B : Mods base) (DL : DefL K mg "law" st_law ps_law c0) (TB : LamX.TabB base mg c0 p0) : FZ P w K mg base [(p0, "law.<locals>.<lambda>")] 9 "law" 1 m_law :=
  FZ.mkL (b := b_law) DL sc_law rfl rfl fun f A out s H E hg hr => by
    exact ⟨_, (pss_cons (ps_for po_cx rfl (pi_range1 (by rfl) T.b_range (pa_cons (pe_callB (cb_max2 (by rfl)) (by rfl) T.b_max bb_max (pa_cons pe_int (pa_cons (pe_callB (cb_min2 (by rfl)) (by rfl) T.b_min bb_min (pa_cons (pe_callB cb_len (by rfl) T.b_len PySem.boot_len (pa_cons (pv 0) pa_nil)) (pa_cons pe_int pa_nil))) pa_nil))) pa_nil)) (pg_name (i := 1) sc_law.nd (by rfl) (by first | exact Or.inl rfl | exact Or.inr rfl)) (pss_cons (ps_set (i := 2) sc_law.nd rfl (by first | exact Or.inl rfl | exact Or.inr rfl) (zp_call (z_l_box T B) (by exact hg) (by exact hr) (by decide) (by rfl) ps_cx (pa_cons (pv 0) (pa_cons (pv 1) pa_nil))))
      (pss_cons (ps_set (i := 3) sc_law.nd rfl (by first | exact Or.inl rfl | exact Or.inr rfl) (zp_call (z_l_rule T B) (by exact hg) (by exact hr) (by decide) (by rfl) ps_cx (pa_cons (pv 2) pa_nil)))
      (pss_cons (ps_set (i := 4) sc_law.nd rfl (by first | exact Or.inl rfl | exact Or.inr rfl) (pe_tupleOfS (by rfl) T.b_tuple (pe_lc (own := [("_law_turn", 13)]) (by rfl) sc_law.nd (pi_range1 (by rfl) T.b_range (pa_cons (zp_call (z_l_take T B) (by exact hg) (by exact hr) (by decide) (by rfl) ps_cx (pa_cons (pv 2) (pa_cons pe_int pa_nil))) pa_nil)) (blkOk_by (N := N_law) (sc := defScope st_law) (by decide +kernel)) (fun _ _ _ _ _ => (pg_name (i := 13) sc_law.nd (by rfl) (by first | exact Or.inl rfl | exact Or.inr rfl))) (fun _ _ _ _ _ => pts_nil) (fun _ _ _ _ _ => (zp_call (z_l_sack T B) (by exact hg) (by exact hr) (by decide) (by rfl) ps_no (pa_cons (pv 2) (pa_cons pe_int pa_nil)))))))
      (pss_cons (ps_set (i := 5) sc_law.nd rfl (by first | exact Or.inl rfl | exact Or.inr rfl) (pe_tupleOfS (by rfl) T.b_tuple (pe_lc (own := [("_law_turn", 13)]) (by rfl) sc_law.nd (pi_range1 (by rfl) T.b_range (pa_cons (pe_op oz_add pe_int (zp_call (z_l_take T B) (by exact hg) (by exact hr) (by decide) (by rfl) ps_cx (pa_cons (pv 2) (pa_cons pe_int pa_nil)))) pa_nil)) (blkOk_by (N := N_law) (sc := defScope st_law) (by decide +kernel)) (fun _ _ _ _ _ => (pg_name (i := 13) sc_law.nd (by rfl) (by first | exact Or.inl rfl | exact Or.inr rfl))) (fun _ _ _ _ _ => pts_nil) (fun _ _ _ _ _ => (zp_call (z_l_sack T B) (by exact hg) (by exact hr) (by decide) (by rfl) ps_no (pa_cons (pv 2) (pa_cons pe_int pa_nil)))))))
      (pss_cons (ps_par (i := 9) (j := 10) rfl sc_law.nd rfl rfl (by decide) rfl rfl (pa_cons (zp_call (z_account T B) (by exact hg) (by exact hr) (by decide) (by rfl) ps_cx (pa_cons (pv 3) (pa_cons (pv 4) pa_nil))) (pa_cons (zp_call (z_account T B) (by exact hg) (by exact hr) (by decide) (by rfl) ps_cx (pa_cons (pv 3) (pa_cons (pv 5) pa_nil))) pa_nil)) rfl)
      (pss_cons (ps_set (i := 6) sc_law.nd rfl (by first | exact Or.inl rfl | exact Or.inr rfl) (zp_call (z_account T B) (by exact hg) (by exact hr) (by decide) (by rfl) ps_cx (pa_cons (pv 3) (pa_cons (pe_op oz_add (pv 4) (pv 5)) pa_nil))))
      (pss_cons (ps_if (PW.pt (pw_or (pt_cmpR (oz_ne (hu_room (by exact hr))) (pv 6) (zp_call (z_l_added T B) (by exact hg) (by exact hr) (by decide) (by rfl) ps_cx (pa_cons (pv 9) (pa_cons (pv 10) pa_nil))) (nomark _)) (pw_or1 (pt_cmpR (oz_ne (hu_room (by exact hr))) (zp_call (z_account T B) (by exact hg) (by exact hr) (by decide) (by rfl) ps_cx (pa_cons (pv 3) (pa_cons (pe_op oz_add (pv 5) (pv 4)) pa_nil))) (pv 6) (nomark _))))) (pss_one (ps_ret pe_bl)) pss_nil)
      (pss_cons (ps_if (pt_cmpR (oz_neL (hu_room (by exact hr))) (pe_lc (own := [("_law_row", 14)]) (by rfl) sc_law.nd (pi_seq (pv 6)) (blkOk_by (N := N_law) (sc := defScope st_law) (by decide +kernel)) (fun _ _ _ _ _ => (pg_name (i := 14) sc_law.nd (by rfl) (by first | exact Or.inl rfl | exact Or.inr rfl))) (fun _ _ _ _ _ => (pts_one (pt_cmpR (oz_ne (hu_room (by exact hr))) (pe_callB (cb_sum (by rfl)) (by rfl) T.b_sum bb_sum (pa_cons (pe_slice sl_z (pv 14) (po_some pe_int) po_none) pa_nil)) (pe_ix ix_seq (pv 14) pe_int (fun _ _ => rfl)) (nomark _)))) (fun _ _ _ _ _ => (pv 14))) (pe_lst pa_nil) (nomark _)) (pss_one (ps_ret pe_bl)) pss_nil)
      (pss_cons (ps_if (pt_cmpR (oz_ne (hu_room (by exact hr))) (pe_callB (cb_sum (by rfl)) (by rfl) T.b_sum bb_sum (pa_cons (pe_lc (own := [("_law_row", 14)]) (by rfl) sc_law.nd (pi_seq (pv 6)) (blkOk_by (N := N_law) (sc := defScope st_law) (by decide +kernel)) (fun _ _ _ _ _ => (pg_name (i := 14) sc_law.nd (by rfl) (by first | exact Or.inl rfl | exact Or.inr rfl))) (fun _ _ _ _ _ => pts_nil) (fun _ _ _ _ _ => (pe_ix ix_seq (pv 14) pe_int (fun _ _ => rfl)))) pa_nil)) (pe_callB (cb_sum (by rfl)) (by rfl) T.b_sum bb_sum (pa_cons (pe_lc (own := [("_law_sack_here", 8)]) (by rfl) sc_law.nd (pi_seq (pe_op oz_add (pv 4) (pv 5))) (blkOk_by (N := N_law) (sc := defScope st_law) (by decide +kernel)) (fun _ _ _ _ _ => (pg_name (i := 8) sc_law.nd (by rfl) (by first | exact Or.inl rfl | exact Or.inr rfl))) (fun _ _ _ _ _ => pts_nil) (fun _ _ _ _ _ => (zp_call (z_grain_of T B) (by exact hg) (by exact hr) (by decide) (by rfl) ps_no (pa_cons (pv 8) pa_nil)))) pa_nil)) (nomark _)) (pss_one (ps_ret pe_bl)) pss_nil)
      (pss_cons (ps_setLc (i := 7) (own := [("_law_row", 14), ("_law_ounces_here", 15)]) rfl sc_law.nd rfl rfl (sw_true rfl rfl rfl (by decide +kernel)) (pi_zipK (by rfl) T.b_zip (pa_cons (zp_call (z_by_house T B) (by exact hg) (by exact hr) (by decide) (by rfl) ps_cx (pa_cons (pv 3) (pa_cons (pe_ix ix_seq (pv 5) pe_int (fun _ _ => rfl)) pa_nil))) (pa_cons (pe_ix ix_seq (pv 5) pe_int (fun _ _ => rfl)) pa_nil))) (blkOk_by (N := N_law) (sc := defScope st_law) (by decide +kernel)) (fun _ _ _ _ _ => (pg_tup (by rfl) (pgs_cons (pg_name (i := 14) sc_law.nd (by rfl) (by first | exact Or.inl rfl | exact Or.inr rfl)) (pgs_cons (pg_name (i := 15) sc_law.nd (by rfl) (by first | exact Or.inl rfl | exact Or.inr rfl)) pgs_nil)))) (fun _ _ _ _ _ => pts_nil) (fun _ _ _ _ _ => (pe_op oz_add (pe_tupS (pa_cons (pe_ix ix_seq (pv 14) pe_int (fun _ _ => rfl)) (pa_cons (pe_ix ix_seq (pv 15) pe_int (fun _ _ => rfl)) pa_nil))) (pe_slice sl_z (pv 14) (po_some pe_int) po_none))))
      (pss_cons (ps_if (pt_cmpR (oz_ne (hu_room (by exact hr))) (zp_call (z_account T B) (by exact hg) (by exact hr) (by decide) (by rfl) ps_cx (pa_cons (pv 3) (pa_cons (pe_slice sl_z (pv 5) po_none (po_some pe_int)) pa_nil))) (pe_tupleOfS (by rfl) T.b_tuple (pv 7)) (nomark _)) (pss_one (ps_ret pe_bl)) pss_nil)
      (pss_one (ps_for po_cx rfl (pi_seq (pv 4)) (pg_name (i := 8) sc_law.nd (by rfl) (by first | exact Or.inl rfl | exact Or.inr rfl)) (pss_one (ps_if (pt_cmpR (oz_ne (hu_room (by exact hr))) (pe_said (k := 6) T.said (z_l_word T B) T.err (by rfl) T.b_repr (by exact hg) (hr.mono (by decide)) (by decide) B TB rfl (List.mem_singleton.mpr (by rfl)) (fun p hp _ => by rw [List.mem_singleton.mp hp]; rfl) (LamX.lamS_by (sc := defScope st_law) (by decide +kernel)) (by rfl) (fun _ _ _ _ _ => rfl) (fun A out s H E f c hg hr => (zp_call (z_mixed T B) (by exact hg) (by exact hr) (by decide) (by rfl) ps_lam (pa_cons (pv 8) (pa_cons (pe_ix ix_seq (pv 5) pe_int (fun _ _ => rfl)) pa_nil))))) pe_str (nomark _)) (pss_cons (ps_set (i := 11) sc_law.nd rfl (by first | exact Or.inl rfl | exact Or.inr rfl) (pe_callB (cb_sum (by rfl)) (by rfl) T.b_sum bb_sum (pa_cons (pe_lc (own := [("_law_row", 14)]) (by rfl) sc_law.nd (pi_seq (zp_call (z_account T B) (by exact hg) (by exact hr) (by decide) (by rfl) ps_cx (pa_cons (pv 3) (pa_cons (pe_tupS (pa_cons (pv 8) (pa_cons (pe_ix ix_seq (pv 5) pe_int (fun _ _ => rfl)) pa_nil))) pa_nil)))) (blkOk_by (N := N_law) (sc := defScope st_law) (by decide +kernel)) (fun _ _ _ _ _ => (pg_name (i := 14) sc_law.nd (by rfl) (by first | exact Or.inl rfl | exact Or.inr rfl))) (fun _ _ _ _ _ => pts_nil) (fun _ _ _ _ _ => (pe_ix ix_seq (pv 14) pe_int (fun _ _ => rfl)))) pa_nil)))
      (pss_cons (ps_set (i := 12) sc_law.nd rfl (by first | exact Or.inl rfl | exact Or.inr rfl) (pe_callB (cb_sum (by rfl)) (by rfl) T.b_sum bb_sum (pa_cons (pe_lc (own := [("_law_row", 14)]) (by rfl) sc_law.nd (pi_seq (zp_call (z_account T B) (by exact hg) (by exact hr) (by decide) (by rfl) ps_cx (pa_cons (pv 3) (pa_cons (pe_tupS (pa_cons (zp_call (z_mixed T B) (by exact hg) (by exact hr) (by decide) (by rfl) ps_cx (pa_cons (pv 8) (pa_cons (pe_ix ix_seq (pv 5) pe_int (fun _ _ => rfl)) pa_nil))) pa_nil)) pa_nil)))) (blkOk_by (N := N_law) (sc := defScope st_law) (by decide +kernel)) (fun _ _ _ _ _ => (pg_name (i := 14) sc_law.nd (by rfl) (by first | exact Or.inl rfl | exact Or.inr rfl))) (fun _ _ _ _ _ => pts_nil) (fun _ _ _ _ _ => (pe_ix ix_seq (pv 14) pe_int (fun _ _ => rfl)))) pa_nil)))
      (pss_one (ps_if (PW.pt (pw_or (pt_cmpR (oz_ne (hu_room (by exact hr))) (pe_op oz_sub (pv 12) (pv 11)) (zp_call (z_more_by_mixing T B) (by exact hg) (by exact hr) (by decide) (by rfl) ps_cx (pa_cons (pv 3) (pa_cons (pv 8) (pa_cons (pe_ix ix_seq (pv 5) pe_int (fun _ _ => rfl)) pa_nil)))) (nomark _)) (pw_or1 (pt_cmpR (oz_notin (hu_room (by exact hr))) (pe_op oz_sub (pv 12) (pv 11)) (pe_tupS (pa_cons pe_int (pa_cons pe_int pa_nil))) rfl)))) (pss_one (ps_ret pe_bl)) pss_nil)))) pss_nil))))))))))))))))
      (pss_one (ps_ret pe_bl))),
    (es_seq (es_for (ks := [1, 2, 3, 4, 5, 6, 7, 8, 9, 10, 11, 12, 13, 14, 15]) (ei_rng1 (ea_cons (ev_cb (opn_flat fl_max2) (eaw_cons ev_int.w (eaw_cons (ev_cb (opn_flat fl_min2) (eaw_cons (ev_CG fLen_at (eaw_cons ev_var.w eaw_nil)).w (eaw_cons ev_int.w eaw_nil))).w eaw_nil))) ea_nil)) egn (es_seq (es_asg (ev_call (ea_cons ev_var (ea_cons ev_var ea_nil))) egn)
      (es_seq (es_asg (ev_call (ea_cons ev_var ea_nil)) egn)
      (es_seq (es_asg (ev_tupOf (ev_frzE (el_lcE (vs := [13]) (ei_rng1 (ea_cons (ev_call (ea_cons ev_var (ea_cons ev_int ea_nil))) ea_nil)) eg_name (by decide) sk_name et_yes (ev_call (ea_cons ev_var (ea_cons ev_int ea_nil))))).w) egn)
      (es_seq (es_asg (ev_tupOf (ev_frzE (el_lcE (vs := [13]) (ei_rng1 (ea_cons (ev_op op2_add ev_int.w (ev_call (ea_cons ev_var (ea_cons ev_int ea_nil))).w) ea_nil)) eg_name (by decide) sk_name et_yes (ev_call (ea_cons ev_var (ea_cons ev_int ea_nil))))).w) egn)
      (es_seq (es_par (ea_cons (ev_call (ea_cons ev_var (ea_cons ev_var ea_nil))) (ea_cons (ev_call (ea_cons ev_var (ea_cons ev_var ea_nil))) ea_nil)))
      (es_seq (es_asg (ev_call (ea_cons ev_var (ea_cons (ev_op op2_add ev_var.w ev_var.w) ea_nil))) egn)
      (es_seq (es_if (et_or (et_test (ev_op (op2_flat fl_ne) ev_var.w (ev_call (ea_cons ev_var (ea_cons ev_var ea_nil))).w).w) (et_test (ev_op (op2_flat fl_ne) (ev_call (ea_cons ev_var (ea_cons (ev_op op2_add ev_var.w ev_var.w) ea_nil))).w ev_var.w).w)) (es_ret ev_bl) es_next)
      (es_seq (es_if (et_test (ev_op op2_neL (ev_frzE (el_lcE (vs := [14]) (ei_one ev_var) eg_name (by decide) sk_name (et_test (ev_op (op2_flat fl_ne) (ev_cb (opn_flat fl_sum) (eaw_cons (ev_sl ev_var.w (eo_some ev_int) eo_none).w eaw_nil)).w (ev_opG fIx_at ev_var.w ev_int.w).w).w) ev_var)).w (ev_frzE (el_lstE ea_nil)).w).w) (es_ret ev_bl) es_next)
      (es_seq (es_if (et_test (ev_op (op2_flat fl_ne) (ev_cb (opn_flat fl_sum) (eaw_cons (ev_frzE (el_lcE (vs := [14]) (ei_one ev_var) eg_name (by decide) sk_name et_yes (ev_opG fIx_at ev_var.w ev_int.w))).w eaw_nil)).w (ev_cb (opn_flat fl_sum) (eaw_cons (ev_frzE (el_lcE (vs := [8]) (ei_one (ev_op op2_add ev_var.w ev_var.w)) eg_name (by decide) sk_name et_yes (ev_call (ea_cons ev_var ea_nil)))).w eaw_nil)).w).w) (es_ret ev_bl) es_next)
      (es_seq (es_asg (ev_frzE (el_lcE (vs := [14, 15]) (ei_zip (ea_cons (ev_call (ea_cons ev_var (ea_cons (ev_opG fIx_at ev_var.w ev_int.w) ea_nil))) (ea_cons (ev_opG fIx_at ev_var.w ev_int.w) ea_nil))) (eg_tup (eg_cons eg_name (eg_cons eg_name eg_nil sk_name) sk_name)) (by decide) (sk_tup (sk_cons sk_name (sk_cons sk_name sk_nil))) et_yes (ev_op op2_add (ev_tupE (ea_cons (ev_opG fIx_at ev_var.w ev_int.w) (ea_cons (ev_opG fIx_at ev_var.w ev_int.w) ea_nil))).w (ev_sl ev_var.w (eo_some ev_int) eo_none).w))) egn)
      (es_seq (es_if (et_test (ev_op (op2_flat fl_ne) (ev_call (ea_cons ev_var (ea_cons (ev_sl ev_var.w eo_none (eo_some ev_int)) ea_nil))).w (ev_tupOf ev_var.w).w).w) (es_ret ev_bl) es_next)
      (es_for (ks := [1, 2, 4, 6, 7, 8, 9, 10, 11, 12, 13, 14, 15]) (ei_one ev_var) egn (es_if (et_test (ev_op (op2_flat fl_ne) (ev_said (fun E => (ev_call (ea_cons ev_var (ea_cons (ev_opG fIx_at ev_var.w ev_int.w) ea_nil))))).w ev_str.w).w) (es_seq (es_asg (ev_cb (opn_flat fl_sum) (eaw_cons (ev_frzE (el_lcE (vs := [14]) (ei_one (ev_call (ea_cons ev_var (ea_cons (ev_tupE (ea_cons ev_var (ea_cons (ev_opG fIx_at ev_var.w ev_int.w) ea_nil))) ea_nil)))) eg_name (by decide) sk_name et_yes (ev_opG fIx_at ev_var.w ev_int.w))).w eaw_nil)) egn)
      (es_seq (es_asg (ev_cb (opn_flat fl_sum) (eaw_cons (ev_frzE (el_lcE (vs := [14]) (ei_one (ev_call (ea_cons ev_var (ea_cons (ev_tupE (ea_cons (ev_call (ea_cons ev_var (ea_cons (ev_opG fIx_at ev_var.w ev_int.w) ea_nil))) ea_nil)) ea_nil)))) eg_name (by decide) sk_name et_yes (ev_opG fIx_at ev_var.w ev_int.w))).w eaw_nil)) egn)
      (es_if (et_or (et_test (ev_op (op2_flat fl_ne) (ev_op (op2_flat fl_sub) ev_var.w ev_var.w).w (ev_call (ea_cons ev_var (ea_cons ev_var (ea_cons (ev_opG fIx_at ev_var.w ev_int.w) ea_nil)))).w).w) (et_test (ev_op (op2_flat fl_notin) (ev_op (op2_flat fl_sub) ev_var.w ev_var.w).w (ev_tupE (ea_cons ev_int (ea_cons ev_int ea_nil))).w).w)) (es_ret ev_bl) es_next))) es_next))))))))))))))
      (es_ret ev_bl))⟩
end
end Z

namespace Z
open PySem PySem.Spec PyProof.Rows L2

theorem mkTxt {K : PySem.W.Frag} {mg : Str → Option Value} {h : Heap} {tc0 : Tok} {tc1 : Tok} {tc2 : Tok} {ax0 : Addr} {ax1 : Addr} {ax2 : Addr} {ax3 : Addr} {ax4 : Addr} {ax5 : Addr} {ax6 : Addr} {ax7 : Addr} {ax8 : Addr} {ax9 : Addr} {ax10 : Addr} {ax11 : Addr} {ax12 : Addr} {ax13 : Addr} {ax14 : Addr} {fa0 : Addr} {od0 an0 : Option Addr} {sl0 : Array (Option Value)} {oc0 kv0 dc0 pm0 cd0 ct0 : Value} {fa1 : Addr} {od1 an1 : Option Addr} {sl1 : Array (Option Value)} {oc1 kv1 dc1 pm1 cd1 ct1 : Value} {fa2 : Addr} {od2 an2 : Option Addr} {sl2 : Array (Option Value)} {oc2 kv2 dc2 pm2 cd2 ct2 : Value} {fa3 : Addr} {od3 an3 : Option Addr} {sl3 : Array (Option Value)} {oc3 kv3 dc3 pm3 cd3 ct3 : Value} {fa4 : Addr} {od4 an4 : Option Addr} {sl4 : Array (Option Value)} {oc4 kv4 dc4 pm4 cd4 ct4 : Value} {fa5 : Addr} {od5 an5 : Option Addr} {sl5 : Array (Option Value)} {oc5 kv5 dc5 pm5 cd5 ct5 : Value} {fa6 : Addr} {od6 an6 : Option Addr} {sl6 : Array (Option Value)} {oc6 kv6 dc6 pm6 cd6 ct6 : Value} {fa7 : Addr} {od7 an7 : Option Addr} {sl7 : Array (Option Value)} {oc7 kv7 dc7 pm7 cd7 ct7 : Value} {fa8 : Addr} {od8 an8 : Option Addr} {sl8 : Array (Option Value)} {oc8 kv8 dc8 pm8 cd8 ct8 : Value} {fa9 : Addr} {od9 an9 : Option Addr} {sl9 : Array (Option Value)} {oc9 kv9 dc9 pm9 cd9 ct9 : Value} {fa10 : Addr} {od10 an10 : Option Addr} {sl10 : Array (Option Value)} {oc10 kv10 dc10 pm10 cd10 ct10 : Value} {fa11 : Addr} {od11 an11 : Option Addr} {sl11 : Array (Option Value)} {oc11 kv11 dc11 pm11 cd11 ct11 : Value} {fa12 : Addr} {od12 an12 : Option Addr} {sl12 : Array (Option Value)} {oc12 kv12 dc12 pm12 cd12 ct12 : Value} {fa13 : Addr} {od13 an13 : Option Addr} {sl13 : Array (Option Value)} {oc13 kv13 dc13 pm13 cd13 ct13 : Value} {fa14 : Addr} {od14 an14 : Option Addr} {sl14 : Array (Option Value)} {oc14 kv14 dc14 pm14 cd14 ct14 : Value} {fa15 : Addr} {od15 an15 : Option Addr} {sl15 : Array (Option Value)} {oc15 kv15 dc15 pm15 cd15 ct15 : Value} {fa16 : Addr} {od16 an16 : Option Addr} {sl16 : Array (Option Value)} {oc16 kv16 dc16 pm16 cd16 ct16 : Value} {fa17 : Addr} {od17 an17 : Option Addr} {sl17 : Array (Option Value)} {oc17 kv17 dc17 pm17 cd17 ct17 : Value} {fa18 : Addr} {od18 an18 : Option Addr} {sl18 : Array (Option Value)} {oc18 kv18 dc18 pm18 cd18 ct18 : Value} {fa19 : Addr} {od19 an19 : Option Addr} {sl19 : Array (Option Value)} {oc19 kv19 dc19 pm19 cd19 ct19 : Value} {fa20 : Addr} {od20 an20 : Option Addr} {sl20 : Array (Option Value)} {oc20 kv20 dc20 pm20 cd20 ct20 : Value} {fa21 : Addr} {od21 an21 : Option Addr} {sl21 : Array (Option Value)} {oc21 kv21 dc21 pm21 cd21 ct21 : Value} {fa22 : Addr} {od22 an22 : Option Addr} {sl22 : Array (Option Value)} {oc22 kv22 dc22 pm22 cd22 ct22 : Value} {fa23 : Addr} {od23 an23 : Option Addr} {sl23 : Array (Option Value)} {oc23 kv23 dc23 pm23 cd23 ct23 : Value} {fa24 : Addr} {od24 an24 : Option Addr} {sl24 : Array (Option Value)} {oc24 kv24 dc24 pm24 cd24 ct24 : Value} {fa25 : Addr} {od25 an25 : Option Addr} {sl25 : Array (Option Value)} {oc25 kv25 dc25 pm25 cd25 ct25 : Value} {fa26 : Addr} {od26 an26 : Option Addr} {sl26 : Array (Option Value)} {oc26 kv26 dc26 pm26 cd26 ct26 : Value} {fa27 : Addr} {od27 an27 : Option Addr} {sl27 : Array (Option Value)} {oc27 kv27 dc27 pm27 cd27 ct27 : Value} {fa28 : Addr} {od28 an28 : Option Addr} {sl28 : Array (Option Value)} {oc28 kv28 dc28 pm28 ct28 : Value} {c0 : Addr} {bm : Addr} {p0 : Addr} {od : Option Addr} {vs : Array Value} {sl : Array (Option Value)} {f0 : Str} {tf tg tt : Tok} {fl n0 : Int} {b0 : Bool} (kx : K.In h) (g : h.Ns mainGlobals mg)
    (zb_ValueError : PySem.W.nsIn K mainGlobals "ValueError" = some none)
    (zb_abs : PySem.W.nsIn K mainGlobals "abs" = some none)
    (zb_all : PySem.W.nsIn K mainGlobals "all" = some none)
    (zb_bool : PySem.W.nsIn K mainGlobals "bool" = some none)
    (zb_dict : PySem.W.nsIn K mainGlobals "dict" = some none)
    (zb_divmod : PySem.W.nsIn K mainGlobals "divmod" = some none)
    (zb_enumerate : PySem.W.nsIn K mainGlobals "enumerate" = some none)
    (zb_int : PySem.W.nsIn K mainGlobals "int" = some none)
    (zb_isinstance : PySem.W.nsIn K mainGlobals "isinstance" = some none)
    (zb_len : PySem.W.nsIn K mainGlobals "len" = some none)
    (zb_list : PySem.W.nsIn K mainGlobals "list" = some none)
    (zb_max : PySem.W.nsIn K mainGlobals "max" = some none)
    (zb_min : PySem.W.nsIn K mainGlobals "min" = some none)
    (zb_range : PySem.W.nsIn K mainGlobals "range" = some none)
    (zb_repr : PySem.W.nsIn K mainGlobals "repr" = some none)
    (zb_sorted : PySem.W.nsIn K mainGlobals "sorted" = some none)
    (zb_sum : PySem.W.nsIn K mainGlobals "sum" = some none)
    (zb_tuple : PySem.W.nsIn K mainGlobals "tuple" = some none)
    (zb_zip : PySem.W.nsIn K mainGlobals "zip" = some none)
    (zc_0 : PySem.W.nsIn K mainGlobals "MOST_HOUSES" = some (some (.int 4 tc0)))
    (zc_1 : PySem.W.nsIn K mainGlobals "MOST_OUNCES" = some (some (.int 999 tc1)))
    (zc_2 : PySem.W.nsIn K mainGlobals "MOST_SACKS" = some (some (.int 40 tc2)))
    (xa_0 : PySem.W.nsIn K mainGlobals "NoBook" = some (some (.ref ax0)))
    (xb_0 : PySem.W.subIn K (.ref ax0) (.type "BaseException") = some true)
    (xg_0 : PySem.W.findIn K (.ref ax0) "__getattribute__" = some (some (.builtin "BaseException.__getattribute__")))
    (xh_0 : PySem.W.findIn K (.ref ax0) "__getattr__" = some none)
    (xd_0 : PySem.W.hasDictIn K ax0 = true)
    (xc_0 : PySem.W.findIn K (.ref ax0) "__class__" = some (some (.builtin "object.__class__")))
    (xm_0 : PySem.W.mroIn K ax0 (.type "object") = some true)
    (xa_1 : PySem.W.nsIn K mainGlobals "NoDeed" = some (some (.ref ax1)))
    (xb_1 : PySem.W.subIn K (.ref ax1) (.type "BaseException") = some true)
    (xg_1 : PySem.W.findIn K (.ref ax1) "__getattribute__" = some (some (.builtin "BaseException.__getattribute__")))
    (xh_1 : PySem.W.findIn K (.ref ax1) "__getattr__" = some none)
    (xd_1 : PySem.W.hasDictIn K ax1 = true)
    (xc_1 : PySem.W.findIn K (.ref ax1) "__class__" = some (some (.builtin "object.__class__")))
    (xm_1 : PySem.W.mroIn K ax1 (.type "object") = some true)
    (xa_2 : PySem.W.nsIn K mainGlobals "NoHouses" = some (some (.ref ax2)))
    (xb_2 : PySem.W.subIn K (.ref ax2) (.type "BaseException") = some true)
    (xg_2 : PySem.W.findIn K (.ref ax2) "__getattribute__" = some (some (.builtin "BaseException.__getattribute__")))
    (xh_2 : PySem.W.findIn K (.ref ax2) "__getattr__" = some none)
    (xd_2 : PySem.W.hasDictIn K ax2 = true)
    (xc_2 : PySem.W.findIn K (.ref ax2) "__class__" = some (some (.builtin "object.__class__")))
    (xm_2 : PySem.W.mroIn K ax2 (.type "object") = some true)
    (xa_3 : PySem.W.nsIn K mainGlobals "NoMoment" = some (some (.ref ax3)))
    (xb_3 : PySem.W.subIn K (.ref ax3) (.type "BaseException") = some true)
    (xg_3 : PySem.W.findIn K (.ref ax3) "__getattribute__" = some (some (.builtin "BaseException.__getattribute__")))
    (xh_3 : PySem.W.findIn K (.ref ax3) "__getattr__" = some none)
    (xd_3 : PySem.W.hasDictIn K ax3 = true)
    (xc_3 : PySem.W.findIn K (.ref ax3) "__class__" = some (some (.builtin "object.__class__")))
    (xm_3 : PySem.W.mroIn K ax3 (.type "object") = some true)
    (xa_4 : PySem.W.nsIn K mainGlobals "NoNumber" = some (some (.ref ax4)))
    (xb_4 : PySem.W.subIn K (.ref ax4) (.type "BaseException") = some true)
    (xg_4 : PySem.W.findIn K (.ref ax4) "__getattribute__" = some (some (.builtin "BaseException.__getattribute__")))
    (xh_4 : PySem.W.findIn K (.ref ax4) "__getattr__" = some none)
    (xd_4 : PySem.W.hasDictIn K ax4 = true)
    (xc_4 : PySem.W.findIn K (.ref ax4) "__class__" = some (some (.builtin "object.__class__")))
    (xm_4 : PySem.W.mroIn K ax4 (.type "object") = some true)
    (xa_5 : PySem.W.nsIn K mainGlobals "NoRights" = some (some (.ref ax5)))
    (xb_5 : PySem.W.subIn K (.ref ax5) (.type "BaseException") = some true)
    (xg_5 : PySem.W.findIn K (.ref ax5) "__getattribute__" = some (some (.builtin "BaseException.__getattribute__")))
    (xh_5 : PySem.W.findIn K (.ref ax5) "__getattr__" = some none)
    (xd_5 : PySem.W.hasDictIn K ax5 = true)
    (xc_5 : PySem.W.findIn K (.ref ax5) "__class__" = some (some (.builtin "object.__class__")))
    (xm_5 : PySem.W.mroIn K ax5 (.type "object") = some true)
    (xa_6 : PySem.W.nsIn K mainGlobals "NoRule" = some (some (.ref ax6)))
    (xb_6 : PySem.W.subIn K (.ref ax6) (.type "BaseException") = some true)
    (xe_6 : PySem.W.excIn K ax6 [.type "ValueError", .type "Exception", .type "BaseException", .type "object"] "ValueError.__new__" = true)
    (xk_6 : PySem.W.keepIn K (.ref ax6) = true)
    (xt_6 : PySem.W.typeIn K (.ref ax6) = some (.type "type"))
    (xg_6 : PySem.W.findIn K (.ref ax6) "__getattribute__" = some (some (.builtin "BaseException.__getattribute__")))
    (xh_6 : PySem.W.findIn K (.ref ax6) "__getattr__" = some none)
    (xd_6 : PySem.W.hasDictIn K ax6 = true)
    (xc_6 : PySem.W.findIn K (.ref ax6) "__class__" = some (some (.builtin "object.__class__")))
    (xm_6 : PySem.W.mroIn K ax6 (.type "object") = some true)
    (xa_7 : PySem.W.nsIn K mainGlobals "NoSack" = some (some (.ref ax7)))
    (xb_7 : PySem.W.subIn K (.ref ax7) (.type "BaseException") = some true)
    (xe_7 : PySem.W.excIn K ax7 [.type "ValueError", .type "Exception", .type "BaseException", .type "object"] "ValueError.__new__" = true)
    (xk_7 : PySem.W.keepIn K (.ref ax7) = true)
    (xt_7 : PySem.W.typeIn K (.ref ax7) = some (.type "type"))
    (xg_7 : PySem.W.findIn K (.ref ax7) "__getattribute__" = some (some (.builtin "BaseException.__getattribute__")))
    (xh_7 : PySem.W.findIn K (.ref ax7) "__getattr__" = some none)
    (xd_7 : PySem.W.hasDictIn K ax7 = true)
    (xc_7 : PySem.W.findIn K (.ref ax7) "__class__" = some (some (.builtin "object.__class__")))
    (xm_7 : PySem.W.mroIn K ax7 (.type "object") = some true)
    (xa_8 : PySem.W.nsIn K mainGlobals "NoSpeeds" = some (some (.ref ax8)))
    (xb_8 : PySem.W.subIn K (.ref ax8) (.type "BaseException") = some true)
    (xg_8 : PySem.W.findIn K (.ref ax8) "__getattribute__" = some (some (.builtin "BaseException.__getattribute__")))
    (xh_8 : PySem.W.findIn K (.ref ax8) "__getattr__" = some none)
    (xd_8 : PySem.W.hasDictIn K ax8 = true)
    (xc_8 : PySem.W.findIn K (.ref ax8) "__class__" = some (some (.builtin "object.__class__")))
    (xm_8 : PySem.W.mroIn K ax8 (.type "object") = some true)
    (xa_9 : PySem.W.nsIn K mainGlobals "NoText" = some (some (.ref ax9)))
    (xb_9 : PySem.W.subIn K (.ref ax9) (.type "BaseException") = some true)
    (xg_9 : PySem.W.findIn K (.ref ax9) "__getattribute__" = some (some (.builtin "BaseException.__getattribute__")))
    (xh_9 : PySem.W.findIn K (.ref ax9) "__getattr__" = some none)
    (xd_9 : PySem.W.hasDictIn K ax9 = true)
    (xc_9 : PySem.W.findIn K (.ref ax9) "__class__" = some (some (.builtin "object.__class__")))
    (xm_9 : PySem.W.mroIn K ax9 (.type "object") = some true)
    (xa_10 : PySem.W.nsIn K mainGlobals "NoWater" = some (some (.ref ax10)))
    (xb_10 : PySem.W.subIn K (.ref ax10) (.type "BaseException") = some true)
    (xg_10 : PySem.W.findIn K (.ref ax10) "__getattribute__" = some (some (.builtin "BaseException.__getattribute__")))
    (xh_10 : PySem.W.findIn K (.ref ax10) "__getattr__" = some none)
    (xd_10 : PySem.W.hasDictIn K ax10 = true)
    (xc_10 : PySem.W.findIn K (.ref ax10) "__class__" = some (some (.builtin "object.__class__")))
    (xm_10 : PySem.W.mroIn K ax10 (.type "object") = some true)
    (xa_11 : PySem.W.nsIn K mainGlobals "NoWeights" = some (some (.ref ax11)))
    (xb_11 : PySem.W.subIn K (.ref ax11) (.type "BaseException") = some true)
    (xg_11 : PySem.W.findIn K (.ref ax11) "__getattribute__" = some (some (.builtin "BaseException.__getattribute__")))
    (xh_11 : PySem.W.findIn K (.ref ax11) "__getattr__" = some none)
    (xd_11 : PySem.W.hasDictIn K ax11 = true)
    (xc_11 : PySem.W.findIn K (.ref ax11) "__class__" = some (some (.builtin "object.__class__")))
    (xm_11 : PySem.W.mroIn K ax11 (.type "object") = some true)
    (xa_12 : PySem.W.nsIn K mainGlobals "NoWord" = some (some (.ref ax12)))
    (xb_12 : PySem.W.subIn K (.ref ax12) (.type "BaseException") = some true)
    (xg_12 : PySem.W.findIn K (.ref ax12) "__getattribute__" = some (some (.builtin "BaseException.__getattribute__")))
    (xh_12 : PySem.W.findIn K (.ref ax12) "__getattr__" = some none)
    (xd_12 : PySem.W.hasDictIn K ax12 = true)
    (xc_12 : PySem.W.findIn K (.ref ax12) "__class__" = some (some (.builtin "object.__class__")))
    (xm_12 : PySem.W.mroIn K ax12 (.type "object") = some true)
    (xa_13 : PySem.W.nsIn K mainGlobals "TooMany" = some (some (.ref ax13)))
    (xb_13 : PySem.W.subIn K (.ref ax13) (.type "BaseException") = some true)
    (xg_13 : PySem.W.findIn K (.ref ax13) "__getattribute__" = some (some (.builtin "BaseException.__getattribute__")))
    (xh_13 : PySem.W.findIn K (.ref ax13) "__getattr__" = some none)
    (xd_13 : PySem.W.hasDictIn K ax13 = true)
    (xc_13 : PySem.W.findIn K (.ref ax13) "__class__" = some (some (.builtin "object.__class__")))
    (xm_13 : PySem.W.mroIn K ax13 (.type "object") = some true)
    (xa_14 : PySem.W.nsIn K mainGlobals "TooMuch" = some (some (.ref ax14)))
    (xb_14 : PySem.W.subIn K (.ref ax14) (.type "BaseException") = some true)
    (xe_14 : PySem.W.excIn K ax14 [.type "ValueError", .type "Exception", .type "BaseException", .type "object"] "ValueError.__new__" = true)
    (xk_14 : PySem.W.keepIn K (.ref ax14) = true)
    (xt_14 : PySem.W.typeIn K (.ref ax14) = some (.type "type"))
    (xg_14 : PySem.W.findIn K (.ref ax14) "__getattribute__" = some (some (.builtin "BaseException.__getattribute__")))
    (xh_14 : PySem.W.findIn K (.ref ax14) "__getattr__" = some none)
    (xd_14 : PySem.W.hasDictIn K ax14 = true)
    (xc_14 : PySem.W.findIn K (.ref ax14) "__class__" = some (some (.builtin "object.__class__")))
    (xm_14 : PySem.W.mroIn K ax14 (.type "object") = some true)
    (da_0 : PySem.W.nsIn K mainGlobals "_law_said" = some (some (.ref fa0)))
    (dl_0 : K.lookup fa0 = some ⟨oc0, od0, .func (PySem.W.fnOf "_law_said" "_law_said" (defArgs st_l_said) (defBody st_l_said) (defScope st_l_said) .none kv0 dc0 pm0 an0 cd0 ct0), sl0⟩)
    (dc_0 : PySem.W.codeIn K cd0 "_law_said" = true)
    (dk_0 : PySem.W.keepIn K (.ref fa0) = true)
    (da_1 : PySem.W.nsIn K mainGlobals "_law_word" = some (some (.ref fa1)))
    (dl_1 : K.lookup fa1 = some ⟨oc1, od1, .func (PySem.W.fnOf "_law_word" "_law_word" (defArgs st_l_word) (defBody st_l_word) (defScope st_l_word) .none kv1 dc1 pm1 an1 cd1 ct1), sl1⟩)
    (dc_1 : PySem.W.codeIn K cd1 "_law_word" = true)
    (dk_1 : PySem.W.keepIn K (.ref fa1) = true)
    (da_2 : PySem.W.nsIn K mainGlobals "is_whole" = some (some (.ref fa2)))
    (dl_2 : K.lookup fa2 = some ⟨oc2, od2, .func (PySem.W.fnOf "is_whole" "is_whole" (defArgs st_is_whole) (defBody st_is_whole) (defScope st_is_whole) .none kv2 dc2 pm2 an2 cd2 ct2), sl2⟩)
    (dc_2 : PySem.W.codeIn K cd2 "is_whole" = true)
    (dk_2 : PySem.W.keepIn K (.ref fa2) = true)
    (da_3 : PySem.W.nsIn K mainGlobals "is_from_to" = some (some (.ref fa3)))
    (dl_3 : K.lookup fa3 = some ⟨oc3, od3, .func (PySem.W.fnOf "is_from_to" "is_from_to" (defArgs st_is_from_to) (defBody st_is_from_to) (defScope st_is_from_to) .none kv3 dc3 pm3 an3 cd3 ct3), sl3⟩)
    (dc_3 : PySem.W.codeIn K cd3 "is_from_to" = true)
    (dk_3 : PySem.W.keepIn K (.ref fa3) = true)
    (da_4 : PySem.W.nsIn K mainGlobals "are_houses" = some (some (.ref fa4)))
    (dl_4 : K.lookup fa4 = some ⟨oc4, od4, .func (PySem.W.fnOf "are_houses" "are_houses" (defArgs st_are_houses) (defBody st_are_houses) (defScope st_are_houses) .none kv4 dc4 pm4 an4 cd4 ct4), sl4⟩)
    (dc_4 : PySem.W.codeIn K cd4 "are_houses" = true)
    (dk_4 : PySem.W.keepIn K (.ref fa4) = true)
    (da_5 : PySem.W.nsIn K mainGlobals "is_sack" = some (some (.ref fa5)))
    (dl_5 : K.lookup fa5 = some ⟨oc5, od5, .func (PySem.W.fnOf "is_sack" "is_sack" (defArgs st_is_sack) (defBody st_is_sack) (defScope st_is_sack) .none kv5 dc5 pm5 an5 cd5 ct5), sl5⟩)
    (dc_5 : PySem.W.codeIn K cd5 "is_sack" = true)
    (dk_5 : PySem.W.keepIn K (.ref fa5) = true)
    (da_6 : PySem.W.nsIn K mainGlobals "mixed_in" = some (some (.ref fa6)))
    (dl_6 : K.lookup fa6 = some ⟨oc6, od6, .func (PySem.W.fnOf "mixed_in" "mixed_in" (defArgs st_mixed_in) (defBody st_mixed_in) (defScope st_mixed_in) .none kv6 dc6 pm6 an6 cd6 ct6), sl6⟩)
    (dc_6 : PySem.W.codeIn K cd6 "mixed_in" = true)
    (dk_6 : PySem.W.keepIn K (.ref fa6) = true)
    (da_7 : PySem.W.nsIn K mainGlobals "need_sack" = some (some (.ref fa7)))
    (dl_7 : K.lookup fa7 = some ⟨oc7, od7, .func (PySem.W.fnOf "need_sack" "need_sack" (defArgs st_need_sack) (defBody st_need_sack) (defScope st_need_sack) .none kv7 dc7 pm7 an7 cd7 ct7), sl7⟩)
    (dc_7 : PySem.W.codeIn K cd7 "need_sack" = true)
    (dk_7 : PySem.W.keepIn K (.ref fa7) = true)
    (da_8 : PySem.W.nsIn K mainGlobals "mixed" = some (some (.ref fa8)))
    (dl_8 : K.lookup fa8 = some ⟨oc8, od8, .func (PySem.W.fnOf "mixed" "mixed" (defArgs st_mixed) (defBody st_mixed) (defScope st_mixed) .none kv8 dc8 pm8 an8 cd8 ct8), sl8⟩)
    (dc_8 : PySem.W.codeIn K cd8 "mixed" = true)
    (dk_8 : PySem.W.keepIn K (.ref fa8) = true)
    (da_9 : PySem.W.nsIn K mainGlobals "giving" = some (some (.ref fa9)))
    (dl_9 : K.lookup fa9 = some ⟨oc9, od9, .func (PySem.W.fnOf "giving" "giving" (defArgs st_giving) (defBody st_giving) (defScope st_giving) .none kv9 dc9 pm9 an9 cd9 ct9), sl9⟩)
    (dc_9 : PySem.W.codeIn K cd9 "giving" = true)
    (dk_9 : PySem.W.keepIn K (.ref fa9) = true)
    (da_10 : PySem.W.nsIn K mainGlobals "dish_in" = some (some (.ref fa10)))
    (dl_10 : K.lookup fa10 = some ⟨oc10, od10, .func (PySem.W.fnOf "dish_in" "dish_in" (defArgs st_dish_in) (defBody st_dish_in) (defScope st_dish_in) .none kv10 dc10 pm10 an10 cd10 ct10), sl10⟩)
    (dc_10 : PySem.W.codeIn K cd10 "dish_in" = true)
    (dk_10 : PySem.W.keepIn K (.ref fa10) = true)
    (da_11 : PySem.W.nsIn K mainGlobals "is_rule" = some (some (.ref fa11)))
    (dl_11 : K.lookup fa11 = some ⟨oc11, od11, .func (PySem.W.fnOf "is_rule" "is_rule" (defArgs st_is_rule) (defBody st_is_rule) (defScope st_is_rule) .none kv11 dc11 pm11 an11 cd11 ct11), sl11⟩)
    (dc_11 : PySem.W.codeIn K cd11 "is_rule" = true)
    (dk_11 : PySem.W.keepIn K (.ref fa11) = true)
    (da_12 : PySem.W.nsIn K mainGlobals "need_rule" = some (some (.ref fa12)))
    (dl_12 : K.lookup fa12 = some ⟨oc12, od12, .func (PySem.W.fnOf "need_rule" "need_rule" (defArgs st_need_rule) (defBody st_need_rule) (defScope st_need_rule) .none kv12 dc12 pm12 an12 cd12 ct12), sl12⟩)
    (dc_12 : PySem.W.codeIn K cd12 "need_rule" = true)
    (dk_12 : PySem.W.keepIn K (.ref fa12) = true)
    (da_13 : PySem.W.nsIn K mainGlobals "more_by_mixing" = some (some (.ref fa13)))
    (dl_13 : K.lookup fa13 = some ⟨oc13, od13, .func (PySem.W.fnOf "more_by_mixing" "more_by_mixing" (defArgs st_more_by_mixing) (defBody st_more_by_mixing) (defScope st_more_by_mixing) .none kv13 dc13 pm13 an13 cd13 ct13), sl13⟩)
    (dc_13 : PySem.W.codeIn K cd13 "more_by_mixing" = true)
    (dk_13 : PySem.W.keepIn K (.ref fa13) = true)
    (da_14 : PySem.W.nsIn K mainGlobals "shared_in" = some (some (.ref fa14)))
    (dl_14 : K.lookup fa14 = some ⟨oc14, od14, .func (PySem.W.fnOf "shared_in" "shared_in" (defArgs st_shared_in) (defBody st_shared_in) (defScope st_shared_in) .none kv14 dc14 pm14 an14 cd14 ct14), sl14⟩)
    (dc_14 : PySem.W.codeIn K cd14 "shared_in" = true)
    (dk_14 : PySem.W.keepIn K (.ref fa14) = true)
    (da_15 : PySem.W.nsIn K mainGlobals "grain_in" = some (some (.ref fa15)))
    (dl_15 : K.lookup fa15 = some ⟨oc15, od15, .func (PySem.W.fnOf "grain_in" "grain_in" (defArgs st_grain_in) (defBody st_grain_in) (defScope st_grain_in) .none kv15 dc15 pm15 an15 cd15 ct15), sl15⟩)
    (dc_15 : PySem.W.codeIn K cd15 "grain_in" = true)
    (dk_15 : PySem.W.keepIn K (.ref fa15) = true)
    (da_16 : PySem.W.nsIn K mainGlobals "parts_in" = some (some (.ref fa16)))
    (dl_16 : K.lookup fa16 = some ⟨oc16, od16, .func (PySem.W.fnOf "parts_in" "parts_in" (defArgs st_parts_in) (defBody st_parts_in) (defScope st_parts_in) .none kv16 dc16 pm16 an16 cd16 ct16), sl16⟩)
    (dc_16 : PySem.W.codeIn K cd16 "parts_in" = true)
    (dk_16 : PySem.W.keepIn K (.ref fa16) = true)
    (da_17 : PySem.W.nsIn K mainGlobals "rows_in" = some (some (.ref fa17)))
    (dl_17 : K.lookup fa17 = some ⟨oc17, od17, .func (PySem.W.fnOf "rows_in" "rows_in" (defArgs st_rows_in) (defBody st_rows_in) (defScope st_rows_in) .none kv17 dc17 pm17 an17 cd17 ct17), sl17⟩)
    (dc_17 : PySem.W.codeIn K cd17 "rows_in" = true)
    (dk_17 : PySem.W.keepIn K (.ref fa17) = true)
    (da_18 : PySem.W.nsIn K mainGlobals "account" = some (some (.ref fa18)))
    (dl_18 : K.lookup fa18 = some ⟨oc18, od18, .func (PySem.W.fnOf "account" "account" (defArgs st_account) (defBody st_account) (defScope st_account) .none kv18 dc18 pm18 an18 cd18 ct18), sl18⟩)
    (dc_18 : PySem.W.codeIn K cd18 "account" = true)
    (dk_18 : PySem.W.keepIn K (.ref fa18) = true)
    (da_19 : PySem.W.nsIn K mainGlobals "by_house" = some (some (.ref fa19)))
    (dl_19 : K.lookup fa19 = some ⟨oc19, od19, .func (PySem.W.fnOf "by_house" "by_house" (defArgs st_by_house) (defBody st_by_house) (defScope st_by_house) .none kv19 dc19 pm19 an19 cd19 ct19), sl19⟩)
    (dc_19 : PySem.W.codeIn K cd19 "by_house" = true)
    (dk_19 : PySem.W.keepIn K (.ref fa19) = true)
    (da_20 : PySem.W.nsIn K mainGlobals "grain_of" = some (some (.ref fa20)))
    (dl_20 : K.lookup fa20 = some ⟨oc20, od20, .func (PySem.W.fnOf "grain_of" "grain_of" (defArgs st_grain_of) (defBody st_grain_of) (defScope st_grain_of) .none kv20 dc20 pm20 an20 cd20 ct20), sl20⟩)
    (dc_20 : PySem.W.codeIn K cd20 "grain_of" = true)
    (dk_20 : PySem.W.keepIn K (.ref fa20) = true)
    (da_21 : PySem.W.nsIn K mainGlobals "_law_added" = some (some (.ref fa21)))
    (dl_21 : K.lookup fa21 = some ⟨oc21, od21, .func (PySem.W.fnOf "_law_added" "_law_added" (defArgs st_l_added) (defBody st_l_added) (defScope st_l_added) .none kv21 dc21 pm21 an21 cd21 ct21), sl21⟩)
    (dc_21 : PySem.W.codeIn K cd21 "_law_added" = true)
    (dk_21 : PySem.W.keepIn K (.ref fa21) = true)
    (da_22 : PySem.W.nsIn K mainGlobals "_law_take" = some (some (.ref fa22)))
    (dl_22 : K.lookup fa22 = some ⟨oc22, od22, .func (PySem.W.fnOf "_law_take" "_law_take" (defArgs st_l_take) (defBody st_l_take) (defScope st_l_take) .none kv22 dc22 pm22 an22 cd22 ct22), sl22⟩)
    (dc_22 : PySem.W.codeIn K cd22 "_law_take" = true)
    (dk_22 : PySem.W.keepIn K (.ref fa22) = true)
    (da_23 : PySem.W.nsIn K mainGlobals "_law_ounces" = some (some (.ref fa23)))
    (dl_23 : K.lookup fa23 = some ⟨oc23, od23, .func (PySem.W.fnOf "_law_ounces" "_law_ounces" (defArgs st_l_ounces) (defBody st_l_ounces) (defScope st_l_ounces) .none kv23 dc23 pm23 an23 cd23 ct23), sl23⟩)
    (dc_23 : PySem.W.codeIn K cd23 "_law_ounces" = true)
    (dk_23 : PySem.W.keepIn K (.ref fa23) = true)
    (da_24 : PySem.W.nsIn K mainGlobals "_law_sack" = some (some (.ref fa24)))
    (dl_24 : K.lookup fa24 = some ⟨oc24, od24, .func (PySem.W.fnOf "_law_sack" "_law_sack" (defArgs st_l_sack) (defBody st_l_sack) (defScope st_l_sack) .none kv24 dc24 pm24 an24 cd24 ct24), sl24⟩)
    (dc_24 : PySem.W.codeIn K cd24 "_law_sack" = true)
    (dk_24 : PySem.W.keepIn K (.ref fa24) = true)
    (da_25 : PySem.W.nsIn K mainGlobals "_law_some_houses" = some (some (.ref fa25)))
    (dl_25 : K.lookup fa25 = some ⟨oc25, od25, .func (PySem.W.fnOf "_law_some_houses" "_law_some_houses" (defArgs st_l_some_houses) (defBody st_l_some_houses) (defScope st_l_some_houses) .none kv25 dc25 pm25 an25 cd25 ct25), sl25⟩)
    (dc_25 : PySem.W.codeIn K cd25 "_law_some_houses" = true)
    (dk_25 : PySem.W.keepIn K (.ref fa25) = true)
    (da_26 : PySem.W.nsIn K mainGlobals "_law_rule" = some (some (.ref fa26)))
    (dl_26 : K.lookup fa26 = some ⟨oc26, od26, .func (PySem.W.fnOf "_law_rule" "_law_rule" (defArgs st_l_rule) (defBody st_l_rule) (defScope st_l_rule) .none kv26 dc26 pm26 an26 cd26 ct26), sl26⟩)
    (dc_26 : PySem.W.codeIn K cd26 "_law_rule" = true)
    (dk_26 : PySem.W.keepIn K (.ref fa26) = true)
    (da_27 : PySem.W.nsIn K mainGlobals "_law_box" = some (some (.ref fa27)))
    (dl_27 : K.lookup fa27 = some ⟨oc27, od27, .func (PySem.W.fnOf "_law_box" "_law_box" (defArgs st_l_box) (defBody st_l_box) (defScope st_l_box) .none kv27 dc27 pm27 an27 cd27 ct27), sl27⟩)
    (dc_27 : PySem.W.codeIn K cd27 "_law_box" = true)
    (dk_27 : PySem.W.keepIn K (.ref fa27) = true)
    (da_28 : PySem.W.nsIn K mainGlobals "law" = some (some (.ref fa28)))
    (dl_28 : K.lookup fa28 = some ⟨oc28, od28, .func (PySem.W.fnOf "law" "law" (defArgs st_law) (defBody st_law) (defScope st_law) .none kv28 dc28 pm28 an28 (.ref c0) ct28), sl28⟩)
    (dc_28 : PySem.W.codeIn K (.ref c0) "law" = true)
    (dk_28 : PySem.W.keepIn K (.ref fa28) = true)
    (zm : PySem.W.nsIn K mainGlobals "MillError" = some (some (.ref bm)))
    (zo : PySem.W.specialIn K (.builtin "object.__class__") "__get__" = some (some (.builtin "getset_descriptor.__get__")))
    (zp : PySem.W.takesIn K (.builtin "object.__class__") = some true)
    (zq : errB K [ax6, ax7, ax5, ax8, ax10, ax3, ax0, ax4, ax11, ax2, ax1, ax9, ax12, ax14, ax13] bm = true)
    (y0 : K.lookup c0 = some ⟨.type "code", od, .fields vs, sl⟩)
    (y1 : vs[11]? = some (.ref p0))
    (y2 : vs.getD 18 .none = .str f0 tf)
    (y3 : vs.getD 7 .none = .int fl tg)
    (y4 : vs.getD 9 .none = .bool b0)
    (y5 : vs.getD 10 .none = .int n0 tt)
    (y6 : c0 ≠ p0)
    (y7 : K.lookup p0 = none)
    (y8 : h.get? p0 = some { cls := .none, data := .fields #[] }) : ∃ c0 p0 : Addr, Txt K mg ∧ DefL K mg "law" st_law ps_law c0 ∧ PySem.W.CodeHd h c0 p0 ∧ K.lookup p0 = none ∧ (h.get? p0 = some { cls := .none, data := .fields #[] }) :=
  ⟨c0, p0, ⟨PySem.W.mg_none_of kx g zb_ValueError,
   PySem.W.mg_none_of kx g zb_abs,
   PySem.W.mg_none_of kx g zb_all,
   PySem.W.mg_none_of kx g zb_bool,
   PySem.W.mg_none_of kx g zb_dict,
   PySem.W.mg_none_of kx g zb_divmod,
   PySem.W.mg_none_of kx g zb_enumerate,
   PySem.W.mg_none_of kx g zb_int,
   PySem.W.mg_none_of kx g zb_isinstance,
   PySem.W.mg_none_of kx g zb_len,
   PySem.W.mg_none_of kx g zb_list,
   PySem.W.mg_none_of kx g zb_max,
   PySem.W.mg_none_of kx g zb_min,
   PySem.W.mg_none_of kx g zb_range,
   PySem.W.mg_none_of kx g zb_repr,
   PySem.W.mg_none_of kx g zb_sorted,
   PySem.W.mg_none_of kx g zb_sum,
   PySem.W.mg_none_of kx g zb_tuple,
   PySem.W.mg_none_of kx g zb_zip,
   ⟨_, PySem.W.mg_of kx g zc_0, ⟨_, rfl⟩⟩,
   ⟨_, PySem.W.mg_of kx g zc_1, ⟨_, rfl⟩⟩,
   ⟨_, PySem.W.mg_of kx g zc_2, ⟨_, rfl⟩⟩,
   excK kx g xa_6 xe_6 xk_6 xb_6 xt_6,
   excK kx g xa_7 xe_7 xk_7 xb_7 xt_7,
   excK kx g xa_14 xe_14 xk_14 xb_14 xt_14,
   defK kx g da_0 dl_0 dc_0 dk_0 (fun _ _ _ _ _ _ us hl => match us, hl with | [_], _ => rfl),
   defK kx g da_1 dl_1 dc_1 dk_1 (fun _ _ _ _ _ _ us hl => match us, hl with | [_], _ => rfl),
   defK kx g da_2 dl_2 dc_2 dk_2 (fun _ _ _ _ _ _ us hl => match us, hl with | [_], _ => rfl),
   defK kx g da_3 dl_3 dc_3 dk_3 (fun _ _ _ _ _ _ us hl => match us, hl with | [_, _, _], _ => rfl),
   defK kx g da_4 dl_4 dc_4 dk_4 (fun _ _ _ _ _ _ us hl => match us, hl with | [_], _ => rfl),
   defK kx g da_5 dl_5 dc_5 dk_5 (fun _ _ _ _ _ _ us hl => match us, hl with | [_], _ => rfl),
   defK kx g da_6 dl_6 dc_6 dk_6 (fun _ _ _ _ _ _ us hl => match us, hl with | [_, _], _ => rfl),
   defK kx g da_7 dl_7 dc_7 dk_7 (fun _ _ _ _ _ _ us hl => match us, hl with | [_], _ => rfl),
   defK kx g da_8 dl_8 dc_8 dk_8 (fun _ _ _ _ _ _ us hl => match us, hl with | [_, _], _ => rfl),
   defK kx g da_9 dl_9 dc_9 dk_9 (fun _ _ _ _ _ _ us hl => match us, hl with | [_, _], _ => rfl),
   defK kx g da_10 dl_10 dc_10 dk_10 (fun _ _ _ _ _ _ us hl => match us, hl with | [_, _], _ => rfl),
   defK kx g da_11 dl_11 dc_11 dk_11 (fun _ _ _ _ _ _ us hl => match us, hl with | [_], _ => rfl),
   defK kx g da_12 dl_12 dc_12 dk_12 (fun _ _ _ _ _ _ us hl => match us, hl with | [_], _ => rfl),
   defK kx g da_13 dl_13 dc_13 dk_13 (fun _ _ _ _ _ _ us hl => match us, hl with | [_, _, _], _ => rfl),
   defK kx g da_14 dl_14 dc_14 dk_14 (fun _ _ _ _ _ _ us hl => match us, hl with | [_, _], _ => rfl),
   defK kx g da_15 dl_15 dc_15 dk_15 (fun _ _ _ _ _ _ us hl => match us, hl with | [_], _ => rfl),
   defK kx g da_16 dl_16 dc_16 dk_16 (fun _ _ _ _ _ _ us hl => match us, hl with | [_, _], _ => rfl),
   defK kx g da_17 dl_17 dc_17 dk_17 (fun _ _ _ _ _ _ us hl => match us, hl with | [_, _], _ => rfl),
   defK kx g da_18 dl_18 dc_18 dk_18 (fun _ _ _ _ _ _ us hl => match us, hl with | [_, _], _ => rfl),
   defK kx g da_19 dl_19 dc_19 dk_19 (fun _ _ _ _ _ _ us hl => match us, hl with | [_, _], _ => rfl),
   defK kx g da_20 dl_20 dc_20 dk_20 (fun _ _ _ _ _ _ us hl => match us, hl with | [_], _ => rfl),
   defK kx g da_21 dl_21 dc_21 dk_21 (fun _ _ _ _ _ _ us hl => match us, hl with | [_, _], _ => rfl),
   defK kx g da_22 dl_22 dc_22 dk_22 (fun _ _ _ _ _ _ us hl => match us, hl with | [_, _], _ => rfl),
   defK kx g da_23 dl_23 dc_23 dk_23 (fun _ _ _ _ _ _ us hl => match us, hl with | [_, _], _ => rfl),
   defK kx g da_24 dl_24 dc_24 dk_24 (fun _ _ _ _ _ _ us hl => match us, hl with | [_, _], _ => rfl),
   defK kx g da_25 dl_25 dc_25 dk_25 (fun _ _ _ _ _ _ us hl => match us, hl with | [_, _], _ => rfl),
   defK kx g da_26 dl_26 dc_26 dk_26 (fun _ _ _ _ _ _ us hl => match us, hl with | [_], _ => rfl),
   defK kx g da_27 dl_27 dc_27 dk_27 (fun _ _ _ _ _ _ us hl => match us, hl with | [_, _], _ => rfl),
   (defL kx g da_28 dl_28 dc_28 dk_28 (fun _ _ _ _ _ _ us hl => match us, hl with | [_], _ => rfl)).k,
   saidK (defK kx g da_0 dl_0 dc_0 dk_0 (fun _ _ _ _ _ _ us hl => match us, hl with | [_], _ => rfl)) sc_l_said (by decide +kernel) (by decide +kernel) (by decide +kernel) (by decide +kernel) (by decide +kernel) ⟨_, _, _, _, _, _, _, _, _, _, _, _, rfl⟩,
   errK_of (As := [ax6, ax7, ax5, ax8, ax10, ax3, ax0, ax4, ax11, ax2, ax1, ax9, ax12, ax14, ax13]) (PySem.W.mg_of kx g zm) (all15 ⟨_, rfl, PySem.W.mg_of kx g xa_6, excC_of xg_6 xh_6 xb_6 xd_6 xc_6 zo zp xm_6⟩ ⟨_, rfl, PySem.W.mg_of kx g xa_7, excC_of xg_7 xh_7 xb_7 xd_7 xc_7 zo zp xm_7⟩ ⟨_, rfl, PySem.W.mg_of kx g xa_5, excC_of xg_5 xh_5 xb_5 xd_5 xc_5 zo zp xm_5⟩ ⟨_, rfl, PySem.W.mg_of kx g xa_8, excC_of xg_8 xh_8 xb_8 xd_8 xc_8 zo zp xm_8⟩ ⟨_, rfl, PySem.W.mg_of kx g xa_10, excC_of xg_10 xh_10 xb_10 xd_10 xc_10 zo zp xm_10⟩ ⟨_, rfl, PySem.W.mg_of kx g xa_3, excC_of xg_3 xh_3 xb_3 xd_3 xc_3 zo zp xm_3⟩ ⟨_, rfl, PySem.W.mg_of kx g xa_0, excC_of xg_0 xh_0 xb_0 xd_0 xc_0 zo zp xm_0⟩ ⟨_, rfl, PySem.W.mg_of kx g xa_4, excC_of xg_4 xh_4 xb_4 xd_4 xc_4 zo zp xm_4⟩ ⟨_, rfl, PySem.W.mg_of kx g xa_11, excC_of xg_11 xh_11 xb_11 xd_11 xc_11 zo zp xm_11⟩ ⟨_, rfl, PySem.W.mg_of kx g xa_2, excC_of xg_2 xh_2 xb_2 xd_2 xc_2 zo zp xm_2⟩ ⟨_, rfl, PySem.W.mg_of kx g xa_1, excC_of xg_1 xh_1 xb_1 xd_1 xc_1 zo zp xm_1⟩ ⟨_, rfl, PySem.W.mg_of kx g xa_9, excC_of xg_9 xh_9 xb_9 xd_9 xc_9 zo zp xm_9⟩ ⟨_, rfl, PySem.W.mg_of kx g xa_12, excC_of xg_12 xh_12 xb_12 xd_12 xc_12 zo zp xm_12⟩ ⟨_, rfl, PySem.W.mg_of kx g xa_14, excC_of xg_14 xh_14 xb_14 xd_14 xc_14 zo zp xm_14⟩ ⟨_, rfl, PySem.W.mg_of kx g xa_13, excC_of xg_13 xh_13 xb_13 xd_13 xc_13 zo zp xm_13⟩) zq⟩, defL kx g da_28 dl_28 dc_28 dk_28 (fun _ _ _ _ _ _ us hl => match us, hl with | [_], _ => rfl), codeHd_mk kx y0 y1 y2 y3 y4 y5 y6, y7, y8⟩
end Z

open PySem PySem.W PyProof.Rows in
set_option maxRecDepth 100000 in
set_option maxHeartbeats 0 in
theorem PySem.Challenge.cw_grindturns_k33_whole_accounts_add_up_holds : PySem.Challenge.rw_grindturns_k33_whole_accounts_add_up.Holds := by
  w_on; o_law; k_head; (case hw => w_witness2)
  k_fill
  refine Z.walkZ (l := PySem.Challenge.rw_grindturns_k33_whole_accounts_add_up) (k := 9) (ml := Z.m_law) (by decide +kernel) rfl (by decide) rfl ⟨rfl, by decide, by decide⟩ (fun w h Y => PySem.W.km_in_of Y) ?F Z.law_true
  case F =>
    intro w mg h Y KX G
    have tx := by
      refine' Z.mkTxt (h := h) KX G ?zb_ValueError ?zb_abs ?zb_all ?zb_bool ?zb_dict ?zb_divmod ?zb_enumerate ?zb_int ?zb_isinstance ?zb_len ?zb_list ?zb_max ?zb_min ?zb_range ?zb_repr ?zb_sorted ?zb_sum ?zb_tuple ?zb_zip ?zc_0 ?zc_1 ?zc_2 ?xa_0 ?xb_0 ?xg_0 ?xh_0 ?xd_0 ?xc_0 ?xm_0 ?xa_1 ?xb_1 ?xg_1 ?xh_1 ?xd_1 ?xc_1 ?xm_1 ?xa_2 ?xb_2 ?xg_2 ?xh_2 ?xd_2 ?xc_2 ?xm_2 ?xa_3 ?xb_3 ?xg_3 ?xh_3 ?xd_3 ?xc_3 ?xm_3 ?xa_4 ?xb_4 ?xg_4 ?xh_4 ?xd_4 ?xc_4 ?xm_4 ?xa_5 ?xb_5 ?xg_5 ?xh_5 ?xd_5 ?xc_5 ?xm_5 ?xa_6 ?xb_6 ?xe_6 ?xk_6 ?xt_6 ?xg_6 ?xh_6 ?xd_6 ?xc_6 ?xm_6 ?xa_7 ?xb_7 ?xe_7 ?xk_7 ?xt_7 ?xg_7 ?xh_7 ?xd_7 ?xc_7 ?xm_7 ?xa_8 ?xb_8 ?xg_8 ?xh_8 ?xd_8 ?xc_8 ?xm_8 ?xa_9 ?xb_9 ?xg_9 ?xh_9 ?xd_9 ?xc_9 ?xm_9 ?xa_10 ?xb_10 ?xg_10 ?xh_10 ?xd_10 ?xc_10 ?xm_10 ?xa_11 ?xb_11 ?xg_11 ?xh_11 ?xd_11 ?xc_11 ?xm_11 ?xa_12 ?xb_12 ?xg_12 ?xh_12 ?xd_12 ?xc_12 ?xm_12 ?xa_13 ?xb_13 ?xg_13 ?xh_13 ?xd_13 ?xc_13 ?xm_13 ?xa_14 ?xb_14 ?xe_14 ?xk_14 ?xt_14 ?xg_14 ?xh_14 ?xd_14 ?xc_14 ?xm_14 ?da_0 ?dl_0 ?dc_0 ?dk_0 ?da_1 ?dl_1 ?dc_1 ?dk_1 ?da_2 ?dl_2 ?dc_2 ?dk_2 ?da_3 ?dl_3 ?dc_3 ?dk_3 ?da_4 ?dl_4 ?dc_4 ?dk_4 ?da_5 ?dl_5 ?dc_5 ?dk_5 ?da_6 ?dl_6 ?dc_6 ?dk_6 ?da_7 ?dl_7 ?dc_7 ?dk_7 ?da_8 ?dl_8 ?dc_8 ?dk_8 ?da_9 ?dl_9 ?dc_9 ?dk_9 ?da_10 ?dl_10 ?dc_10 ?dk_10 ?da_11 ?dl_11 ?dc_11 ?dk_11 ?da_12 ?dl_12 ?dc_12 ?dk_12 ?da_13 ?dl_13 ?dc_13 ?dk_13 ?da_14 ?dl_14 ?dc_14 ?dk_14 ?da_15 ?dl_15 ?dc_15 ?dk_15 ?da_16 ?dl_16 ?dc_16 ?dk_16 ?da_17 ?dl_17 ?dc_17 ?dk_17 ?da_18 ?dl_18 ?dc_18 ?dk_18 ?da_19 ?dl_19 ?dc_19 ?dk_19 ?da_20 ?dl_20 ?dc_20 ?dk_20 ?da_21 ?dl_21 ?dc_21 ?dk_21 ?da_22 ?dl_22 ?dc_22 ?dk_22 ?da_23 ?dl_23 ?dc_23 ?dk_23 ?da_24 ?dl_24 ?dc_24 ?dk_24 ?da_25 ?dl_25 ?dc_25 ?dk_25 ?da_26 ?dl_26 ?dc_26 ?dk_26 ?da_27 ?dl_27 ?dc_27 ?dk_27 ?da_28 ?dl_28 ?dc_28 ?dk_28 ?zm ?zo ?zp ?zq ?y0 ?y1 ?y2 ?y3 ?y4 ?y5 ?y6 ?y7 ?y8
      (case zb_ValueError => k_is)
      (case zb_abs => k_is)
      (case zb_all => k_is)
      (case zb_bool => k_is)
      (case zb_dict => k_is)
      (case zb_divmod => k_is)
      (case zb_enumerate => k_is)
      (case zb_int => k_is)
      (case zb_isinstance => k_is)
      (case zb_len => k_is)
      (case zb_list => k_is)
      (case zb_max => k_is)
      (case zb_min => k_is)
      (case zb_range => k_is)
      (case zb_repr => k_is)
      (case zb_sorted => k_is)
      (case zb_sum => k_is)
      (case zb_tuple => k_is)
      (case zb_zip => k_is)
      (case zc_0 => k_is)
      (case zc_1 => k_is)
      (case zc_2 => k_is)
      (case xa_0 => k_is)
      (case xb_0 => k_is)
      (case xg_0 => k_is)
      (case xh_0 => k_is)
      (case xd_0 => k_is)
      (case xc_0 => k_is)
      (case xm_0 => k_is)
      (case xa_1 => k_is)
      (case xb_1 => k_is)
      (case xg_1 => k_is)
      (case xh_1 => k_is)
      (case xd_1 => k_is)
      (case xc_1 => k_is)
      (case xm_1 => k_is)
      (case xa_2 => k_is)
      (case xb_2 => k_is)
      (case xg_2 => k_is)
      (case xh_2 => k_is)
      (case xd_2 => k_is)
      (case xc_2 => k_is)
      (case xm_2 => k_is)
      (case xa_3 => k_is)
      (case xb_3 => k_is)
      (case xg_3 => k_is)
      (case xh_3 => k_is)
      (case xd_3 => k_is)
      (case xc_3 => k_is)
      (case xm_3 => k_is)
      (case xa_4 => k_is)
      (case xb_4 => k_is)
      (case xg_4 => k_is)
      (case xh_4 => k_is)
      (case xd_4 => k_is)
      (case xc_4 => k_is)
      (case xm_4 => k_is)
      (case xa_5 => k_is)
      (case xb_5 => k_is)
      (case xg_5 => k_is)
      (case xh_5 => k_is)
      (case xd_5 => k_is)
      (case xc_5 => k_is)
      (case xm_5 => k_is)
      (case xa_6 => k_is)
      (case xb_6 => k_is)
      (case xe_6 => k_exc)
      (case xk_6 => k_is)
      (case xt_6 => k_is)
      (case xg_6 => k_is)
      (case xh_6 => k_is)
      (case xd_6 => k_is)
      (case xc_6 => k_is)
      (case xm_6 => k_is)
      (case xa_7 => k_is)
      (case xb_7 => k_is)
      (case xe_7 => k_exc)
      (case xk_7 => k_is)
      (case xt_7 => k_is)
      (case xg_7 => k_is)
      (case xh_7 => k_is)
      (case xd_7 => k_is)
      (case xc_7 => k_is)
      (case xm_7 => k_is)
      (case xa_8 => k_is)
      (case xb_8 => k_is)
      (case xg_8 => k_is)
      (case xh_8 => k_is)
      (case xd_8 => k_is)
      (case xc_8 => k_is)
      (case xm_8 => k_is)
      (case xa_9 => k_is)
      (case xb_9 => k_is)
      (case xg_9 => k_is)
      (case xh_9 => k_is)
      (case xd_9 => k_is)
      (case xc_9 => k_is)
      (case xm_9 => k_is)
      (case xa_10 => k_is)
      (case xb_10 => k_is)
      (case xg_10 => k_is)
      (case xh_10 => k_is)
      (case xd_10 => k_is)
      (case xc_10 => k_is)
      (case xm_10 => k_is)
      (case xa_11 => k_is)
      (case xb_11 => k_is)
      (case xg_11 => k_is)
      (case xh_11 => k_is)
      (case xd_11 => k_is)
      (case xc_11 => k_is)
      (case xm_11 => k_is)
      (case xa_12 => k_is)
      (case xb_12 => k_is)
      (case xg_12 => k_is)
      (case xh_12 => k_is)
      (case xd_12 => k_is)
      (case xc_12 => k_is)
      (case xm_12 => k_is)
      (case xa_13 => k_is)
      (case xb_13 => k_is)
      (case xg_13 => k_is)
      (case xh_13 => k_is)
      (case xd_13 => k_is)
      (case xc_13 => k_is)
      (case xm_13 => k_is)
      (case xa_14 => k_is)
      (case xb_14 => k_is)
      (case xe_14 => k_exc)
      (case xk_14 => k_is)
      (case xt_14 => k_is)
      (case xg_14 => k_is)
      (case xh_14 => k_is)
      (case xd_14 => k_is)
      (case xc_14 => k_is)
      (case xm_14 => k_is)
      (case da_0 => k_is)
      (case dl_0 => k_is)
      (case dc_0 => k_is)
      (case dk_0 => k_is)
      (case da_1 => k_is)
      (case dl_1 => k_is)
      (case dc_1 => k_is)
      (case dk_1 => k_is)
      (case da_2 => k_is)
      (case dl_2 => k_is)
      (case dc_2 => k_is)
      (case dk_2 => k_is)
      (case da_3 => k_is)
      (case dl_3 => k_is)
      (case dc_3 => k_is)
      (case dk_3 => k_is)
      (case da_4 => k_is)
      (case dl_4 => k_is)
      (case dc_4 => k_is)
      (case dk_4 => k_is)
      (case da_5 => k_is)
      (case dl_5 => k_is)
      (case dc_5 => k_is)
      (case dk_5 => k_is)
      (case da_6 => k_is)
      (case dl_6 => k_is)
      (case dc_6 => k_is)
      (case dk_6 => k_is)
      (case da_7 => k_is)
      (case dl_7 => k_is)
      (case dc_7 => k_is)
      (case dk_7 => k_is)
      (case da_8 => k_is)
      (case dl_8 => k_is)
      (case dc_8 => k_is)
      (case dk_8 => k_is)
      (case da_9 => k_is)
      (case dl_9 => k_is)
      (case dc_9 => k_is)
      (case dk_9 => k_is)
      (case da_10 => k_is)
      (case dl_10 => k_is)
      (case dc_10 => k_is)
      (case dk_10 => k_is)
      (case da_11 => k_is)
      (case dl_11 => k_is)
      (case dc_11 => k_is)
      (case dk_11 => k_is)
      (case da_12 => k_is)
      (case dl_12 => k_is)
      (case dc_12 => k_is)
      (case dk_12 => k_is)
      (case da_13 => k_is)
      (case dl_13 => k_is)
      (case dc_13 => k_is)
      (case dk_13 => k_is)
      (case da_14 => k_is)
      (case dl_14 => k_is)
      (case dc_14 => k_is)
      (case dk_14 => k_is)
      (case da_15 => k_is)
      (case dl_15 => k_is)
      (case dc_15 => k_is)
      (case dk_15 => k_is)
      (case da_16 => k_is)
      (case dl_16 => k_is)
      (case dc_16 => k_is)
      (case dk_16 => k_is)
      (case da_17 => k_is)
      (case dl_17 => k_is)
      (case dc_17 => k_is)
      (case dk_17 => k_is)
      (case da_18 => k_is)
      (case dl_18 => k_is)
      (case dc_18 => k_is)
      (case dk_18 => k_is)
      (case da_19 => k_is)
      (case dl_19 => k_is)
      (case dc_19 => k_is)
      (case dk_19 => k_is)
      (case da_20 => k_is)
      (case dl_20 => k_is)
      (case dc_20 => k_is)
      (case dk_20 => k_is)
      (case da_21 => k_is)
      (case dl_21 => k_is)
      (case dc_21 => k_is)
      (case dk_21 => k_is)
      (case da_22 => k_is)
      (case dl_22 => k_is)
      (case dc_22 => k_is)
      (case dk_22 => k_is)
      (case da_23 => k_is)
      (case dl_23 => k_is)
      (case dc_23 => k_is)
      (case dk_23 => k_is)
      (case da_24 => k_is)
      (case dl_24 => k_is)
      (case dc_24 => k_is)
      (case dk_24 => k_is)
      (case da_25 => k_is)
      (case dl_25 => k_is)
      (case dc_25 => k_is)
      (case dk_25 => k_is)
      (case da_26 => k_is)
      (case dl_26 => k_is)
      (case dc_26 => k_is)
      (case dk_26 => k_is)
      (case da_27 => k_is)
      (case dl_27 => k_is)
      (case dc_27 => k_is)
      (case dk_27 => k_is)
      (case da_28 => k_is)
      (case dl_28 => k_is)
      (case dc_28 => k_is)
      (case dk_28 => k_is)
      (case zm => k_is)
      (case zo => k_is)
      (case zp => k_is)
      (case zq => kernel_rfl)
      (case y0 => k_is)
      (case y1 => exact rfl)
      (case y2 => exact rfl)
      (case y3 => exact rfl)
      (case y4 => exact rfl)
      (case y5 => exact rfl)
      (case y6 => decide)
      (case y7 => kernel_rfl)
      (case y8 => exact PySem.W.km_tabs_of Y _ (by decide))
    obtain ⟨c0, p0, T, DL, CH, np, tb⟩ := tx
    refine ⟨[(c0, p0)], [(p0, "law.<locals>.<lambda>")], fun p hp => ?_, fun p hp => ?_, fun p hp => ?_, fun p hp => ?_, fun base kb gb tbb sm => Z.z_law T sm DL (tbb (c0, p0) (List.mem_singleton.mpr rfl))⟩
    · rw [List.mem_singleton.mp hp]; exact tb
    · rw [List.mem_singleton.mp hp]; exact np
    · rw [List.mem_singleton.mp hp]; exact CH
    · rw [List.mem_singleton.mp hp]; exact List.mem_singleton.mpr rfl


