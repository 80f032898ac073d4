import PyProof.Rows.All
import Wide.All
import OpenK.AllK
import Wide.FinOn
import HandS.ForMost
import HandS.Walk
import HandS.IsInst
import HandS.Zip
import HandS.Conv
import HandS.TupAny
import HandS.TupLe
import HandS.TupMul
import HandS.SortInts
import HandS.Deep
import HandS.WideBits
import HandS.Flt
import HandS.Style
import HandS.SetFor
import PyProof.ReprRoads
import HandS.Lambda
import KE.GoesEnum
import HandS.TupSets
import KE.DataMinMax
import PyProof.Rows.RowBridgeK
import HandS.RaiseMore
import KE.SortData
import HandS.Strs
import KE.KRevSl
import HandS.Ends
import PyProof.ReprLen
import HandS.TryMany
import HandS.ExcInit
import HandS.ExcField
import HandS.ExcIs
import KE.KExcIs
import HandS.More
import HandS.EndTab
import KE.KNest
import HandS.Defaults
import KE.BitLaws
import KE.OsArith
import KE.DatumOrd
import PySem.Challenge.RW_citylines_k92_price_tables_bent
set_option Elab.async false
set_option linter.all false
set_option maxRecDepth 100000
section PDL0
/-! The data layer: what a value is as data (a tree), what the slots of a def hold as data, each construct as a function of the slots' data. -/
namespace DL
open PySem PySem.Spec PyProof.Rows L2

/-! ### values as data -/
mutual
/-- the value reads as the data, in what the heap H tells -/
inductive DD (K : PySem.W.Frag) (H : Hp) : V → PyData → Prop
  | non : DD K H .non .none
  | bl (b : Bool) : DD K H (.bl b) (.bool b)
  | int (i : Int) : DD K H (.int i) (.int i)
  | str (x : Str) : DD K H (.str x) (.str x)
  | lst {a : Addr} {vs : List V} {ds : List PyData} : H a = some (.lst vs) → DDs K H vs ds → DD K H (.ref a) (.list ds)
  | tup {a : Addr} {vs : List V} {ds : List PyData} : H a = some (.tup vs) → DDs K H vs ds → DD K H (.ref a) (.tuple ds)
  | nod {a : Addr} : H a = some (.dK []) → DD K H (.ref a) (.dict [])
inductive DDs (K : PySem.W.Frag) (H : Hp) : List V → List PyData → Prop
  | nil : DDs K H [] []
  | cons {v : V} {vs : List V} {d : PyData} {ds : List PyData} : DD K H v d → DDs K H vs ds → DDs K H (v :: vs) (d :: ds)
end

theorem same_seqT {K : PySem.W.Frag} {H H' : Hp} {a : Addr} {xs : List V} (e : Same H H') (h : SqT K H a xs) : SqT K H' a xs := by
  rcases h with (h | ⟨o, h⟩) | h
  · exact .inl (.inl (e _ _ h))
  · exact .inl (.inr ⟨o, e _ _ h⟩)
  · exact .inr h

mutual
theorem DD.mono {K : PySem.W.Frag} {H H' : Hp} (e : Same H H') : ∀ (d : PyData) (v : V), DD K H v d → DD K H' v d
  | .none, _, h => by cases h; exact .non
  | .bool b, _, h => by cases h; exact .bl b
  | .int i, _, h => by cases h; exact .int i
  | .str x, _, h => by cases h; exact .str x
  | .list ds, _, h => by
    cases h with
    | lst hs ha => exact .lst (e _ _ hs) (DDs.mono e ds _ ha)
  | .tuple ds, _, h => by
    cases h with
    | tup hs ha => exact .tup (e _ _ hs) (DDs.mono e ds _ ha)
  | .dict kvs, _, h => by
    cases h with
    | nod hd => exact .nod (e _ _ hd)
theorem DDs.mono {K : PySem.W.Frag} {H H' : Hp} (e : Same H H') : ∀ (ds : List PyData) (vs : List V), DDs K H vs ds → DDs K H' vs ds
  | [], _, h => by cases h; exact .nil
  | d :: ds, _, h => by
    cases h with
    | cons h1 h2 => exact .cons (DD.mono e d _ h1) (DDs.mono e ds _ h2)
end
theorem DD.up {K : PySem.W.Frag} {H H' : Hp} {v : V} {d : PyData} (h : DD K H v d) (e : Same H H') : DD K H' v d := DD.mono e d v h
theorem DDs.up {K : PySem.W.Frag} {H H' : Hp} {vs : List V} {ds : List PyData} (h : DDs K H vs ds) (e : Same H H') : DDs K H' vs ds := DDs.mono e ds vs h
section
variable {K : PySem.W.Frag} {H : Hp}
theorem DDs.length : ∀ {vs : List V} {ds : List PyData}, DDs K H vs ds → vs.length = ds.length
  | _, [], h => by cases h; rfl
  | _, d :: ds, h => by
    cases h with
    | cons _ h2 => simp [DDs.length h2]
theorem DDs.get : ∀ {ds : List PyData} {vs : List V} {i : Nat} {d : PyData}, DDs K H vs ds → ds[i]? = some d → ∃ v, vs[i]? = some v ∧ DD K H v d
  | [], _, _, _, _, e => by simp at e
  | x :: ds, _, 0, d, h, e => by
    cases h with
    | cons h1 h2 => simp at e; subst e; exact ⟨_, rfl, h1⟩
  | x :: ds, _, i + 1, d, h, e => by
    cases h with
    | cons h1 h2 =>
      obtain ⟨v, a, b⟩ := DDs.get (i := i) h2 (by simpa using e)
      exact ⟨v, by simpa using a, b⟩
theorem DDs.getV : ∀ {vs : List V} {ds : List PyData} {i : Nat} {v : V}, DDs K H vs ds → vs[i]? = some v → ∃ d, ds[i]? = some d ∧ DD K H v d
  | [], _, _, _, _, e => by simp at e
  | x :: vs, _, 0, v, h, e => by
    cases h with
    | cons h1 h2 => simp at e; subst e; exact ⟨_, rfl, h1⟩
  | x :: vs, _, i + 1, v, h, e => by
    cases h with
    | cons h1 h2 =>
      obtain ⟨d, a, b⟩ := DDs.getV (i := i) h2 (by simpa using e)
      exact ⟨d, by simpa using a, b⟩
theorem DDs.append : ∀ {ds es : List PyData} {vs us : List V}, DDs K H vs ds → DDs K H us es → DDs K H (vs ++ us) (ds ++ es)
  | [], _, _, _, h, g => by cases h; exact g
  | _ :: _, _, _, _, h, g => by
    cases h with
    | cons h1 h2 => exact .cons h1 (DDs.append h2 g)
theorem DDs.snoc {ds : List PyData} {vs : List V} {v : V} {d : PyData} (h : DDs K H vs ds) (g : DD K H v d) : DDs K H (vs ++ [v]) (ds ++ [d]) := h.append (.cons g .nil)
theorem DDs.take : ∀ {ds : List PyData} {vs : List V} (n : Nat), DDs K H vs ds → DDs K H (vs.take n) (ds.take n)
  | _, _, 0, _ => .nil
  | [], _, _ + 1, h => by cases h; exact .nil
  | _ :: _, _, n + 1, h => by
    cases h with
    | cons h1 h2 => exact .cons h1 (DDs.take n h2)
theorem DDs.drop : ∀ {ds : List PyData} {vs : List V} (n : Nat), DDs K H vs ds → DDs K H (vs.drop n) (ds.drop n)
  | _, _, 0, h => h
  | [], _, _ + 1, h => by cases h; exact .nil
  | _ :: _, _, n + 1, h => by
    cases h with
    | cons h1 h2 => exact DDs.drop n h2
theorem DDs.set : ∀ {ds : List PyData} {vs : List V} {v : V} {d : PyData} (n : Nat), DDs K H vs ds → DD K H v d → DDs K H (vs.set n v) (ds.set n d)
  | [], _, _, _, _, h, _ => by cases h; exact .nil
  | _ :: _, _, _, _, 0, h, g => by
    cases h with
    | cons h1 h2 => exact .cons g h2
  | _ :: _, _, _, _, n + 1, h, g => by
    cases h with
    | cons h1 h2 => exact .cons h1 (DDs.set n h2 g)
theorem DDs.reverse : ∀ {ds : List PyData} {vs : List V}, DDs K H vs ds → DDs K H vs.reverse ds.reverse
  | [], _, h => by cases h; exact .nil
  | _ :: _, _, h => by
    cases h with
    | cons h1 h2 =>
      rw [List.reverse_cons, List.reverse_cons]
      exact (DDs.reverse h2).snoc h1
theorem DDs.ints : ∀ {ns : List Int} {vs : List V}, DDs K H vs (ns.map PyData.int) → vs = ns.map V.int
  | [], _, h => by cases h; rfl
  | n :: ns, _, h => by
    cases h with
    | cons h1 h2 =>
      cases h1
      rw [DDs.ints h2]
      rfl
theorem DDs.bls : ∀ {bs : List Bool} {vs : List V}, DDs K H vs (bs.map PyData.bool) → vs = bs.map V.bl
  | [], _, h => by cases h; rfl
  | n :: ns, _, h => by
    cases h with
    | cons h1 h2 =>
      cases h1
      rw [DDs.bls h2]
      rfl
theorem DDs.of_ints : ∀ (ns : List Int), DDs K H (ns.map V.int) (ns.map PyData.int)
  | [] => .nil
  | n :: ns => .cons (.int n) (DDs.of_ints ns)
theorem DDs.of_bls : ∀ (ns : List Bool), DDs K H (ns.map V.bl) (ns.map PyData.bool)
  | [] => .nil
  | n :: ns => .cons (.bl n) (DDs.of_bls ns)
theorem DDs.replicate : ∀ (n : Nat) {ds : List PyData} {vs : List V}, DDs K H vs ds → DDs K H (List.replicate n vs).flatten (List.replicate n ds).flatten
  | 0, _, _, _ => .nil
  | n + 1, _, _, h => by
    rw [List.replicate_succ, List.replicate_succ, List.flatten_cons, List.flatten_cons]
    exact h.append (DDs.replicate n h)
end

section
variable {X : Cx} {pins : List (Addr × Obj)} {σ : L2.St} {H : Hp} {s : Shared}
theorem nod_reads {a : Addr} (I : Inv X pins σ H s) (h : H a = some (.dK [])) : ∃ as, Reads s.heap (.ref a) (.dict []) as ∧ sysModules ∉ as := by
  obtain ⟨_, hne, vs, hkv, o, es, ep, ho, hx, hd, he⟩ := I.hok _ _ h
  cases hkv
  obtain ⟨_, hp, _⟩ := he
  have hl : es.toList = [] := by
    generalize es.toList = l at hp
    cases hp
    rfl
  refine ⟨_, Reads.dict ho hx.1 hd (by rw [hl]; exact ReadsAll.nil) (by rw [hl]; exact ReadsAll.nil), fun z => ?_⟩
  have e : sysModules = a := by simpa using z
  rw [← e] at hne
  simp at hne
mutual
/-- .. read as the library reads it -/
theorem DD.reads (I : Inv X pins σ H s) : ∀ (d : PyData) (v : V) (u : Value), DD X.K H v d → RelV v u → ∃ as, Reads s.heap u d as
  | .none, _, _, h, r => by
    cases h
    cases r
    exact ⟨_, Reads.none⟩
  | .bool b, _, _, h, r => by
    cases h
    cases r
    exact ⟨_, Reads.bool b⟩
  | .int i, _, _, h, r => by
    cases h
    obtain ⟨t, rfl⟩ := r
    exact ⟨_, Reads.int i t⟩
  | .str x, _, _, h, r => by
    cases h
    obtain ⟨t, rfl⟩ := r
    exact ⟨_, Reads.str x t⟩
  | .list ds, _, _, h, r => by
    cases h with
    | lst hs ha =>
      cases r
      obtain ⟨its, rv, ⟨o, n, ho, hc, _, hd⟩, _⟩ := I.list (SqL.of hs)
      obtain ⟨as, hr⟩ := DD.readsAll I ds _ its ha rv
      exact ⟨_, Reads.list ho hc hd hr⟩
  | .tuple ds, _, _, h, r => by
    cases h with
    | tup hs ha =>
      cases r
      obtain ⟨its, rv, ⟨o, ho, hc, n, hd⟩, _⟩ := I.tuple (SqT.of hs)
      obtain ⟨as, hr⟩ := DD.readsAll I ds _ its ha rv
      exact ⟨_, Reads.tuple ho hc hd hr⟩
  | .dict kvs, _, _, h, r => by
    cases h with
    | nod hs =>
      cases r
      obtain ⟨as, q, _⟩ := nod_reads I hs
      exact ⟨as, q⟩
theorem DD.readsAll (I : Inv X pins σ H s) : ∀ (ds : List PyData) (vs : List V) (us : List Value), DDs X.K H vs ds → Vals vs us → ∃ as, ReadsAll s.heap us ds as
  | [], _, _, h, r => by
    cases h
    cases r
    exact ⟨_, ReadsAll.nil⟩
  | d :: ds, _, _, h, r => by
    cases h with
    | cons h1 h2 =>
      cases r with
      | cons r1 r2 =>
        obtain ⟨as, q1⟩ := DD.reads I d _ _ h1 r1
        obtain ⟨bs, q2⟩ := DD.readsAll I ds _ _ h2 r2
        exact ⟨_, ReadsAll.cons q1 q2⟩
end
/-- what repr shows of the data can be told: no dict but the empty one alone -/
def plainD : PyData → Bool
  | .dict [] => true
  | d => !d.hasDict
theorem DD.reads_sys (I : Inv X pins σ H s) (d : PyData) (v : V) (u : Value) (h : DD X.K H v d) (r : RelV v u) (p : plainD d = true) : ∃ as, Reads s.heap u d as ∧ (d.hasDict = true → sysModules ∉ as) := by
  cases d with
  | dict kvs =>
    cases h with
    | nod hs =>
      cases r
      obtain ⟨as, q, m⟩ := nod_reads I hs
      exact ⟨as, q, fun _ => m⟩
  | none => exact (DD.reads I _ v u h r).elim fun as q => ⟨as, q, fun z => by simp [plainD, z] at p⟩
  | bool b => exact (DD.reads I _ v u h r).elim fun as q => ⟨as, q, fun z => by simp [plainD, z] at p⟩
  | int b => exact (DD.reads I _ v u h r).elim fun as q => ⟨as, q, fun z => by simp [plainD, z] at p⟩
  | str b => exact (DD.reads I _ v u h r).elim fun as q => ⟨as, q, fun z => by simp [plainD, z] at p⟩
  | list b => exact (DD.reads I _ v u h r).elim fun as q => ⟨as, q, fun z => by simp [plainD, z] at p⟩
  | tuple b => exact (DD.reads I _ v u h r).elim fun as q => ⟨as, q, fun z => by simp [plainD, z] at p⟩
end
end DL
end PDL0
section PDL1
/-! Slots as data; the judgements. -/
namespace DL
open PySem PySem.Spec PyProof.Rows L2

/-- the tables of code objects that lambdas are made of: where they stand, under which name -/
class TabsC where
  l : List (Addr × Str)
variable [TC : TabsC]
def TabsH (H : Hp) : Prop := LamX.Tabs TC.l H
theorem TabsH.put {H : Hp} {a : Addr} {o o' : HO} (t : TabsH H) (h : H a = some o) (n1 : ∀ q, o ≠ LamX.CodeO a q) (n2 : ∀ ps, o ≠ .tbl ps) : TabsH (upd H a o') := fun p hp => by
  obtain ⟨ps, h1, h2, h3⟩ := t p hp
  have e1 : p.1 ≠ a := fun z => by
    rw [z, h] at h1
    exact n2 ps (Option.some.inj h1)
  refine ⟨ps, by rw [upd_ne e1]; exact h1, h2, fun pos cv hc => ?_⟩
  obtain ⟨c, e, hco⟩ := h3 pos cv hc
  have e2 : c ≠ a := fun z => by
    rw [z, h] at hco
    exact n1 p.2 (Option.some.inj hco)
  exact ⟨c, e, by rw [upd_ne e2]; exact hco⟩
theorem TabsH.lst {H : Hp} {a : Addr} {ws : List V} {o' : HO} (t : TabsH H) (h : H a = some (.lst ws)) : TabsH (upd H a o') := t.put h (fun q z => by unfold LamX.CodeO at z; cases z) fun ps z => by cases z
theorem TabsH.dK {H : Hp} {a : Addr} {ws : List (Key × V)} {o' : HO} (t : TabsH H) (h : H a = some (.dK ws)) : TabsH (upd H a o') := t.put h (fun q z => by unfold LamX.CodeO at z; cases z) fun ps z => by cases z
theorem TabsH.dT {H : Hp} {a : Addr} {ws : List (List Key × V)} {o' : HO} (t : TabsH H) (h : H a = some (.dT ws)) : TabsH (upd H a o') := t.put h (fun q z => by unfold LamX.CodeO at z; cases z) fun ps z => by cases z
theorem TabsH.new {H : Hp} {a : Addr} {o' : HO} (t : TabsH H) (h : H a = none) : TabsH (upd H a o') := LamX.Tabs.ext t fun b o e => by
  rw [upd_ne (ne_of_none e h)]
  exact e
def NoT (B : Hp) : Prop := ∀ b ps, B b ≠ some (.tbl ps)
theorem NoT.upd {B : Hp} {a : Addr} {o : HO} (h : NoT B) (n : ∀ ps, o ≠ .tbl ps) : NoT (upd B a o) := fun b ps z => by
  by_cases e : b = a
  · rw [e, upd_same] at z
    exact n ps (Option.some.inj z)
  · rw [upd_ne e] at z
    exact h b ps z
/-- the tables stand in H, not in F, B -/
structure TabF (F B H : Hp) : Prop where
  t : TabsH H
  b : NoT B
  f : NoT F
theorem TabF.lst {F B H : Hp} {a : Addr} {ws : List V} {o' : HO} (x : TabF F B H) (h : H a = some (.lst ws)) : TabF F B (upd H a o') := ⟨x.t.lst h, x.b, x.f⟩
theorem TabF.new {F B H : Hp} {a : Addr} {o' : HO} (x : TabF F B H) (h : H a = none) : TabF F B (upd H a o') := ⟨x.t.new h, x.b, x.f⟩
/-- what a slot holds: nothing that is known; data that stays; an own list; a list that was handed in to be changed; an own dict (its keys tuples or not) -/
inductive Sl where
  | u
  | d (x : PyData)
  | l (xs : List PyData)
  | p (xs : List PyData)
  | k (t : Bool) (kvs : List (PyData × PyData))
/-- what an expression gives: data; a new list that nothing else holds -/
inductive Rs where
  | d (x : PyData)
  | l (xs : List PyData)
abbrev Rho := List Sl
def Sl.cell : Sl → Bool
  | .l _ => true
  | .p _ => true
  | .k _ _ => true
  | _ => false
def Rs.data : Rs → PyData
  | .d x => x
  | .l xs => .list xs
def Rs.sl : Rs → Sl
  | .d x => .d x
  | .l xs => .l xs
def keyD : Key → PyData
  | .inl i => .int i
  | .inr x => .str x
def keyT (ks : List Key) : PyData := .tuple (ks.map keyD)

def CellAt (ρ : Rho) (σ : L2.St) (i : Nat) (a : Addr) : Prop := ∃ s, ρ[i]? = some s ∧ s.cell = true ∧ σ[i]? = some (some (.ref a))
/-- a dict's entries as data -/
def DictR (K : PySem.W.Frag) (B H : Hp) (a : Addr) : Bool → List (PyData × PyData) → Prop
  | false, kvs => ∃ ks : List (Key × V), H a = some (.dK ks) ∧ Paired (fun p q => keyD p.1 = q.1 ∧ DD K B p.2 q.2) ks kvs
  | true, kvs => ∃ ks : List (List Key × V), H a = some (.dT ks) ∧ Paired (fun p q => keyT p.1 = q.1 ∧ DD K B p.2 q.2) ks kvs
def SlR (K : PySem.W.Frag) (F B : Hp) (pa : Nat → Option Addr) (σ : L2.St) (H : Hp) (i : Nat) : Sl → Prop
  | .u => True
  | .d x => ∃ v, σ[i]? = some (some v) ∧ DD K B v x
  | .l xs => ∃ a vs, σ[i]? = some (some (.ref a)) ∧ B a = none ∧ F a = none ∧ H a = some (.lst vs) ∧ DDs K B vs xs
  | .p xs => ∃ a vs, pa i = some a ∧ σ[i]? = some (some (.ref a)) ∧ B a = none ∧ F a = none ∧ H a = some (.lst vs) ∧ DDs K B vs xs
  | .k t kvs => ∃ a, σ[i]? = some (some (.ref a)) ∧ B a = none ∧ F a = none ∧ DictR K B H a t kvs
/-- the slots σ and the heap H are as the data ρ tells. B: what is data and stays; F: what must be left as it is; pa: where the lists that were handed in stand -/
structure StR (K : PySem.W.Frag) (F B : Hp) (pa : Nat → Option Addr) (σ : L2.St) (H : Hp) (ρ : Rho) : Prop where
  len : ρ.length = σ.length
  sb : Same B H
  sf : Same F H
  tb : TabF F B H
  fb : ∀ q, F q ≠ none → B q = none
  sl : ∀ i s, ρ[i]? = some s → SlR K F B pa σ H i s
  ds : ∀ i j a, CellAt ρ σ i a → CellAt ρ σ j a → i = j

def RsR (K : PySem.W.Frag) (F B : Hp) (σ : L2.St) (H : Hp) (ρ : Rho) (v : V) : Rs → Prop
  | .d x => DD K B v x
  | .l xs => ∃ a vs, v = .ref a ∧ B a = none ∧ F a = none ∧ H a = some (.lst vs) ∧ DDs K B vs xs ∧ ∀ i, ¬ CellAt ρ σ i a

abbrev EM := Rho → Option (Rs × Rho)
/-- an expression's reading by data -/
def tD (K : PySem.W.Frag) (f : EM) : TE := fun σ H Q => ∃ F B pa ρ r ρ', StR K F B pa σ H ρ ∧ f ρ = some (r, ρ') ∧ ∀ v B' H', StR K F B' pa σ H' ρ' → Same B B' → RsR K F B' σ H' ρ' v r → Q v H'
abbrev DE (X : Cx) (e : Expr) (f : EM) : Prop := PE X e (tD X.K f)

theorem PE.imp {X : Cx} {e : Expr} {t t' : TE} (h : PE X e t) (i : ∀ σ H Q, t' σ H Q → t σ H Q) : PE X e t' := ⟨fun pins s σ H Q I hw => h.run pins s σ H Q I (i σ H Q hw)⟩
theorem PT.imp {X : Cx} {e : Expr} {t t' : TT} (h : PT X e t) (i : ∀ σ H Q, t' σ H Q → t σ H Q) : PT X e t' := ⟨fun pins s σ H Q I hw => h.run pins s σ H Q I (i σ H Q hw)⟩
theorem PS.imp {X : Cx} {e : Stmt} {t t' : TS} (h : PS X e t) (i : ∀ D σ H, t' D σ H → t D σ H) : PS X e t' := ⟨fun pins s σ H D I hw => h.run pins s σ H D I (i D σ H hw)⟩
theorem PSs.imp {X : Cx} {e : List Stmt} {t t' : TS} (h : PSs X e t) (i : ∀ D σ H, t' D σ H → t D σ H) : PSs X e t' := ⟨fun pins s σ H D I hw => h.run pins s σ H D I (i D σ H hw)⟩
theorem PG.imp {X : Cx} {e : Expr} {t t' : TG} (h : PG X e t) (i : ∀ v σ H Q, t' v σ H Q → t v σ H Q) : PG X e t' := ⟨fun pins s σ H v u Q I r hw => h.run pins s σ H v u Q I r (i v σ H Q hw)⟩
theorem PI.imp {X : Cx} {tg e : Expr} {t t' : TI} (h : PI X tg e t) (i : ∀ σ H Q, t' σ H Q → t σ H Q) : PI X tg e t' := ⟨fun pins s σ H Q I hw => h.run pins s σ H Q I (i σ H Q hw)⟩

section
variable {K : PySem.W.Frag} {F B B' H H' : Hp} {pa : Nat → Option Addr} {σ : L2.St} {ρ : Rho} {v : V}
theorem ne_of_two {H : Hp} {a b : Addr} {o : HO} (h : H a = none) (h' : H b = some o) : b ≠ a := ne_of_none h' h
theorem same_new {B : Hp} {a : Addr} {o : HO} (h : B a = none) : Same B (upd B a o) := fun b u e => by
  rw [upd_ne (ne_of_none e h)]
  exact e
theorem same_both {B H : Hp} {a : Addr} {o : HO} (h : Same B H) (e : H a = some o) : Same (upd B a o) H := fun b u q => by
  by_cases z : b = a
  · subst z
    rw [upd_same] at q
    rw [e]; exact q
  · rw [upd_ne z] at q
    exact h b u q
theorem same_off {B H : Hp} {a : Addr} {o : HO} (h : Same B H) (n : B a = none) : Same B (upd H a o) := fun b u q => by
  rw [upd_ne (ne_of_none q n)]
  exact h b u q
theorem DictR.mono {a : Addr} (e : Same B B') (h : H' a = H a) : ∀ {t kvs}, DictR K B H a t kvs → DictR K B' H' a t kvs
  | false, kvs, ⟨ks, q, r⟩ => ⟨ks, h.trans q, Paired.mapP r fun p q z => ⟨z.1, z.2.up e⟩⟩
  | true, kvs, ⟨ks, q, r⟩ => ⟨ks, h.trans q, Paired.mapP r fun p q z => ⟨z.1, z.2.up e⟩⟩
/-- the object of a slot that holds one of its own -/
theorem StR.cellB (S : StR K F B pa σ H ρ) {i : Nat} {a : Addr} (c : CellAt ρ σ i a) : B a = none ∧ F a = none ∧ H a ≠ none := by
  obtain ⟨s, e, hc, hs⟩ := c
  have q := S.sl i s e
  cases s with
  | u => cases hc
  | d x => cases hc
  | l xs =>
    obtain ⟨b, vs, h1, h2, h3, h4, _⟩ := q
    rw [hs] at h1; cases h1
    exact ⟨h2, h3, by rw [h4]; simp⟩
  | p xs =>
    obtain ⟨b, vs, _, h1, h2, h3, h4, _⟩ := q
    rw [hs] at h1; cases h1
    exact ⟨h2, h3, by rw [h4]; simp⟩
  | k t kvs =>
    obtain ⟨b, h1, h2, h3, h4⟩ := q
    rw [hs] at h1; cases h1
    refine ⟨h2, h3, ?_⟩
    cases t with
    | false => obtain ⟨_, z, _⟩ := h4; rw [z]; simp
    | true => obtain ⟨_, z, _⟩ := h4; rw [z]; simp
/-- a slot's word under more data, where the slots' own objects stand as they stood -/
theorem SlR.keep {i : Nat} {s : Sl} (e : Same B B') (hc : ∀ a, s.cell = true → σ[i]? = some (some (.ref a)) → B' a = none ∧ H' a = H a) (q : SlR K F B pa σ H i s) : SlR K F B' pa σ H' i s := by
  cases s with
  | u => trivial
  | d x => obtain ⟨v, h1, h2⟩ := q; exact ⟨v, h1, h2.up e⟩
  | l xs =>
    obtain ⟨b, vs, h1, h2, h3, h4, h5⟩ := q
    obtain ⟨c1, c2⟩ := hc b rfl h1
    exact ⟨b, vs, h1, c1, h3, c2.trans h4, h5.up e⟩
  | p xs =>
    obtain ⟨b, vs, h0, h1, h2, h3, h4, h5⟩ := q
    obtain ⟨c1, c2⟩ := hc b rfl h1
    exact ⟨b, vs, h0, h1, c1, h3, c2.trans h4, h5.up e⟩
  | k t kvs =>
    obtain ⟨b, h1, h2, h3, h4⟩ := q
    obtain ⟨c1, c2⟩ := hc b rfl h1
    exact ⟨b, h1, c1, h3, h4.mono e c2⟩
/-- the heap grows, the data grow: the slots' own objects stand -/
theorem StR.grow (S : StR K F B pa σ H ρ) (e : Same B B') (sb : Same B' H') (sf : Same F H') (tb : TabF F B' H') (fb : ∀ q, F q ≠ none → B' q = none) (hc : ∀ i a, CellAt ρ σ i a → B' a = none ∧ H' a = H a) : StR K F B' pa σ H' ρ :=
  ⟨S.len, sb, sf, tb, fb, fun i s q => (S.sl i s q).keep e fun a c z => hc i a ⟨s, q, c, z⟩, S.ds⟩
/-- a new object -/
theorem StR.new (S : StR K F B pa σ H ρ) {a : Addr} {o : HO} (n : H a = none) : StR K F B pa σ (upd H a o) ρ :=
  S.grow (Same.refl _) (fun b u q => by rw [upd_ne (ne_of_none (S.sb b u q) n)]; exact S.sb b u q) (fun b u q => by rw [upd_ne (ne_of_none (S.sf b u q) n)]; exact S.sf b u q) (S.tb.new n) S.fb fun i b c => by
    obtain ⟨h1, h2, h3⟩ := S.cellB c
    refine ⟨h1, upd_ne fun z => ?_⟩
    rw [z] at h3
    exact h3 n
theorem StR.noB (S : StR K F B pa σ H ρ) {a : Addr} (n : H a = none) : B a = none := S.sb.free n
theorem StR.noF (S : StR K F B pa σ H ρ) {a : Addr} (n : H a = none) : F a = none := S.sf.free n
theorem StR.noC (S : StR K F B pa σ H ρ) {a : Addr} (n : H a = none) (i : Nat) : ¬ CellAt ρ σ i a := fun c => (S.cellB c).2.2 n
/-- .. that becomes data -/
theorem StR.put (S : StR K F B pa σ H ρ) {a : Addr} {o : HO} (ho : ∀ ps, o ≠ .tbl ps) (h : H a = some o) (n : B a = none) (nf : F a = none) (nc : ∀ i, ¬ CellAt ρ σ i a) : StR K F (upd B a o) pa σ H ρ :=
  S.grow (same_new n) (same_both S.sb h) S.sf ⟨S.tb.t, S.tb.b.upd ho, S.tb.f⟩ (fun q hq => by
    rw [upd_ne (fun z => hq (by rw [z]; exact nf))]
    exact S.fb q hq) fun i b c => by
    refine ⟨?_, rfl⟩
    rw [upd_ne (fun z => nc i (by rw [← z]; exact c))]
    exact (S.cellB c).1
theorem StR.newData (S : StR K F B pa σ H ρ) {a : Addr} {o : HO} (ho : ∀ ps, o ≠ .tbl ps) (n : H a = none) : StR K F (upd B a o) pa σ (upd H a o) ρ ∧ Same B (upd B a o) :=
  ⟨(S.new n).put ho upd_same (S.noB n) (S.noF n) fun i c => by
    have q := (S.noC n i)
    exact q c, same_new (S.noB n)⟩
/-- a result becomes data -/
theorem RsR.freeze {r : Rs} (S : StR K F B pa σ H ρ) (q : RsR K F B σ H ρ v r) : ∃ B', Same B B' ∧ StR K F B' pa σ H ρ ∧ DD K B' v r.data := by
  cases r with
  | d x => exact ⟨B, Same.refl _, S, q⟩
  | l xs =>
    obtain ⟨a, vs, rfl, h1, h2, h3, h4, h5⟩ := q
    exact ⟨upd B a (.lst vs), same_new h1, S.put (fun ps z => nomatch z) h3 h1 h2 h5, .lst upd_same (h4.up (same_new h1))⟩
/-- what an expression gives, taken as data -/
theorem tD_take {f : EM} {r : Rs} {ρ' : Rho} {Q : VK} (S : StR K F B pa σ H ρ) (e : f ρ = some (r, ρ')) (k : ∀ v B' H', StR K F B' pa σ H' ρ' → Same B B' → DD K B' v r.data → Q v H') : tD K f σ H Q :=
  ⟨F, B, pa, ρ, r, ρ', S, e, fun v B1 H1 S1 s1 q1 => by
    obtain ⟨B2, s2, S2, q2⟩ := q1.freeze S1
    exact k v B2 H1 S2 (s1.trans s2) q2⟩
end

/-! ### statements -/
inductive Out where
  | nx (ρ : Rho)
  | ret (r : Rs) (ρ : Rho)
  | bk (ρ : Rho)
  | ct (ρ : Rho)
abbrev SM := Rho → Option Out
def OutR (K : PySem.W.Frag) (F B : Hp) (pa : Nat → Option Addr) (D : Ends) : Out → Prop
  | .nx ρ' => ∀ σ' B' H', StR K F B' pa σ' H' ρ' → Same B B' → D.nx σ' H'
  | .ret r ρ' => ∀ v σ' B' H', StR K F B' pa σ' H' ρ' → Same B B' → RsR K F B' σ' H' ρ' v r → D.rt v H'
  | .bk ρ' => ∀ σ' B' H', StR K F B' pa σ' H' ρ' → Same B B' → D.bk σ' H'
  | .ct ρ' => ∀ σ' B' H', StR K F B' pa σ' H' ρ' → Same B B' → D.ct σ' H'
def tDS (K : PySem.W.Frag) (g : SM) : TS := fun D σ H => ∃ F B pa ρ out, StR K F B pa σ H ρ ∧ g ρ = some out ∧ OutR K F B pa D out
abbrev DS (X : Cx) (st : Stmt) (g : SM) : Prop := PS X st (tDS X.K g)
abbrev DSs (X : Cx) (st : List Stmt) (g : SM) : Prop := PSs X st (tDS X.K g)
theorem OutR.mono {K : PySem.W.Frag} {F B B1 : Hp} {pa : Nat → Option Addr} {D : Ends} {o : Out} (e : Same B B1) (h : OutR K F B pa D o) : OutR K F B1 pa D o := by
  cases o with
  | nx ρ' => exact fun σ' B' H' S s => h σ' B' H' S (e.trans s)
  | ret r ρ' => exact fun v σ' B' H' S s => h v σ' B' H' S (e.trans s)
  | bk ρ' => exact fun σ' B' H' S s => h σ' B' H' S (e.trans s)
  | ct ρ' => exact fun σ' B' H' S s => h σ' B' H' S (e.trans s)

section
variable {X : Cx} {st : Stmt} {rest : List Stmt} {pos : Pos}
def sNil : SM := fun ρ => some (.nx ρ)
def sSeq (g h : SM) : SM := fun ρ => (g ρ).bind fun
  | .nx ρ1 => h ρ1
  | o => some o
theorem dss_nil : DSs X [] sNil := PSs.imp pss_nil fun D σ H ⟨F, B, pa, ρ, out, S, e, k⟩ => by
  cases e
  exact k σ B H S (Same.refl _)
theorem dss_cons {g h : SM} (h1 : DS X st g) (h2 : DSs X rest h) : DSs X (st :: rest) (sSeq g h) := PSs.imp (pss_cons h1 h2) fun D σ H ⟨F, B, pa, ρ, out, S, e, k⟩ => by
  unfold sSeq at e
  cases eg : g ρ with
  | none => rw [eg] at e; cases e
  | some o =>
    rw [eg] at e
    refine ⟨F, B, pa, ρ, o, S, eg, ?_⟩
    cases o with
    | nx ρ1 => exact fun σ' B' H' S' s => ⟨F, B', pa, ρ1, out, S', e, k.mono s⟩
    | ret r ρ1 => cases e; exact k
    | bk ρ1 => cases e; exact k
    | ct ρ1 => cases e; exact k
theorem dss_one {g : SM} (h1 : DS X st g) : DSs X [st] g := PSs.imp (pss_one h1) fun D σ H h => h
end
end DL
end PDL1
section PDL2
/-! Expressions: by values. -/
namespace DL
open PySem PySem.Spec PyProof.Rows L2
variable [TC : TabsC]

/-- what a rule by values gives: data that stood already, a new list, a new tuple -/
inductive NewR (K : PySem.W.Frag) (B H : Hp) : V → Hp → Rs → Prop
  | old {v : V} {x : PyData} (h : DD K B v x) : NewR K B H v H (.d x)
  | lst {a : Addr} {vs : List V} {xs : List PyData} (n : H a = none) (h : DDs K B vs xs) : NewR K B H (.ref a) (upd H a (.lst vs)) (.l xs)
  | tup {a : Addr} {vs : List V} {xs : List PyData} (n : H a = none) (h : DDs K B vs xs) : NewR K B H (.ref a) (upd H a (.tup vs)) (.d (.tuple xs))
section
variable {K : PySem.W.Frag} {F B B' H H' : Hp} {pa : Nat → Option Addr} {σ : L2.St} {ρ : Rho} {v : V} {r : Rs}
theorem NewR.back (S : StR K F B pa σ H ρ) (n : NewR K B H v H' r) : ∃ B', StR K F B' pa σ H' ρ ∧ Same B B' ∧ RsR K F B' σ H' ρ v r := by
  cases n with
  | old h => exact ⟨B, S, Same.refl _, h⟩
  | lst n h => exact ⟨B, S.new n, Same.refl _, _, _, rfl, S.noB n, S.noF n, upd_same, h, S.noC n⟩
  | tup n h =>
    obtain ⟨S', e⟩ := S.newData (o := .tup _) (fun ps z => by cases z) n
    exact ⟨_, S', e, .tup upd_same (h.up e)⟩
end
/-- an operator's reading by data -/
def rD (K : PySem.W.Frag) (G : PyData → PyData → Option Rs) : R2 := fun x y H Q => ∃ B d e r, Same B H ∧ DD K B x d ∧ DD K B y e ∧ G d e = some r ∧ ∀ v H', NewR K B H v H' r → Q v H'
/-- a built-in's reading by data -/
def rCD (K : PySem.W.Frag) (G : List PyData → Option Rs) : List V → Hp → VK → Prop := fun xs H Q => ∃ B ds r, Same B H ∧ DDs K B xs ds ∧ G ds = some r ∧ ∀ v H', NewR K B H v H' r → Q v H'
theorem OpR.imp {X : Cx} {f : Value → Value → Sem Value} {r r' : R2} (h : OpR X f r) (i : ∀ x y H Q, r' x y H Q → r x y H Q) : OpR X f r' := fun pins s σ H x y v u Q I rx ry hw => h pins s σ H x y v u Q I rx ry (i x y H Q hw)
theorem CallR.imp {X : Cx} {f : Value} {r r' : List V → Hp → VK → Prop} (h : CallR X f r) (i : ∀ xs H Q, r' xs H Q → r xs H Q) : CallR X f r' := fun pins s σ H xs us Q I rx hw => h pins s σ H xs us Q I rx (i xs H Q hw)

def eBin (G : PyData → PyData → Option Rs) (f g : EM) : EM := fun ρ => (f ρ).bind fun a => (g a.2).bind fun b => (G a.1.data b.1.data).map fun r => (r, b.2)
section
variable {X : Cx} {a b c : Expr} {f g h : EM} {pos : Pos} {G G' : PyData → PyData → Option Rs}
theorem bind_some {α β : Type} {o : Option α} {k : α → Option β} {y : β} (e : o.bind k = some y) : ∃ x, o = some x ∧ k x = some y := by
  cases o with
  | none => cases e
  | some x => exact ⟨x, rfl, e⟩
theorem map_some {α β : Type} {o : Option α} {k : α → β} {y : β} (e : o.map k = some y) : ∃ x, o = some x ∧ k x = y := by
  cases o with
  | none => cases e
  | some x => exact ⟨x, rfl, Option.some.inj e⟩
theorem eBin_some {ρ ρ' : Rho} {r : Rs} (e : eBin G f g ρ = some (r, ρ')) : ∃ r1 ρ1 r2, f ρ = some (r1, ρ1) ∧ g ρ1 = some (r2, ρ') ∧ G r1.data r2.data = some r := by
  obtain ⟨⟨r1, ρ1⟩, e1, e⟩ := bind_some e
  obtain ⟨⟨r2, ρ2⟩, e2, e⟩ := bind_some e
  obtain ⟨r3, e3, e⟩ := map_some e
  cases e
  exact ⟨r1, ρ1, r2, e1, e2, e3⟩
/-- two operands, then the rule by values -/
theorem tOp_of {K : PySem.W.Frag} {σ : L2.St} {H : Hp} {Q : VK} (q : tD K (eBin G f g) σ H Q) : tOp (rD K G) (tD K f) (tD K g) σ H Q := by
  obtain ⟨F, B, pa, ρ, r, ρ', S, e, k⟩ := q
  obtain ⟨r1, ρ1, r2, e1, e2, e3⟩ := eBin_some e
  refine tD_take S e1 fun v B1 H1 S1 s1 d1 => tD_take S1 e2 fun w B2 H2 S2 s2 d2 => ?_
  refine ⟨B2, _, _, r, S2.sb, d1.up s2, d2, e3, fun z H3 n => ?_⟩
  obtain ⟨B3, S3, s3, q3⟩ := n.back S2
  exact k z B3 H3 S3 (s1.trans (s2.trans s3)) q3
theorem de_op {op : Operator} (ho : OpR X (binaryOp op) (rD X.K G)) (ha : DE X a f) (hb : DE X b g) : DE X (.BinOp a op b pos) (eBin G f g) := PE.imp (pe_op ho ha hb) fun _ _ _ => tOp_of
theorem de_cmp {op : CmpOp} (ho : OpR X (compareOp op) (rD X.K G)) (ha : DE X a f) (hb : DE X b g) (hm : behindInMarks op b = false) : DE X (.Compare a [op] [b] pos) (eBin G f g) := PE.imp (pe_cmpR ho ha hb hm) fun _ _ _ => tOp_of
/-- a < b < c -/
def eChain (G G' : PyData → PyData → Option Rs) (f g h : EM) : EM := fun ρ => (f ρ).bind fun a => (g a.2).bind fun b => (G a.1.data b.1.data).bind fun
  | .d (.bool true) => (h b.2).bind fun c => (G' b.1.data c.1.data).map fun r => (r, c.2)
  | .d (.bool false) => some (.d (.bool false), b.2)
  | _ => none
end

/-! ### numbers -/
def gAdd : PyData → PyData → Option Rs
  | .int i, .int j => some (.d (.int (i + j)))
  | .list xs, .list ys => if xs.length + ys.length ≤ sizeLine then some (.l (xs ++ ys)) else none
  | .tuple xs, .tuple ys => if xs.length + ys.length ≤ sizeLine then some (.d (.tuple (xs ++ ys))) else none
  | .str x, .str y => if x.length + y.length ≤ sizeLine then some (.d (.str (x ++ y))) else none
  | _, _ => none
section
variable {X : Cx}
theorem dop_add : OpR X (binaryOp .Add) (rD X.K gAdd) := by
  intro pins s σ H x y v u Q I rx ry h
  obtain ⟨B, d, e, r, sb, hd, he, eg, k⟩ := h
  unfold gAdd at eg
  split at eg
  · cases eg; cases hd; cases he
    exact op_add pins s σ H _ _ v u Q I rx ry ⟨_, _, rfl, rfl, k _ _ (.old (.int _))⟩
  · split at eg
    · rename_i hz
      cases eg
      cases hd with
      | lst h1 d1 =>
        cases he with
        | lst h2 d2 =>
          exact op_cat pins s σ H _ _ v u Q I rx ry ⟨_, _, _, _, rfl, rfl, sb _ _ h1, sb _ _ h2, by rw [d1.length, d2.length]; exact hz, fun p n => k _ _ (.lst n (d1.append d2))⟩
    · cases eg
  · split at eg
    · rename_i hz
      cases eg
      cases hd with
      | tup h1 d1 =>
        cases he with
        | tup h2 d2 =>
          refine op_catA pins s σ H _ _ v u Q I rx ry ⟨_, _, _, _, rfl, rfl, SqT.of (sb _ _ h1), SqT.of (sb _ _ h2), by rw [d1.length, d2.length]; exact hz, fun z => ?_, fun z1 z2 => ?_, fun z1 z2 p n => k _ _ (.tup n (d1.append d2))⟩
          · subst z
            cases d1
            exact k _ _ (.old (.tup h2 d2))
          · subst z2
            cases d2
            rw [List.append_nil] at k
            exact k _ _ (.old (.tup h1 d1))
    · cases eg
  · split at eg
    · rename_i hz
      cases eg; cases hd; cases he
      exact op_add_str pins s σ H _ _ v u Q I rx ry ⟨_, _, rfl, rfl, hz, k _ _ (.old (.str _))⟩
    · cases eg
  · cases eg
/-- ints by a condition -/
def gI (C : Int → Int → Bool) (w : Int → Int → PyData) : PyData → PyData → Option Rs
  | .int i, .int j => if C i j = true then some (.d (w i j)) else none
  | _, _ => none
theorem dop_int {f : Value → Value → Sem Value} {C : Int → Int → Prop} {C' : Int → Int → Bool} {w : Int → Int → V} {w' : Int → Int → PyData} (ho : OpR X f (rI C w)) (hc : ∀ i j, C' i j = true → C i j) (hw : ∀ K B i j, DD K B (w i j) (w' i j)) : OpR X f (rD X.K (gI C' w')) := by
  intro pins s σ H x y v u Q I rx ry h
  obtain ⟨B, d, e, r, sb, hd, he, eg, k⟩ := h
  unfold gI at eg
  split at eg
  · split at eg
    · rename_i hz
      cases eg; cases hd; cases he
      exact ho pins s σ H _ _ v u Q I rx ry ⟨_, _, rfl, rfl, hc _ _ hz, k _ _ (.old (hw _ _ _ _))⟩
    · cases eg
  · cases eg
theorem rI_of {f : Value → Value → Sem Value} {w : Int → Int → V} (ho : OpR X f (rI0 w)) : OpR X f (rI (fun _ _ => True) w) := OpR.imp ho fun x y H Q ⟨i, j, a, b, _, q⟩ => ⟨i, j, a, b, q⟩
def gSub : PyData → PyData → Option Rs := gI (fun _ _ => true) fun i j => .int (i - j)
theorem dop_sub : OpR X (binaryOp .Sub) (rD X.K gSub) := dop_int (rI_of op_sub) (fun _ _ _ => trivial) fun _ _ _ _ => .int _
/-- the smaller factor within 64 bits; a list or tuple so many times -/
def cMul (i j : Int) : Bool := (decide (-(2 ^ 64) < i) && decide (i < 2 ^ 64)) || (decide (-(2 ^ 64) < j) && decide (j < 2 ^ 64))
def gMul : PyData → PyData → Option Rs
  | .int i, .int j => if cMul i j = true then some (.d (.int (i * j))) else none
  | .list xs, .int k => if (decide (-(2 ^ 63) ≤ k) && decide (k < 2 ^ 63) && decide (xs.length * k.toNat ≤ sizeLine)) = true then some (.l (List.replicate k.toNat xs).flatten) else none
  | .tuple xs, .int k => if (decide (2 ≤ k) && decide (k ≤ 1000) && decide (xs.length ≤ 1000) && !xs.isEmpty) = true then some (.d (.tuple (List.replicate k.toNat xs).flatten)) else none
  | _, _ => none
theorem dop_mul : OpR X (binaryOp .Mult) (rD X.K gMul) := by
  intro pins s σ H x y v u Q I rx ry h
  obtain ⟨B, d, e, r, sb, hd, he, eg, k⟩ := h
  unfold gMul at eg
  split at eg
  · split at eg
    · rename_i hz
      cases eg; cases hd; cases he
      refine op_mul pins s σ H _ _ v u Q I rx ry ⟨_, _, rfl, rfl, ?_, k _ _ (.old (.int _))⟩
      unfold cMul at hz
      simp only [Bool.or_eq_true, Bool.and_eq_true, decide_eq_true_eq] at hz
      exact hz
    · cases eg
  · split at eg
    · rename_i hz
      simp only [Bool.and_eq_true, decide_eq_true_eq] at hz
      cases eg
      cases he
      cases hd with
      | lst h1 d1 => exact op_rep pins s σ H _ _ v u Q I rx ry ⟨_, _, _, rfl, rfl, sb _ _ h1, hz.1.1, hz.1.2, by rw [d1.length]; exact hz.2, fun p n => k _ _ (.lst n (DDs.replicate _ d1))⟩
    · cases eg
  · split at eg
    · rename_i hz
      simp only [Bool.and_eq_true, decide_eq_true_eq, Bool.not_eq_true'] at hz
      cases eg
      cases he
      cases hd with
      | tup h1 d1 =>
        refine op_repT pins s σ H _ _ v u Q I rx ry ⟨_, _, _, rfl, rfl, SqT.of (sb _ _ h1), fun z => ?_, hz.1.1.1, hz.1.1.2, by rw [d1.length]; exact hz.1.2, fun p n => k _ _ (.tup n (DDs.replicate _ d1))⟩
        subst z
        cases d1
        exact absurd hz.2 (by simp)
    · cases eg
  · cases eg
def gFdiv : PyData → PyData → Option Rs := gI (fun _ j => decide (0 < j) && decide (j < 1073741824)) fun i j => .int (i / j)
theorem dop_fdiv : OpR X (binaryOp .FloorDiv) (rD X.K gFdiv) := dop_int op_fdiv (fun _ _ h => by simpa [CDiv] using h) fun _ _ _ _ => .int _
def gMod : PyData → PyData → Option Rs := gI (fun _ j => decide (0 < j)) fun i j => .int (i % j)
theorem dop_mod : OpR X (binaryOp .Mod) (rD X.K gMod) := dop_int op_mod (fun _ _ h => by simpa using h) fun _ _ _ _ => .int _
def cPow (i j : Int) : Bool := decide (0 ≤ j) && decide (j ≤ 1000000) && decide (i.natAbs < 2 ^ 64)
theorem cPow_ok (i j : Int) (h : cPow i j = true) : CPow i j := by
  unfold cPow at h
  simp only [Bool.and_eq_true, decide_eq_true_eq] at h
  exact ⟨h.1.1, h.1.2, h.2⟩
def gPow : PyData → PyData → Option Rs := gI cPow fun i j => .int (i ^ j.toNat)
theorem dop_pow : OpR X (binaryOp .Pow) (rD X.K gPow) := dop_int op_pow cPow_ok fun _ _ _ _ => .int _
def gShl : PyData → PyData → Option Rs := gI cPow fun i j => .int (i * 2 ^ j.toNat)
theorem dop_shl : OpR X (binaryOp .LShift) (rD X.K gShl) := dop_int op_shl cPow_ok fun _ _ _ _ => .int _
def gShr : PyData → PyData → Option Rs := gI (fun _ j => decide (0 ≤ j)) fun i j => .int (i / 2 ^ j.toNat)
theorem dop_shr : OpR X (binaryOp .RShift) (rD X.K gShr) := dop_int op_shr (fun _ _ h => by simpa using h) fun _ _ _ _ => .int _
def gAnd : PyData → PyData → Option Rs := gI (fun _ _ => true) fun i j => .int (Builtin.bitAnd i j)
theorem dop_and : OpR X (binaryOp .BitAnd) (rD X.K gAnd) := dop_int (rI_of op_and) (fun _ _ _ => trivial) fun _ _ _ _ => .int _
/-! ### comparisons -/
/-- ints, and tuples of ints -/
def intsOf : List PyData → Option (List Int)
  | [] => some []
  | .int i :: r => (intsOf r).map (i :: ·)
  | _ :: _ => none
theorem intsOf_eq : ∀ {xs : List PyData} {ns : List Int}, intsOf xs = some ns → xs = ns.map PyData.int
  | [], ns, e => by cases e; rfl
  | x :: r, ns, e => by
    unfold intsOf at e
    cases x with
    | int i =>
      obtain ⟨ms, e1, e2⟩ := map_some (show (intsOf r).map (i :: ·) = some ns from e)
      rw [intsOf_eq e1, ← e2]
      rfl
    | none => cases e
    | bool _ => cases e
    | str _ => cases e
    | list _ => cases e
    | tuple _ => cases e
    | dict _ => cases e
theorem intsOf_map : ∀ ns : List Int, intsOf (ns.map PyData.int) = some ns
  | [] => rfl
  | n :: ns => by
    show (intsOf (ns.map PyData.int)).map (n :: ·) = _
    rw [intsOf_map ns]
    rfl
def gLt : PyData → PyData → Option Rs
  | .int i, .int j => some (.d (.bool (decide (i < j))))
  | .tuple xs, .tuple ys => (intsOf xs).bind fun ns => (intsOf ys).map fun ms => .d (.bool (HT.lexLt ns ms))
  | _, _ => none
theorem dop_lt (hu : X.A.units < cLine) : OpR X (compareOp .Lt) (rD X.K gLt) := by
  intro pins s σ H x y v u Q I rx ry h
  obtain ⟨B, d, e, r, sb, hd, he, eg, k⟩ := h
  unfold gLt at eg
  split at eg
  · cases eg; cases hd; cases he
    exact op_lt pins s σ H _ _ v u Q I rx ry ⟨_, _, rfl, rfl, k _ _ (.old (.bl _))⟩
  · obtain ⟨ns, e1, eg⟩ := bind_some eg
    obtain ⟨ms, e2, eg⟩ := map_some eg
    cases eg
    rw [intsOf_eq e1] at hd
    rw [intsOf_eq e2] at he
    cases hd with
    | tup h1 d1 =>
      cases he with
      | tup h2 d2 =>
        rw [d1.ints] at h1
        rw [d2.ints] at h2
        exact op_ltT hu pins s σ H _ _ v u Q I rx ry ⟨_, _, ns, ms, rfl, rfl, SqT.of (sb _ _ h1), SqT.of (sb _ _ h2), k _ _ (.old (.bl _))⟩
  · cases eg
def gLe : PyData → PyData → Option Rs := gI (fun _ _ => true) fun i j => .bool (decide (i ≤ j))
theorem dop_le : OpR X (compareOp .LtE) (rD X.K gLe) := dop_int (rI_of op_le) (fun _ _ _ => trivial) fun _ _ _ _ => .bl _
def gGt : PyData → PyData → Option Rs := gI (fun _ _ => true) fun i j => .bool (decide (j < i))
theorem dop_gt : OpR X (compareOp .Gt) (rD X.K gGt) := dop_int (rI_of op_gt) (fun _ _ _ => trivial) fun _ _ _ _ => .bl _
def gGe : PyData → PyData → Option Rs := gI (fun _ _ => true) fun i j => .bool (decide (j ≤ i))
theorem dop_ge : OpR X (compareOp .GtE) (rD X.K gGe) := dop_int (rI_of op_ge) (fun _ _ _ => trivial) fun _ _ _ _ => .bl _
def gEq (d e : PyData) : Option Rs := if (SeqAt.shaped d && SeqAt.shaped e) = true then some (.d (.bool (PyData.eqv d e))) else none
theorem dop_eq (hu : X.A.units + 64 < cLine) : OpR X (compareOp .Eq) (rD X.K gEq) := by
  intro pins s σ H x y v u Q I rx ry h
  obtain ⟨B, d, e, r, sb, hd, he, eg, k⟩ := h
  unfold gEq at eg
  split at eg
  · rename_i hz
    cases eg
    obtain ⟨as, r1⟩ := DD.reads I d x v (hd.up sb) rx
    obtain ⟨bs, r2⟩ := DD.reads I e y u (he.up sb) ry
    exact SeqAt.compareEq_shaped r1 r2 (Bool.and_eq_true_iff.mp hz).1 (Bool.and_eq_true_iff.mp hz).2 hu ⟨.bl _, H, I, rfl, k _ _ (.old (.bl _))⟩
  · cases eg
def gNe (d e : PyData) : Option Rs := if (SeqAt.shaped d && SeqAt.shaped e) = true then some (.d (.bool (!PyData.eqv d e))) else none
theorem dop_ne (hu : X.A.units + 64 < cLine) : OpR X (compareOp .NotEq) (rD X.K gNe) := by
  intro pins s σ H x y v u Q I rx ry h
  obtain ⟨B, d, e, r, sb, hd, he, eg, k⟩ := h
  unfold gNe at eg
  split at eg
  · rename_i hz
    cases eg
    obtain ⟨as, r1⟩ := DD.reads I d x v (hd.up sb) rx
    obtain ⟨bs, r2⟩ := DD.reads I e y u (he.up sb) ry
    exact SeqAt.compareNe_shaped r1 r2 (Bool.and_eq_true_iff.mp hz).1 (Bool.and_eq_true_iff.mp hz).2 hu ⟨.bl _, H, I, rfl, k _ _ (.old (.bl _))⟩
  · cases eg
def isNone : PyData → Bool
  | .none => true
  | _ => false
theorem dd_none {K : PySem.W.Frag} {B : Hp} {v : V} {d : PyData} (h : DD K B v d) : decide (v = .non) = isNone d := by
  cases h <;> simp [isNone]
def gIs (d e : PyData) : Option Rs := if isNone e = true then some (.d (.bool (isNone d))) else none
theorem dop_is : OpR X (compareOp .Is) (rD X.K gIs) := by
  intro pins s σ H x y v u Q I rx ry h
  obtain ⟨B, d, e, r, sb, hd, he, eg, k⟩ := h
  unfold gIs at eg
  split at eg
  · rename_i hz
    cases eg
    refine op_isN pins s σ H _ _ v u Q I rx ry ⟨?_, ?_⟩
    · have := dd_none he
      rw [hz] at this
      exact of_decide_eq_true this
    · rw [dd_none hd]
      exact k _ _ (.old (.bl _))
  · cases eg
def gIsNot (d e : PyData) : Option Rs := if isNone e = true then some (.d (.bool (!isNone d))) else none
theorem dop_isnot : OpR X (compareOp .IsNot) (rD X.K gIsNot) := by
  intro pins s σ H x y v u Q I rx ry h
  obtain ⟨B, d, e, r, sb, hd, he, eg, k⟩ := h
  unfold gIsNot at eg
  split at eg
  · rename_i hz
    cases eg
    refine op_notN pins s σ H _ _ v u Q I rx ry ⟨?_, ?_⟩
    · have := dd_none he
      rw [hz] at this
      exact of_decide_eq_true this
    · rw [dd_none hd]
      exact k _ _ (.old (.bl _))
  · cases eg
/-! ### in -/
def flatD : PyData → Bool
  | .none => true
  | .bool _ => true
  | .int _ => true
  | .str _ => true
  | _ => false
end
end DL
end PDL2
section PDL3
/-! Expressions: names, constants, arguments, displays, tests. -/
namespace DL
open PySem PySem.Spec PyProof.Rows L2
variable [TC : TabsC]

section
variable {X : Cx}
/-! ### in -/
def itemsOf : PyData → Option (List PyData)
  | .list xs => some xs
  | .tuple xs => some xs
  | _ => none
def gIn (neg : Bool) (d e : PyData) : Option Rs := (itemsOf e).bind fun xs => if (PyData.canLayAll0 xs && SeqAt.shaped d) = true then some (.d (.bool (xor neg (xs.any fun y => PyData.eqv y d)))) else none
theorem dop_in (hu : X.A.units + 65 < cLine) : OpR X (compareOp .In) (rD X.K (gIn false)) := by
  intro pins s σ H x y v u Q I rx ry h
  obtain ⟨B, d, e, r, sb, hd, he, eg, k⟩ := h
  obtain ⟨xs, e1, eg⟩ := bind_some eg
  split at eg
  · rename_i hz
    cases eg
    obtain ⟨as, r1⟩ := DD.reads I d x v (hd.up sb) rx
    obtain ⟨bs, r2⟩ := DD.reads I e y u (he.up sb) ry
    have z1 := (Bool.and_eq_true_iff.mp hz).1
    have z2 := (Bool.and_eq_true_iff.mp hz).2
    have fin : EP X pins σ Q (.bool (xs.any fun y => PyData.eqv y d)) s := ⟨.bl _, H, I, rfl, by
      have q := k _ _ (NewR.old (.bl (xor false (xs.any fun y => PyData.eqv y d))))
      rw [Bool.false_xor] at q
      exact q⟩
    cases e with
    | list ys =>
      cases e1
      exact SeqAt.in_list_reads r2 r1 z1 (SeqAt.canLay_of_shaped z2) (room_in_shaped z2 hu) fin
    | tuple ys =>
      cases e1
      exact SeqAt.in_tuple_reads r2 r1 z1 (SeqAt.canLay_of_shaped z2) (room_in_shaped z2 hu) fin
    | none => cases e1
    | bool _ => cases e1
    | int _ => cases e1
    | str _ => cases e1
    | dict _ => cases e1
  · cases eg
theorem dop_notin (hu : X.A.units + 65 < cLine) : OpR X (compareOp .NotIn) (rD X.K (gIn true)) := by
  intro pins s σ H x y v u Q I rx ry h
  obtain ⟨B, d, e, r, sb, hd, he, eg, k⟩ := h
  obtain ⟨xs, e1, eg⟩ := bind_some eg
  split at eg
  · rename_i hz
    cases eg
    obtain ⟨as, r1⟩ := DD.reads I d x v (hd.up sb) rx
    obtain ⟨bs, r2⟩ := DD.reads I e y u (he.up sb) ry
    have z1 := (Bool.and_eq_true_iff.mp hz).1
    have z2 := (Bool.and_eq_true_iff.mp hz).2
    have fin : EP X pins σ Q (.bool (!xs.any fun y => PyData.eqv y d)) s := ⟨.bl _, H, I, rfl, by
      have q := k _ _ (NewR.old (.bl (xor true (xs.any fun y => PyData.eqv y d))))
      rw [Bool.true_xor] at q
      exact q⟩
    cases e with
    | list ys =>
      cases e1
      exact SeqAt.notIn_list_reads r2 r1 z1 (SeqAt.canLay_of_shaped z2) (room_in_shaped z2 hu) fin
    | tuple ys =>
      cases e1
      exact SeqAt.notIn_tuple_reads r2 r1 z1 (SeqAt.canLay_of_shaped z2) (room_in_shaped z2 hu) fin
    | none => cases e1
    | bool _ => cases e1
    | int _ => cases e1
    | str _ => cases e1
    | dict _ => cases e1
  · cases eg

/-! ### names and constants -/
def eK (d : PyData) : EM := fun ρ => some (.d d, ρ)
theorem tC_of {K : PySem.W.Frag} {v : V} {d : PyData} (hd : ∀ B, DD K B v d) : ∀ σ H Q, tD K (eK d) σ H Q → tC v σ H Q := fun σ H Q ⟨F, B, pa, ρ, r, ρ', S, e, k⟩ => by
  cases e
  exact k v B H S (Same.refl _) (hd B)
theorem de_int {i j pos} : DE X (.Constant (.int i) j pos) (eK (.int i)) := PE.imp pe_int (tC_of fun B => .int i)
theorem de_bl {b j pos} : DE X (.Constant (.bool b) j pos) (eK (.bool b)) := PE.imp pe_bl (tC_of fun B => .bl b)
theorem de_non {j pos} : DE X (.Constant .none j pos) (eK .none) := PE.imp pe_non (tC_of fun B => .non)
theorem de_str {x j pos} : DE X (.Constant (.str x) j pos) (eK (.str x)) := PE.imp pe_str (tC_of fun B => .str x)
/-- a module's int -/
theorem de_globI {x : Str} {i : Int} {t : Tok} {pos : Pos} (hg : Gl X x) (hm : X.mg x = some (.int i t)) (hd : (x == ("__debug__" : Str)) = false := by decide) : DE X (.Name x pos) (eK (.int i)) := PE.imp (pe_glob (v := .int i) hg hm ⟨_, rfl⟩ hd) (tC_of fun B => .int i)

/-- a slot's value as data; a list of its own is data from then on -/
def eVar (i : Nat) : EM := fun ρ => match ρ[i]? with
  | some (.d x) => some (.d x, ρ)
  | some (.l xs) => some (.d (.list xs), ρ.set i (.d (.list xs)))
  | _ => none
section
variable {K : PySem.W.Frag} {F B B' H H' : Hp} {pa : Nat → Option Addr} {σ : L2.St} {ρ : Rho} {v : V}
theorem CellAt.set {ρ : Rho} {σ : L2.St} {i j : Nat} {a : Addr} {s : Sl} (h : CellAt (ρ.set i s) σ j a) : (j = i ∧ s.cell = true ∧ σ[j]? = some (some (.ref a))) ∨ (j ≠ i ∧ CellAt ρ σ j a) := by
  obtain ⟨t, e, c, z⟩ := h
  by_cases hj : j = i
  · subst hj
    have hl : j < ρ.length := by
      obtain ⟨hl, _⟩ := List.getElem?_eq_some_iff.mp e
      simpa using hl
    rw [List.getElem?_set_self hl] at e
    cases e
    exact .inl ⟨rfl, c, z⟩
  · rw [List.getElem?_set_ne (Ne.symm hj)] at e
    exact .inr ⟨hj, t, e, c, z⟩
/-- a slot's own list becomes data -/
theorem StR.frz (S : StR K F B pa σ H ρ) {i : Nat} {xs : List PyData} (e : ρ[i]? = some (.l xs)) : ∃ B' v, Same B B' ∧ σ[i]? = some (some v) ∧ DD K B' v (.list xs) ∧ StR K F B' pa σ H (ρ.set i (.d (.list xs))) := by
  obtain ⟨a, vs, h1, h2, h3, h4, h5⟩ := S.sl i _ e
  have ca : CellAt ρ σ i a := ⟨_, e, rfl, h1⟩
  have sB := same_new (o := .lst vs) h2
  refine ⟨upd B a (.lst vs), .ref a, sB, h1, .lst upd_same (h5.up sB), ⟨by simp [S.len], same_both S.sb h4, S.sf, ⟨S.tb.t, S.tb.b.upd (fun ps z => nomatch z), S.tb.f⟩, fun q hq => ?_, fun j s es => ?_, fun j k b c1 c2 => ?_⟩⟩
  · rw [upd_ne (fun z => hq (by rw [z]; exact h3))]
    exact S.fb q hq
  · by_cases hj : j = i
    · subst hj
      have hl : j < ρ.length := (List.getElem?_eq_some_iff.mp e).1
      rw [List.getElem?_set_self hl] at es
      cases es
      exact ⟨_, h1, .lst upd_same (h5.up sB)⟩
    · rw [List.getElem?_set_ne (Ne.symm hj)] at es
      refine (S.sl j s es).keep sB fun b c z => ⟨?_, rfl⟩
      have cb : CellAt ρ σ j b := ⟨s, es, c, z⟩
      rw [upd_ne (fun q => hj (S.ds j i a (by rw [← q]; exact cb) ca))]
      exact (S.cellB cb).1
  · rcases c1.set with ⟨_, z, _⟩ | ⟨_, c1⟩
    · cases z
    · rcases c2.set with ⟨_, z, _⟩ | ⟨_, c2⟩
      · cases z
      · exact S.ds j k b c1 c2
end
theorem tVar_of {K : PySem.W.Frag} {i : Nat} : ∀ σ H Q, tD K (eVar i) σ H Q → tVar i σ H Q := fun σ H Q ⟨F, B, pa, ρ, r, ρ', S, e, k⟩ => by
  unfold eVar at e
  split at e
  · rename_i x hx
    cases e
    obtain ⟨v, h1, h2⟩ := S.sl i _ hx
    exact ⟨v, h1, k v B H S (Same.refl _) h2⟩
  · rename_i xs hx
    cases e
    obtain ⟨B', v, s1, h1, h2, S'⟩ := S.frz hx
    exact ⟨v, h1, k v B' H S' s1 h2⟩
  · cases e
theorem de_var (i : Nat) {x : Str} {pos : Pos} (hN : X.N[i]? = some x := by rfl) (hv : Vis X.env.scope x := by first | exact Or.inl rfl | exact Or.inr (Or.inl rfl) | exact Or.inr (Or.inr rfl)) (hd : (x == ("__debug__" : Str)) = false := by decide)
    (hcd : (x == ("__classdict__" : Str)) = false := by decide) : DE X (.Name x pos) (eVar i) := PE.imp (pe_var hN hv hd hcd) tVar_of

/-! ### arguments -/
abbrev AM := Rho → Option (List PyData × Rho)
def tDA (K : PySem.W.Frag) (f : AM) : TA := fun σ H Q => ∃ F B pa ρ ds ρ', StR K F B pa σ H ρ ∧ f ρ = some (ds, ρ') ∧ ∀ vs B' H', StR K F B' pa σ H' ρ' → Same B B' → DDs K B' vs ds → Q vs H'
abbrev DA (X : Cx) (es : List Expr) (f : AM) : Prop := PA X es (tDA X.K f)
theorem PA.imp {X : Cx} {es : List Expr} {t t' : TA} (h : PA X es t) (i : ∀ σ H Q, t' σ H Q → t σ H Q) : PA X es t' := ⟨fun pos pins s σ H Q I hw => h.run pos pins s σ H Q I (i σ H Q hw)⟩
def aNil : AM := fun ρ => some ([], ρ)
def aCons (f : EM) (g : AM) : AM := fun ρ => (f ρ).bind fun a => (g a.2).map fun b => (a.1.data :: b.1, b.2)
theorem da_nil : DA X [] aNil := PA.imp pa_nil fun σ H Q ⟨F, B, pa, ρ, ds, ρ', S, e, k⟩ => by
  cases e
  exact k [] B H S (Same.refl _) .nil
theorem da_cons {e : Expr} {es : List Expr} {f : EM} {g : AM} (ha : DE X e f) (hr : DA X es g) (hs : starEach (e :: es) X.env = (false, eval e X.env) :: starEach es X.env := by rfl) : DA X (e :: es) (aCons f g) :=
  PA.imp (pa_cons ha hr hs) fun σ H Q ⟨F, B, pa, ρ, ds, ρ', S, e, k⟩ => by
    obtain ⟨⟨r1, ρ1⟩, e1, e⟩ := bind_some e
    obtain ⟨⟨es, ρ2⟩, e2, e⟩ := map_some e
    cases e
    refine tD_take S e1 fun v B1 H1 S1 s1 d1 => ⟨F, B1, pa, ρ1, es, _, S1, e2, fun vs B2 H2 S2 s2 d2 => ?_⟩
    exact k _ B2 H2 S2 (s1.trans s2) (.cons (d1.up s2) d2)
/-- a built-in on arguments -/
def eApp (G : List PyData → Option Rs) (f : AM) : EM := fun ρ => (f ρ).bind fun a => (G a.1).map fun r => (r, a.2)
theorem tCB_of {K : PySem.W.Frag} {G : List PyData → Option Rs} {f : AM} : ∀ σ H Q, tD K (eApp G f) σ H Q → tCB (rCD K G) (tDA K f) σ H Q := fun σ H Q ⟨F, B, pa, ρ, r, ρ', S, e, k⟩ => by
  obtain ⟨⟨ds, ρ1⟩, e1, e⟩ := bind_some e
  obtain ⟨r', e2, e⟩ := map_some e
  cases e
  refine ⟨F, B, pa, ρ, ds, _, S, e1, fun vs B1 H1 S1 s1 d1 => ⟨B1, ds, r, S1.sb, d1, e2, fun v H2 n => ?_⟩⟩
  obtain ⟨B2, S2, s2, q2⟩ := n.back S1
  exact k v B2 H2 S2 (s1.trans s2) q2
section
variable {x : Str} {p pos : Pos} {e : Expr} {es : List Expr} {f : AM} {G : List PyData → Option Rs} {id T : String}
theorem de_callB (hc : CallR X (.builtin id) (rCD X.K G)) (hg : Gl X x) (hm : X.mg x = none) (hv : bootBuiltins x = some (.builtin id)) (ha : DA X (e :: es) f) (hn : x ≠ "__name__" := by decide) (hdb : (x == ("__debug__" : Str)) = false := by decide)
    (he : starEach (e :: es) X.env = (false, eval e X.env) :: starEach es X.env := by rfl) (hpl : (backTo pos (starEach es X.env)).any (·.1) = false := by rfl) : DE X (.Call (.Name x p) (e :: es) [] pos) (eApp G f) :=
  PE.imp (pe_callB hc hg hm hv ha hn hdb he hpl) tCB_of
theorem de_callTy (hc : CallR X (.type T) (rCD X.K G)) (hg : Gl X x) (hm : X.mg x = none) (hv : bootBuiltins x = some (.type T)) (ha : DA X (e :: es) f) (hn : x ≠ "__name__" := by decide) (hdb : (x == ("__debug__" : Str)) = false := by decide)
    (he : starEach (e :: es) X.env = (false, eval e X.env) :: starEach es X.env := by rfl) (hpl : (backTo pos (starEach es X.env)).any (·.1) = false := by rfl) : DE X (.Call (.Name x p) (e :: es) [] pos) (eApp G f) :=
  PE.imp (pe_callTy hc hg hm hv ha hn hdb he hpl) tCB_of
end
/-! ### displays -/
def gTup (ds : List PyData) : Option Rs := if ds.length ≤ sizeLine then some (.d (.tuple ds)) else none
def gLst (ds : List PyData) : Option Rs := if ds.length ≤ sizeLine then some (.l ds) else none
theorem de_tup {es : List Expr} {k : Nat} {pos : Pos} {f : AM} (h : DA X es f) : DE X (.Tuple es k pos) (eApp gTup f) := PE.imp (pe_tup h) fun σ H Q ⟨F, B, pa, ρ, r, ρ', S, e, k⟩ => by
  obtain ⟨⟨ds, ρ1⟩, e1, e⟩ := bind_some e
  obtain ⟨r', e2, e⟩ := map_some e
  cases e
  refine ⟨F, B, pa, ρ, ds, _, S, e1, fun vs B1 H1 S1 s1 d1 => ?_⟩
  unfold gTup at e2
  split at e2
  · rename_i hz
    cases e2
    refine ⟨by rw [d1.length]; exact hz, fun q n => ?_⟩
    obtain ⟨B2, S2, s2, q2⟩ := (NewR.tup n d1).back S1
    exact k _ B2 _ S2 (s1.trans s2) q2
  · cases e2
theorem de_lst {es : List Expr} {pos : Pos} {f : AM} (h : DA X es f) : DE X (.List es pos) (eApp gLst f) := PE.imp (pe_lst h) fun σ H Q ⟨F, B, pa, ρ, r, ρ', S, e, k⟩ => by
  obtain ⟨⟨ds, ρ1⟩, e1, e⟩ := bind_some e
  obtain ⟨r', e2, e⟩ := map_some e
  cases e
  refine ⟨F, B, pa, ρ, ds, _, S, e1, fun vs B1 H1 S1 s1 d1 => ?_⟩
  unfold gLst at e2
  split at e2
  · rename_i hz
    cases e2
    refine ⟨by rw [d1.length]; exact hz, fun q n => ?_⟩
    obtain ⟨B2, S2, s2, q2⟩ := (NewR.lst n d1).back S1
    exact k _ B2 _ S2 (s1.trans s2) q2
  · cases e2
/-! ### tests -/
abbrev TM := Rho → Option (Bool × Rho)
def tDT (K : PySem.W.Frag) (f : TM) : TT := fun σ H Q => ∃ F B pa ρ b ρ', StR K F B pa σ H ρ ∧ f ρ = some (b, ρ') ∧ ∀ B' H', StR K F B' pa σ H' ρ' → Same B B' → Q b H'
abbrev DT (X : Cx) (e : Expr) (f : TM) : Prop := PT X e (tDT X.K f)
abbrev DW (X : Cx) (e : Expr) (f : TM) : Prop := PW X e (tDT X.K f)
theorem PW.imp {X : Cx} {e : Expr} {t t' : TT} (h : PW X e t) (i : ∀ σ H Q, t' σ H Q → t σ H Q) : PW X e t' := ⟨fun w pins s σ H Q I hw => h.run w pins s σ H Q I (i σ H Q hw)⟩
def boolOf : PyData → Option Bool
  | .bool b => some b
  | _ => none
def tVal (f : EM) : TM := fun ρ => (f ρ).bind fun a => (boolOf a.1.data).map fun b => (b, a.2)
theorem boolOf_eq {d : PyData} {b : Bool} (h : boolOf d = some b) : d = .bool b := by
  cases d with
  | bool c => cases h; rfl
  | none => cases h
  | int _ => cases h
  | str _ => cases h
  | list _ => cases h
  | tuple _ => cases h
  | dict _ => cases h
theorem dt_val {e : Expr} {f : EM} (he : DE X e f) (hs : ∀ whole, isTrue e X.env whole = (do let v ← whole; standAt e.pos; holding [v] (truthy v)) := by intro _; rfl) : DT X e (tVal f) :=
  PT.imp (pt_val he hs) fun σ H Q ⟨F, B, pa, ρ, b, ρ', S, e, k⟩ => by
    obtain ⟨⟨r, ρ1⟩, e1, e⟩ := bind_some e
    obtain ⟨b', e2, e⟩ := map_some e
    cases e
    refine tD_take S e1 fun v B1 H1 S1 s1 d1 => ?_
    have d1 : DD X.K B1 v r.data := d1
    rw [boolOf_eq e2] at d1
    cases d1
    exact ⟨_, rfl, k B1 H1 S1 s1⟩
end
end DL
end PDL3
section PDL4
/-! Expressions: chains, and, or, not, if .. else, a look that changes nothing, subscripts, slices. -/
namespace DL
open PySem PySem.Spec PyProof.Rows L2
variable [TC : TabsC]

section
variable {X : Cx} {a b c : Expr} {f g h : EM} {pos : Pos} {G G' : PyData → PyData → Option Rs}
theorem tChain_of {K : PySem.W.Frag} : ∀ σ H Q, tD K (eChain G G' f g h) σ H Q → tChain (rD K G) (rD K G') (tD K f) (tD K g) (tD K h) σ H Q := fun σ H Q ⟨F, B, pa, ρ, r, ρ', S, e, k⟩ => by
  obtain ⟨⟨r1, ρ1⟩, e1, e⟩ := bind_some e
  obtain ⟨⟨r2, ρ2⟩, e2, e⟩ := bind_some e
  obtain ⟨r3, e3, e⟩ := bind_some e
  refine tD_take S e1 fun v B1 H1 S1 s1 d1 => tD_take S1 e2 fun w B2 H2 S2 s2 d2 => ?_
  refine ⟨B2, _, _, r3, S2.sb, d1.up s2, d2, e3, fun z H3 n => ?_⟩
  obtain ⟨B3, S3, s3, q3⟩ := n.back S2
  cases r3 with
  | l xs => cases e
  | d x =>
    cases x with
    | bool t =>
      cases q3
      refine ⟨t, rfl, ?_⟩
      cases t with
      | false =>
        cases e
        rw [if_neg Bool.false_ne_true]
        exact k _ B3 H3 S3 (s1.trans (s2.trans s3)) (.bl false)
      | true =>
        rw [if_pos rfl]
        obtain ⟨⟨r4, ρ4⟩, e4, e⟩ := bind_some e
        obtain ⟨r5, e5, e⟩ := map_some e
        cases e
        refine tD_take S3 e4 fun y B4 H4 S4 s4 d4 => ⟨B4, _, _, r, S4.sb, d2.up (s3.trans s4), d4, e5, fun z' H5 n' => ?_⟩
        obtain ⟨B5, S5, s5, q5⟩ := n'.back S4
        exact k z' B5 H5 S5 (s1.trans (s2.trans (s3.trans (s4.trans s5)))) q5
    | none => cases e
    | int _ => cases e
    | str _ => cases e
    | list _ => cases e
    | tuple _ => cases e
    | dict _ => cases e
theorem de_chain {op op' : CmpOp} (ho : OpR X (compareOp op) (rD X.K G)) (ho' : OpR X (compareOp op') (rD X.K G')) (ha : DE X a f) (hb : DE X b g) (hc : DE X c h) (hm : lastMarks [op, op'] [b, c] = false := by with_unfolding_all rfl) :
    DE X (.Compare a [op, op'] [b, c] pos) (eChain G G' f g h) := PE.imp (pe_chain ho ho' ha hb hc hm) tChain_of
theorem tTest_of {K : PySem.W.Frag} {t : TE} {f : EM} (i : ∀ σ H Q, tD K f σ H Q → t σ H Q) : ∀ σ H Q, tDT K (tVal f) σ H Q → tTest t σ H Q := fun σ H Q ⟨F, B, pa, ρ, b, ρ', S, e, k⟩ => by
  obtain ⟨⟨r, ρ1⟩, e1, e⟩ := bind_some e
  obtain ⟨b', e2, e⟩ := map_some e
  cases e
  refine i σ H _ (tD_take S e1 fun v B1 H1 S1 s1 d1 => ?_)
  have d1 : DD K B1 v r.data := d1
  rw [boolOf_eq e2] at d1
  cases d1
  exact ⟨_, rfl, k B1 H1 S1 s1⟩
theorem dt_chain {op op' : CmpOp} (ho : OpR X (compareOp op) (rD X.K G)) (ho' : OpR X (compareOp op') (rD X.K G')) (ha : DE X a f) (hb : DE X b g) (hc : DE X c h) (hm : lastMarks [op, op'] [b, c] = false := by with_unfolding_all rfl) :
    DT X (.Compare a [op, op'] [b, c] pos) (tVal (eChain G G' f g h)) := PT.imp (pt_chain ho ho' ha hb hc hm) (tTest_of tChain_of)
theorem dt_cmp {op : CmpOp} (ho : OpR X (compareOp op) (rD X.K G)) (ha : DE X a f) (hb : DE X b g) (hm : behindInMarks op b = false) : DT X (.Compare a [op] [b] pos) (tVal (eBin G f g)) := PT.imp (pt_cmpR ho ha hb hm) (tTest_of fun _ _ _ => tOp_of)

/-! ### and, or, not -/
def eAnd (f g : EM) : EM := fun ρ => (f ρ).bind fun a => match a.1.data with
  | .bool true => g a.2
  | .bool false => some (.d (.bool false), a.2)
  | _ => none
def eOr (f g : EM) : EM := fun ρ => (f ρ).bind fun a => match a.1.data with
  | .bool false => g a.2
  | .bool true => some (.d (.bool true), a.2)
  | _ => none
def eNot (f : EM) : EM := fun ρ => (f ρ).bind fun a => match a.1.data with
  | .bool b => some (.d (.bool (!b)), a.2)
  | _ => none
theorem de_one {op : BoolOp} (ha : DE X a f) : DE X (.BoolOp op [a] pos) f := pe_one ha
theorem de_and {rest : List Expr} (ha : DE X a f) (hb : DE X (.BoolOp .And (b :: rest) pos) g) : DE X (.BoolOp .And (a :: b :: rest) pos) (eAnd f g) := PE.imp (pe_and ha hb) fun σ H Q ⟨F, B, pa, ρ, r, ρ', S, e, k⟩ => by
  obtain ⟨⟨r1, ρ1⟩, e1, e⟩ := bind_some e
  refine tD_take S e1 fun v B1 H1 S1 s1 d1 => ?_
  have d1 : DD X.K B1 v r1.data := d1
  change (match r1.data with | .bool true => g ρ1 | .bool false => some (.d (.bool false), ρ1) | _ => none) = some (r, ρ') at e
  split at e
  · rename_i hz
    rw [hz] at d1
    cases d1
    refine ⟨true, rfl, ?_⟩
    rw [if_pos rfl]
    exact ⟨F, B1, pa, ρ1, r, ρ', S1, e, fun w B2 H2 S2 s2 q2 => k w B2 H2 S2 (s1.trans s2) q2⟩
  · rename_i hz
    rw [hz] at d1
    cases d1
    cases e
    refine ⟨false, rfl, ?_⟩
    rw [if_neg Bool.false_ne_true]
    exact k _ B1 H1 S1 s1 (.bl false)
  · cases e
theorem de_or {rest : List Expr} (ha : DE X a f) (hb : DE X (.BoolOp .Or (b :: rest) pos) g) : DE X (.BoolOp .Or (a :: b :: rest) pos) (eOr f g) := PE.imp (pe_or ha hb) fun σ H Q ⟨F, B, pa, ρ, r, ρ', S, e, k⟩ => by
  obtain ⟨⟨r1, ρ1⟩, e1, e⟩ := bind_some e
  refine tD_take S e1 fun v B1 H1 S1 s1 d1 => ?_
  have d1 : DD X.K B1 v r1.data := d1
  change (match r1.data with | .bool false => g ρ1 | .bool true => some (.d (.bool true), ρ1) | _ => none) = some (r, ρ') at e
  split at e
  · rename_i hz
    rw [hz] at d1
    cases d1
    refine ⟨false, rfl, ?_⟩
    rw [if_neg Bool.false_ne_true]
    exact ⟨F, B1, pa, ρ1, r, ρ', S1, e, fun w B2 H2 S2 s2 q2 => k w B2 H2 S2 (s1.trans s2) q2⟩
  · rename_i hz
    rw [hz] at d1
    cases d1
    cases e
    refine ⟨true, rfl, ?_⟩
    rw [if_pos rfl]
    exact k _ B1 H1 S1 s1 (.bl true)
  · cases e
theorem de_not (ha : DE X a f) : DE X (.UnaryOp .Not a pos) (eNot f) := PE.imp (pe_not ha) fun σ H Q ⟨F, B, pa, ρ, r, ρ', S, e, k⟩ => by
  obtain ⟨⟨r1, ρ1⟩, e1, e⟩ := bind_some e
  refine tD_take S e1 fun v B1 H1 S1 s1 d1 => ?_
  have d1 : DD X.K B1 v r1.data := d1
  change (match r1.data with | .bool b => some (.d (.bool (!b)), ρ1) | _ => none) = some (r, ρ') at e
  split at e
  · rename_i hz
    rw [hz] at d1
    cases d1
    cases e
    exact ⟨_, rfl, k _ B1 H1 S1 s1 (.bl _)⟩
  · cases e
def tAnd2 (f g : TM) : TM := fun ρ => (f ρ).bind fun a => if a.1 = true then g a.2 else some (false, a.2)
def tOr2 (f g : TM) : TM := fun ρ => (f ρ).bind fun a => if a.1 = true then some (true, a.2) else g a.2
def tNot2 (f : TM) : TM := fun ρ => (f ρ).map fun a => (!a.1, a.2)
section
variable {f g : TM} {rest : List Expr}
theorem dw_and1 (ha : DT X a f) : DW X (.BoolOp .And [a] pos) f := pw_and1 ha
theorem dw_or1 (ha : DT X a f) : DW X (.BoolOp .Or [a] pos) f := pw_or1 ha
theorem dw_and (ha : DT X a f) (hb : DW X (.BoolOp .And (b :: rest) pos) g) : DW X (.BoolOp .And (a :: b :: rest) pos) (tAnd2 f g) := PW.imp (pw_and ha hb) fun σ H Q ⟨F, B, pa, ρ, c, ρ', S, e, k⟩ => by
  obtain ⟨⟨c1, ρ1⟩, e1, e⟩ := bind_some e
  refine ⟨F, B, pa, ρ, c1, ρ1, S, e1, fun B1 H1 S1 s1 => ?_⟩
  cases c1 with
  | true =>
    rw [if_pos rfl]
    exact ⟨F, B1, pa, ρ1, c, ρ', S1, e, fun B2 H2 S2 s2 => k B2 H2 S2 (s1.trans s2)⟩
  | false =>
    cases e
    rw [if_neg Bool.false_ne_true]
    exact k B1 H1 S1 s1
theorem dw_or (ha : DT X a f) (hb : DW X (.BoolOp .Or (b :: rest) pos) g) : DW X (.BoolOp .Or (a :: b :: rest) pos) (tOr2 f g) := PW.imp (pw_or ha hb) fun σ H Q ⟨F, B, pa, ρ, c, ρ', S, e, k⟩ => by
  obtain ⟨⟨c1, ρ1⟩, e1, e⟩ := bind_some e
  refine ⟨F, B, pa, ρ, c1, ρ1, S, e1, fun B1 H1 S1 s1 => ?_⟩
  cases c1 with
  | true =>
    cases e
    rw [if_pos rfl]
    exact k B1 H1 S1 s1
  | false =>
    rw [if_neg Bool.false_ne_true]
    exact ⟨F, B1, pa, ρ1, c, ρ', S1, e, fun B2 H2 S2 s2 => k B2 H2 S2 (s1.trans s2)⟩
theorem dt_not (ha : DT X a f) : DT X (.UnaryOp .Not a pos) (tNot2 f) := PT.imp (pt_not ha) fun σ H Q ⟨F, B, pa, ρ, c, ρ', S, e, k⟩ => by
  obtain ⟨⟨c1, ρ1⟩, e1, e⟩ := map_some e
  cases e
  exact ⟨F, B, pa, ρ, c1, _, S, e1, fun B1 H1 S1 s1 => k B1 H1 S1 s1⟩
end
/-! ### a if t else b -/
def eIf (t : TM) (f g : EM) : EM := fun ρ => (t ρ).bind fun a => if a.1 = true then f a.2 else g a.2
theorem de_if {t : TM} (hc : DT X c t) (ha : DE X a f) (hb : DE X b g) : DE X (.IfExp c a b pos) (eIf t f g) := PE.imp (pe_ifExp hc ha hb) fun σ H Q ⟨F, B, pa, ρ, r, ρ', S, e, k⟩ => by
  obtain ⟨⟨c1, ρ1⟩, e1, e⟩ := bind_some e
  refine ⟨F, B, pa, ρ, c1, ρ1, S, e1, fun B1 H1 S1 s1 => ?_⟩
  cases c1 with
  | true =>
    rw [if_pos rfl]
    exact ⟨F, B1, pa, ρ1, r, ρ', S1, e, fun w B2 H2 S2 s2 q2 => k w B2 H2 S2 (s1.trans s2) q2⟩
  | false =>
    rw [if_neg Bool.false_ne_true]
    exact ⟨F, B1, pa, ρ1, r, ρ', S1, e, fun w B2 H2 S2 s2 q2 => k w B2 H2 S2 (s1.trans s2) q2⟩
/-! ### -a -/
def eNeg (f : EM) : EM := fun ρ => (f ρ).bind fun a => match a.1.data with
  | .int i => some (.d (.int (-i)), a.2)
  | _ => none
theorem de_neg (ha : DE X a f) : DE X (.UnaryOp .USub a pos) (eNeg f) := PE.imp (pe_un un_neg ha) fun σ H Q ⟨F, B, pa, ρ, r, ρ', S, e, k⟩ => by
  obtain ⟨⟨r1, ρ1⟩, e1, e⟩ := bind_some e
  refine tD_take S e1 fun v B1 H1 S1 s1 d1 => ?_
  have d1 : DD X.K B1 v r1.data := d1
  change (match r1.data with | .int i => some (.d (.int (-i)), ρ1) | _ => none) = some (r, ρ') at e
  split at e
  · rename_i hz
    rw [hz] at d1
    cases d1
    cases e
    exact ⟨_, rfl, k _ B1 H1 S1 s1 (.int _)⟩
  · cases e
end

/-! ### a look: own lists are read as data, nothing is kept of it but a plain answer -/
def scalarD : PyData → Bool
  | .none => true
  | .bool _ => true
  | .int _ => true
  | .str _ => true
  | _ => false
def lookSl : Sl → Sl
  | .l xs => .d (.list xs)
  | .p xs => .d (.list xs)
  | .k _ _ => .u
  | s => s
def look (f : EM) : EM := fun ρ => (f (ρ.map lookSl)).bind fun a => match a.1 with
  | .d x => if scalarD x = true then some (.d x, ρ) else none
  | _ => none
theorem DD.scalar {K : PySem.W.Frag} {B B' : Hp} {v : V} {d : PyData} (h : DD K B v d) (s : scalarD d = true) : DD K B' v d := by
  cases h with
  | non => exact .non
  | bl b => exact .bl b
  | int i => exact .int i
  | str x => exact .str x
  | lst _ _ => cases s
  | tup _ _ => cases s
  | nod _ => cases s
section
open Classical
variable {K : PySem.W.Frag} {F B B' H H' : Hp} {pa : Nat → Option Addr} {σ : L2.St} {ρ : Rho} {v : V}
/-- the own lists' objects; the own dicts' objects -/
noncomputable def ownL (ρ : Rho) (σ : L2.St) (H : Hp) : Hp := fun q => if ∃ (i : Nat) (s : Sl), ρ[i]? = some s ∧ ((∃ xs, s = .l xs) ∨ ∃ xs, s = .p xs) ∧ σ[i]? = some (some (V.ref q)) then H q else none
noncomputable def ownK (ρ : Rho) (σ : L2.St) (H : Hp) : Hp := fun q => if ∃ (i : Nat) (t : Bool) (kvs : List (PyData × PyData)), ρ[i]? = some (Sl.k t kvs) ∧ σ[i]? = some (some (V.ref q)) then H q else none
noncomputable def plusH (A C : Hp) : Hp := fun q => if A q = none then C q else A q
theorem plus_same {A C : Hp} : Same A (plusH A C) := fun q o e => by
  unfold plusH
  rw [if_neg (by rw [e]; simp)]
  exact e
theorem plus_right {A C : Hp} (d : ∀ q, C q ≠ none → A q = none) : Same C (plusH A C) := fun q o e => by
  unfold plusH
  rw [if_pos (d q (by rw [e]; simp))]
  exact e
theorem NoT.plus {A C : Hp} (a : NoT A) (c : NoT C) : NoT (plusH A C) := fun q ps z => by
  unfold plusH at z
  split at z
  · exact c q ps z
  · exact a q ps z
/-- an own object is no table -/
theorem StR.noT {K : PySem.W.Frag} {F B : Hp} {pa : Nat → Option Addr} {σ : L2.St} {H : Hp} {ρ : Rho} (S : StR K F B pa σ H ρ) {i : Nat} {a : Addr} (c : CellAt ρ σ i a) : ∀ ps, H a ≠ some (.tbl ps) := fun ps z => by
  obtain ⟨s, e, hc, hs⟩ := c
  have q := S.sl i s e
  cases s with
  | u => cases hc
  | d x => cases hc
  | l xs =>
    obtain ⟨b, vs, h1, _, _, h4, _⟩ := q
    rw [hs] at h1; cases h1
    rw [h4] at z; cases z
  | p xs =>
    obtain ⟨b, vs, _, h1, _, _, h4, _⟩ := q
    rw [hs] at h1; cases h1
    rw [h4] at z; cases z
  | k t kvs =>
    obtain ⟨b, h1, _, _, h4⟩ := q
    rw [hs] at h1; cases h1
    cases t with
    | false =>
      obtain ⟨_, y, _⟩ := h4
      rw [y] at z; cases z
    | true =>
      obtain ⟨_, y, _⟩ := h4
      rw [y] at z; cases z
theorem plus_le {A C H : Hp} (a : Same A H) (c : Same C H) : Same (plusH A C) H := fun q o e => by
  unfold plusH at e
  split at e
  · exact c q o e
  · exact a q o e
theorem plus_none {A C : Hp} {q : Addr} : plusH A C q = none ↔ A q = none ∧ C q = none := by
  unfold plusH
  by_cases h : A q = none
  · rw [if_pos h]; simp [h]
  · rw [if_neg h]; simp [h]
theorem ownL_le : Same (ownL ρ σ H) H := fun q o e => by
  unfold ownL at e
  split at e
  · exact e
  · cases e
theorem ownK_le : Same (ownK ρ σ H) H := fun q o e => by
  unfold ownK at e
  split at e
  · exact e
  · cases e
theorem ownL_cell {q : Addr} (h : ownL ρ σ H q ≠ none) : ∃ (i : Nat) (s : Sl), ρ[i]? = some s ∧ ((∃ xs, s = .l xs) ∨ ∃ xs, s = .p xs) ∧ σ[i]? = some (some (V.ref q)) := by
  unfold ownL at h
  split at h
  · assumption
  · exact absurd rfl h
theorem ownK_cell {q : Addr} (h : ownK ρ σ H q ≠ none) : ∃ (i : Nat) (t : Bool) (kvs : List (PyData × PyData)), ρ[i]? = some (Sl.k t kvs) ∧ σ[i]? = some (some (V.ref q)) := by
  unfold ownK at h
  split at h
  · assumption
  · exact absurd rfl h
theorem look_ix {i : Nat} {s : Sl} (e : (ρ.map lookSl)[i]? = some s) : ∃ t, ρ[i]? = some t ∧ lookSl t = s := by
  rw [List.getElem?_map] at e
  cases q : ρ[i]? with
  | none => rw [q] at e; cases e
  | some t => rw [q] at e; exact ⟨t, rfl, Option.some.inj e⟩
/-- the state at a look -/
theorem StR.look (S : StR K F B pa σ H ρ) : StR K (plusH F (ownK ρ σ H)) (plusH B (ownL ρ σ H)) pa σ H (ρ.map lookSl) := by
  have lB : ∀ q, ownL ρ σ H q ≠ none → B q = none := fun q h => by
    obtain ⟨i, s, e, hs, c⟩ := ownL_cell h
    exact (S.cellB (i := i) ⟨s, e, by rcases hs with ⟨_, rfl⟩ | ⟨_, rfl⟩ <;> rfl, c⟩).1
  refine ⟨by rw [List.length_map]; exact S.len, plus_le S.sb ownL_le, plus_le S.sf ownK_le, ⟨S.tb.t, S.tb.b.plus (fun b ps z => (ownL_cell (by rw [z]; simp)).elim fun i ⟨s, e, hs, c⟩ => S.noT ⟨s, e, by rcases hs with ⟨_, rfl⟩ | ⟨_, rfl⟩ <;> rfl, c⟩ ps (ownL_le b _ z)), S.tb.f.plus (fun b ps z => (ownK_cell (by rw [z]; simp)).elim fun i ⟨t, kvs, e, c⟩ => S.noT ⟨_, e, rfl, c⟩ ps (ownK_le b _ z))⟩, fun q hq => ?_, fun i s e => ?_, fun i j a c1 c2 => ?_⟩
  · rw [plus_none]
    by_cases hF : F q = none
    · have hk : ownK ρ σ H q ≠ none := fun z => hq (plus_none.mpr ⟨hF, z⟩)
      obtain ⟨i, t, kvs, e, c⟩ := ownK_cell hk
      have ci : CellAt ρ σ i q := ⟨_, e, rfl, c⟩
      refine ⟨(S.cellB ci).1, Classical.byContradiction fun z => ?_⟩
      obtain ⟨j, s, e', hs, c'⟩ := ownL_cell z
      have cj : CellAt ρ σ j q := ⟨s, e', by rcases hs with ⟨_, rfl⟩ | ⟨_, rfl⟩ <;> rfl, c'⟩
      have ij := S.ds i j q ci cj
      subst ij
      rw [e] at e'
      cases e'
      rcases hs with ⟨_, z⟩ | ⟨_, z⟩ <;> cases z
    · refine ⟨S.fb q hF, Classical.byContradiction fun z => ?_⟩
      obtain ⟨j, s, e', hs, c'⟩ := ownL_cell z
      have cj : CellAt ρ σ j q := ⟨s, e', by rcases hs with ⟨_, rfl⟩ | ⟨_, rfl⟩ <;> rfl, c'⟩
      exact hF (S.cellB cj).2.1
  · obtain ⟨t, e1, e2⟩ := look_ix e
    subst e2
    have q := S.sl i t e1
    cases t with
    | u => trivial
    | d x => obtain ⟨v, h1, h2⟩ := q; exact ⟨v, h1, h2.up plus_same⟩
    | l xs =>
      obtain ⟨a, vs, h1, h2, h3, h4, h5⟩ := q
      refine ⟨.ref a, h1, .lst ?_ (h5.up plus_same)⟩
      refine plus_right lB _ _ ?_
      unfold ownL
      rw [if_pos ⟨i, _, e1, .inl ⟨xs, rfl⟩, h1⟩]
      exact h4
    | p xs =>
      obtain ⟨a, vs, h0, h1, h2, h3, h4, h5⟩ := q
      refine ⟨.ref a, h1, .lst ?_ (h5.up plus_same)⟩
      refine plus_right lB _ _ ?_
      unfold ownL
      rw [if_pos ⟨i, _, e1, .inr ⟨xs, rfl⟩, h1⟩]
      exact h4
    | k t kvs => trivial
  · obtain ⟨s, e, hc, _⟩ := c1
    obtain ⟨t, e1, e2⟩ := look_ix e
    subst e2
    cases t <;> cases hc
/-- .. and behind it -/
theorem StR.looked {B1 H1 : Hp} {ρ1 : Rho} (S : StR K F B pa σ H ρ) (S1 : StR K (plusH F (ownK ρ σ H)) B1 pa σ H1 ρ1) (s1 : Same (plusH B (ownL ρ σ H)) B1) : StR K F B pa σ H1 ρ := by
  have lB : ∀ q, ownL ρ σ H q ≠ none → B q = none := fun q h => by
    obtain ⟨i, s, e, hs, c⟩ := ownL_cell h
    exact (S.cellB (i := i) ⟨s, e, by rcases hs with ⟨_, rfl⟩ | ⟨_, rfl⟩ <;> rfl, c⟩).1
  have lF : ∀ q, ownK ρ σ H q ≠ none → F q = none := fun q h => by
    obtain ⟨i, t, kvs, e, c⟩ := ownK_cell h
    exact (S.cellB (i := i) ⟨_, e, rfl, c⟩).2.1
  refine S.grow (Same.refl _) ((plus_same.trans s1).trans S1.sb) (plus_same.trans S1.sf) ⟨S1.tb.t, S.tb.b, S.tb.f⟩ S.fb fun i a ⟨s, e, hc, c⟩ => ⟨(S.cellB ⟨s, e, hc, c⟩).1, ?_⟩
  have keepL : ((∃ xs, s = .l xs) ∨ ∃ xs, s = .p xs) → H1 a = H a := fun hs => by
    cases z : H a with
    | none => exact absurd z (S.cellB ⟨s, e, hc, c⟩).2.2
    | some o =>
      refine S1.sb a o (s1 a o (plus_right lB a o ?_))
      unfold ownL
      rw [if_pos ⟨i, s, e, hs, c⟩]
      exact z
  cases s with
  | u => cases hc
  | d x => cases hc
  | l xs => exact keepL (.inl ⟨xs, rfl⟩)
  | p xs => exact keepL (.inr ⟨xs, rfl⟩)
  | k t kvs =>
    cases z : H a with
    | none => exact absurd z (S.cellB ⟨_, e, hc, c⟩).2.2
    | some o =>
      refine S1.sf a o (plus_right lF a o ?_)
      unfold ownK
      rw [if_pos ⟨i, t, kvs, e, c⟩]
      exact z
theorem look_of {f : EM} : ∀ σ H Q, tD K (look f) σ H Q → tD K f σ H Q := fun σ H Q ⟨F, B, pa, ρ, r, ρ', S, e, k⟩ => by
  obtain ⟨⟨r1, ρ1⟩, e1, e⟩ := bind_some e
  cases r1 with
  | l xs => cases e
  | d x =>
    change (if scalarD x = true then some (Rs.d x, ρ) else none) = some (r, ρ') at e
    split at e
    · rename_i hx
      cases e
      exact ⟨_, _, pa, _, _, ρ1, S.look, e1, fun v B1 H1 S1 s1 q1 => k v B H1 (S.looked S1 s1) (Same.refl _) (DD.scalar (show DD K B1 v x from q1) hx)⟩
    · cases e
end
theorem de_look {X : Cx} {e : Expr} {f : EM} (h : DE X e f) : DE X e (look f) := PE.imp h look_of
def lookT (f : TM) : TM := fun ρ => (f (ρ.map lookSl)).map fun a => (a.1, ρ)
theorem dt_look {X : Cx} {e : Expr} {f : TM} (h : DT X e f) : DT X e (lookT f) := PT.imp h fun σ H Q ⟨F, B, pa, ρ, r, ρ', S, e, k⟩ => by
  obtain ⟨⟨r1, ρ1⟩, e1, e⟩ := map_some e
  cases e
  exact ⟨_, _, pa, _, _, ρ1, S.look, e1, fun B1 H1 S1 s1 => k B H1 (S.looked S1 s1) (Same.refl _)⟩
end DL
end PDL4
section PDL5
/-! Defs: their promise by data, their calls. -/
namespace DL
open PySem PySem.Spec PyProof.Rows L2
variable [TC : TabsC]

/-! ### a def's promise where no repr is under way -/
structure FnG (P : Program) (w : World) (K : PySem.W.Frag) (mg : Str → Option Value) (base : Heap) (CX : CXT) (k : Nat) (f : Addr) (fd : FuncData) (ps : List Str) (sp : Sp) : Prop where
  len : ∀ vs H Q E, sp vs H Q E → vs.length = ps.length
  run : ∀ (A : Around) (outer : List Env) (s : Shared) (H : Hp) (args : Args) (us : List Value) (vs : List V) (Q : VK) (E : XK), A.guards = some [] → Room k A → Env0 P w K mg base A outer s H → BindsTo s fd args (ps.zip us) → Vals vs us → sp vs H Q E →
    codeAny (model P w) A (.call (.ref f) args) (CR CX outer P w H s Q E) s
theorem FnG.mono {P : Program} {w : World} {K : PySem.W.Frag} {mg : Str → Option Value} {base : Heap} {CX : CXT} {j k : Nat} {f : Addr} {fd : FuncData} {ps : List Str} {sp : Sp} (F : FnG P w K mg base CX j f fd ps sp) (h : j ≤ k) : FnG P w K mg base CX k f fd ps sp :=
  ⟨F.len, fun A outer s H args us vs Q E hg hr => F.run A outer s H args us vs Q E hg (hr.mono h)⟩
theorem FnG.imp {P : Program} {w : World} {K : PySem.W.Frag} {mg : Str → Option Value} {base : Heap} {CX : CXT} {k : Nat} {f : Addr} {fd : FuncData} {ps : List Str} {sp sp' : Sp} (F : FnG P w K mg base CX k f fd ps sp) (h : ∀ vs H Q E, sp' vs H Q E → sp vs H Q E) : FnG P w K mg base CX k f fd ps sp' :=
  ⟨fun vs H Q E q => F.len vs H Q E (h _ _ _ _ q), fun A outer s H args us vs Q E hg hr he hb hv hs => F.run A outer s H args us vs Q E hg hr he hb hv (h _ _ _ _ hs)⟩
theorem fnG_of {CX : CXT} {P : Program} {w : World} {K : PySem.W.Frag} {mg : Str → Option Value} {base : Heap} {k : Nat} {x qual : Str} {st : Stmt} {f : Addr} {fd : FuncData} {N ps : List Str} {sp : Sp} (F : Fun K x qual st f fd) (S : FnScope N ps (defScope st))
    (len : ∀ vs H Q E, sp vs H Q E → vs.length = ps.length)
    (body : ∀ (cdv : Value) (A : Around) (outer : List Env) (s : Shared) (H : Hp) (vs : List V) (Q : VK) (E : XK), A.guards = some [] → Room k (A.deeper (envOfC qual (defScope st) s.heap.objs.size f cdv)) → sp vs H Q E →
      ∃ t, PSs (cxOf CX P w K mg base N qual (defScope st) f cdv A outer s H E) (defBody st) t ∧ t { nx := fun _ H' => Q .non H', rt := Q } (start N vs) H) : FnG P w K mg base CX (k + 1) f fd ps sp := by
  obtain ⟨oc, od, kV, doc, pm, an, cdv, ct, osl, e, lk, hcd⟩ := F.ex
  subst e
  refine ⟨len, fun A outer s H args us vs Q E hg hr e0 hb r hsp => ?_⟩
  have hl := len _ _ _ _ hsp
  have up : ∀ {b : Addr} {o : Obj}, base.get? b = some o → s.heap.get? b = some o := fun e => (e0.bs _ _ e).1
  have lim : s.heap.NoLimit := e0.mod.nolimit.keeps fun b o => up
  have places : ∀ y ∈ ps.zip us, (defScope st).names.lookup y.1 = some .local ∨ ((defScope st).names.lookup y.1 = some .cell ∧ ((cellsFrom (s.heap.objs.size + 1) (defScope st).names []).lookup y.1).isSome = true) := by
    rintro ⟨n, v⟩ hy
    exact (S.par n (List.of_mem_zip hy).1).imp id fun q => ⟨q, PySem.W.cellsFrom_some _ _ _ (.inl q)⟩
  refine codeAny_call_function hr.depth (e0.mod.kin.keeps (fun b o => up) _ _ lk) rfl S.co S.gen rfl (PySem.W.codeRec_of (e0.mod.kin.keeps fun b o => up) hcd) (hb _ _ _ _ ?_)
  refine wpAny_newFunctionEnv_cells S.kind places fun env he s1 new => ?_
  subst he
  refine ⟨lim.keeps new.toInCall.keep, codeAny_func ?_⟩
  obtain ⟨t, ht, hq⟩ := body cdv A outer s H vs Q E hg (hr.deeper _) hsp
  refine wpAny_mono (ht.run [] s1 (start N vs) H _ (inv_start S hr.hd e0 hl r new) hq) (fun fl s' hs => ?_) fun _ _ z => z
  cases fl with
  | ret u =>
    obtain ⟨v, σ', H', J, rv, q⟩ := hs
    exact ⟨v, H', J.os, J.bare, J.base, J.hok, rv, q⟩
  | next =>
    obtain ⟨σ', H', J, q⟩ := hs
    exact ⟨.non, H', J.os, J.bare, J.base, J.hok, rfl, q⟩
  | brk => exact hs.elim fun _ z => z.elim fun _ z => z.2.elim
  | cont => exact hs.elim fun _ z => z.elim fun _ z => z.2.elim
section
variable {X : Cx} {CX : CXT} {k : Nat} {f : Addr} {fd : FuncData} {ps ks : List Str} {sp : Sp} {dvs : List V} {ds : List Value} {E : XK} {x : Str} {p pos : Pos} {e : Expr} {es : List Expr} {t tk : TA} {kws : List Keyword} {g : List Value → List Value → List Value} {gV : List V → List V → List V}
theorem runG {pins : List (Addr × Obj)} {σ : L2.St} {H : Hp} {s : Shared} {Q : VK} {us : List Value} {vs : List V} {args : Args} (F : FnG X.prog X.w X.K X.mg X.base CX k f fd ps sp) (hg : X.A.guards = some []) (hr : Room k X.A) (hb : BindsTo s fd args (ps.zip us)) (hx : Passes CX X E)
    (I : Inv X pins σ H s) (r : Vals vs us) (h : sp vs H Q E) : codeAny (model X.prog X.w) X.A (.call (.ref f) args) (fun r s' => match r with | .ok (.ret u) => EP X pins σ Q u s' | .ok _ => False | .error e => X.xe e s') s := by
  refine codeAny_mono (F.run X.A X.stack s H args us vs Q E hg hr I.env0 hb r h) fun r s' hq => ?_
  cases r with
  | error e => exact hx pins σ H s e s' I hq
  | ok fl =>
    cases fl with
    | ret u => exact I.after hq
    | next => exact hq
    | brk => exact hq
    | cont => exact hq
/-- f(e, ..) -/
theorem peG_call (F : FnG X.prog X.w X.K X.mg X.base CX k f fd ps sp) (hgu : X.A.guards = some []) (hr : Room k X.A) (hg : Gl X x) (hm : X.mg x = some (.ref f)) (hk : PySem.W.keepIn X.K (.ref f) = true) (hb : Binds X.K fd ps ds) (hd : Vals dvs ds) (hx : Passes CX X E)
    (ha : PA X (e :: es) t) (hdb : (x == ("__debug__" : Str)) = false := by decide) (he : starEach (e :: es) X.env = (false, eval e X.env) :: starEach es X.env := by rfl) (hpl : (backTo pos (starEach es X.env)).any (·.1) = false := by rfl) :
    PE X (.Call (.Name x p) (e :: es) [] pos) (tCall sp dvs E t) := by
  refine ⟨fun pins s σ H Q I h => wpAny_Call_Name_kw (ld_glob I hg hm ?_ hdb)⟩
  refine PySem.W.callWith_K (h₀ := X.base) I.ok.mod.kin hk (thn (ha.run pos pins s σ H _ I h) fun us s1 ⟨vs, H1, I1, r, q⟩ => ⟨I1.kIn, ?_⟩) he hpl
  have r2 : Vals (vs ++ dvs) (us ++ ds) := r.append hd
  refine wpAny_call (codeAny_mono (runG F hgu hr (hb s1 us I1.kIn (by rw [← r2.length]; exact F.len _ _ _ _ q)) hx I1 r2 q) fun r s' hq => ?_)
  cases r with
  | error e => exact hq
  | ok fl => cases fl <;> exact hq
/-- f(e, .., k = v, ..) -/
theorem peG_callK (F : FnG X.prog X.w X.K X.mg X.base CX k f fd ps sp) (hgu : X.A.guards = some []) (hr : Room k X.A) (hg : Gl X x) (hm : X.mg x = some (.ref f)) (hk : PySem.W.keepIn X.K (.ref f) = true) (hb : KBinds X.K fd ps ks g gV) (hx : Passes CX X E)
    (ha : PA X (e :: es) t) (hkw : PK X kws tk) (hall : (backToKw pos (keywordEach kws X.env)).all (·.1.isSome) = true := by rfl) (hks : (backToKw pos (keywordEach kws X.env)).filterMap (·.1) = ks := by rfl)
    (hdb : (x == ("__debug__" : Str)) = false := by decide) (he : starEach (e :: es) X.env = (false, eval e X.env) :: starEach es X.env := by rfl)
    (hpl : ((backTo pos (starEach (e :: es) X.env)).any (·.1) || (backToKw pos (keywordEach kws X.env)).any (·.1.isNone)) = false := by rfl) :
    PE X (.Call (.Name x p) (e :: es) kws pos) (tCallK sp gV E t tk) := by
  refine ⟨fun pins s σ H Q I h => wpAny_Call_Name_kw (ld_glob I hg hm ?_ hdb)⟩
  refine PySem.W.callWith_KW (h₀ := X.base) I.ok.mod.kin hk hall (thn (ha.run pos pins s σ H _ I h) fun us s1 ⟨vs, H1, I1, r, q⟩ => ?_) hpl he
  refine thn (hkw.run pos pins s1 σ H1 _ I1 q) fun ws s2 ⟨zs, H2, I2, rz, q2⟩ => ⟨I2.kIn, ?_⟩
  rw [hks]
  have r2 := hb.rel r rz
  refine wpAny_call (codeAny_mono (runG F hgu hr (hb.to s2 us ws I2.kIn (by rw [← r2.length]; exact F.len _ _ _ _ q2)) hx I2 r2 q2) fun r s' hq => ?_)
  cases r with
  | error e => exact hq
  | ok fl => cases fl <;> exact hq
end

/-! ### the promise by data -/
/-- from the parameters' data (data, or lists that are changed) to the answer and what the lists hold then -/
abbrev GM := Rho → Option (Rs × Rho)
def spG (K : PySem.W.Frag) (n : Nat) (G : GM) : Sp := fun vs H Q _ => ∃ F B pa ρ r ρ', vs.length = n ∧ StR K F B pa (vs.map some) H ρ ∧ (∀ i a, pa i = some a → vs[i]? = some (V.ref a)) ∧ G ρ = some (r, ρ') ∧
  ∀ v B' H', StR K F B' pa (vs.map some) H' ρ' → Same B B' → RsR K F B' (vs.map some) H' ρ' v r → Q v H'
/-- what is left of the parameters at the end -/
def keepP : Sl → Sl
  | .p xs => .p xs
  | _ => .u
/-- the body's data, as a def's -/
def endOf (n : Nat) (r : Rs) (ρ' : Rho) : Option (Rs × Rho) := if n ≤ ρ'.length then some (r, (ρ'.take n).map keepP) else none
def ofBody (n m : Nat) (g : SM) : GM := fun ρ => (g (ρ ++ List.replicate m .u)).bind fun
  | .ret r ρ' => endOf n r ρ'
  | .nx ρ' => endOf n (.d .none) ρ'
  | _ => none
section
variable {K : PySem.W.Frag} {F B B' H H' : Hp} {pa : Nat → Option Addr} {σ : L2.St} {ρ : Rho} {v : V} {vs : List V}
theorem StR.start {N : List Str} {m : Nat} (S : StR K F B pa (vs.map some) H ρ) (hm : N.length = vs.length + m) : StR K F B pa (L2.start N vs) H (ρ ++ List.replicate m .u) := by
  have hl : ρ.length = vs.length := by rw [S.len, List.length_map]
  have at1 : ∀ i, i < vs.length → (L2.start N vs)[i]? = (vs.map some)[i]? := fun i hi => by
    unfold L2.start
    rw [List.getElem?_append_left (by simpa using hi)]
  have cell1 : ∀ i a, CellAt (ρ ++ List.replicate m .u) (L2.start N vs) i a → CellAt ρ (vs.map some) i a := fun i a ⟨s, e, hc, z⟩ => by
    by_cases hi : i < ρ.length
    · rw [List.getElem?_append_left hi] at e
      exact ⟨s, e, hc, by rw [← at1 i (by omega)]; exact z⟩
    · rw [List.getElem?_append_right (by omega), List.getElem?_replicate] at e
      split at e
      · cases e; cases hc
      · cases e
  refine ⟨?_, S.sb, S.sf, S.tb, S.fb, fun i s e => ?_, fun i j a c1 c2 => S.ds i j a (cell1 i a c1) (cell1 j a c2)⟩
  · unfold L2.start
    simp only [List.length_append, List.length_map, List.length_replicate]
    omega
  · by_cases hi : i < ρ.length
    · rw [List.getElem?_append_left hi] at e
      have q := S.sl i s e
      have ea := at1 i (by omega)
      cases s with
      | u => trivial
      | d x => obtain ⟨v, h1, h2⟩ := q; exact ⟨v, ea.trans h1, h2⟩
      | l xs => obtain ⟨b, ws, h1, h2⟩ := q; exact ⟨b, ws, ea.trans h1, h2⟩
      | p xs => obtain ⟨b, ws, h0, h1, h2⟩ := q; exact ⟨b, ws, h0, ea.trans h1, h2⟩
      | k t kvs => obtain ⟨b, h1, h2⟩ := q; exact ⟨b, ea.trans h1, h2⟩
    · rw [List.getElem?_append_right (by omega), List.getElem?_replicate] at e
      split at e
      · cases e; trivial
      · cases e
/-- at a body's end -/
theorem StR.finish {σ' : L2.St} {ρ' : Rho} (S : StR K F B' pa σ' H' ρ') (hl : vs.length ≤ ρ'.length) (hpa : ∀ i a, pa i = some a → vs[i]? = some (V.ref a)) : StR K F B' pa (vs.map some) H' ((ρ'.take vs.length).map keepP) ∧ ∀ i a, CellAt ((ρ'.take vs.length).map keepP) (vs.map some) i a → CellAt ρ' σ' i a := by
  have ix : ∀ {i : Nat} {s : Sl}, ((ρ'.take vs.length).map keepP)[i]? = some s → ∃ t, ρ'[i]? = some t ∧ keepP t = s ∧ i < vs.length := fun {i s} e => by
    rw [List.getElem?_map, List.getElem?_take] at e
    split at e
    · rename_i hi
      cases q : ρ'[i]? with
      | none => rw [q] at e; cases e
      | some t => rw [q] at e; exact ⟨t, rfl, Option.some.inj e, hi⟩
    · cases e
  have word : ∀ {i : Nat} {xs : List PyData}, ρ'[i]? = some (.p xs) → ∃ a ws, pa i = some a ∧ σ'[i]? = some (some (V.ref a)) ∧ (vs.map some)[i]? = some (some (V.ref a)) ∧ B' a = none ∧ F a = none ∧ H' a = some (.lst ws) ∧ DDs K B' ws xs := fun {i xs} e => by
    obtain ⟨a, ws, h0, h1, h2⟩ := S.sl i _ e
    exact ⟨a, ws, h0, h1, by rw [List.getElem?_map, hpa i a h0]; rfl, h2⟩
  have cells : ∀ i a, CellAt ((ρ'.take vs.length).map keepP) (vs.map some) i a → CellAt ρ' σ' i a := fun i a ⟨s, e, hc, z⟩ => by
    obtain ⟨t, e1, e2, hi⟩ := ix e
    cases t with
    | p xs =>
      obtain ⟨b, ws, h0, h1, h2, _⟩ := word e1
      rw [h2] at z
      cases z
      exact ⟨_, e1, rfl, h1⟩
    | u => subst e2; cases hc
    | d x => subst e2; cases hc
    | l xs => subst e2; cases hc
    | k t kvs => subst e2; cases hc
  refine ⟨⟨by simp; omega, S.sb, S.sf, S.tb, S.fb, fun i s e => ?_, fun i j a c1 c2 => S.ds i j a (cells i a c1) (cells j a c2)⟩, cells⟩
  obtain ⟨t, e1, e2, hi⟩ := ix e
  cases t with
  | p xs =>
    subst e2
    obtain ⟨b, ws, h0, h1, h2, h3⟩ := word e1
    exact ⟨b, ws, h0, h2, h3⟩
  | u => subst e2; trivial
  | d x => subst e2; trivial
  | l xs => subst e2; trivial
  | k t kvs => subst e2; trivial
end
/-- a body's reading, as the def's -/
theorem body_read {K : PySem.W.Frag} {F' B H : Hp} {pa : Nat → Option Addr} {ρ ρ' : Rho} {r : Rs} {vs : List V} {N ps : List Str} {m : Nat} {g : SM} {Q : VK} (S0 : StR K F' B pa (vs.map some) H ρ) (hm : N.length = ps.length + m) (hl : vs.length = ps.length) (hpa : ∀ i a, pa i = some a → vs[i]? = some (V.ref a)) (e : ofBody ps.length m g ρ = some (r, ρ'))
    (q : ∀ v B' H', StR K F' B' pa (vs.map some) H' ρ' → Same B B' → RsR K F' B' (vs.map some) H' ρ' v r → Q v H') : tDS K g { nx := fun _ H' => Q .non H', rt := Q } (start N vs) H := by
  have S1 := S0.start (N := N) (m := m) (by omega)
  obtain ⟨out, e1, e2⟩ := bind_some e
  refine ⟨F', B, pa, _, out, S1, e1, ?_⟩
  cases out with
  | bk ρ1 => cases e2
  | ct ρ1 => cases e2
  | ret r1 ρ1 =>
    change endOf ps.length r1 ρ1 = some (r, ρ') at e2
    unfold endOf at e2
    split at e2
    · rename_i hle
      cases e2
      intro v σ' B' H' S2 s2 q2
      obtain ⟨S3, cells⟩ := S2.finish (vs := vs) (by omega) hpa
      rw [hl] at S3 cells
      refine q v B' H' S3 s2 ?_
      cases r with
      | d x => exact q2
      | l xs =>
        obtain ⟨a, ws, h1, h2, h3, h4, h5, h6⟩ := q2
        exact ⟨a, ws, h1, h2, h3, h4, h5, fun i c => h6 i (cells i a c)⟩
    · cases e2
  | nx ρ1 =>
    change endOf ps.length (.d .none) ρ1 = some (r, ρ') at e2
    unfold endOf at e2
    split at e2
    · rename_i hle
      cases e2
      intro σ' B' H' S2 s2
      obtain ⟨S3, cells⟩ := S2.finish (vs := vs) (by omega) hpa
      rw [hl] at S3
      exact q .non B' H' S3 s2 .non
    · cases e2
/-- THE RULE of a def that raises nothing: its body's data -/
theorem fn_data {CX : CXT} {P : Program} {w : World} {K : PySem.W.Frag} {mg : Str → Option Value} {base : Heap} {k : Nat} {x qual : Str} {st : Stmt} {f : Addr} {fd : FuncData} {N ps : List Str} {m : Nat} {g : SM} (F : Fun K x qual st f fd) (S : FnScope N ps (defScope st)) (hm : N.length = ps.length + m)
    (body : ∀ (cdv : Value) (A : Around) (outer : List Env) (s : Shared) (H : Hp) (E : XK), A.guards = some [] → Room k (A.deeper (envOfC qual (defScope st) s.heap.objs.size f cdv)) → DSs (cxOf CX P w K mg base N qual (defScope st) f cdv A outer s H E).nox (defBody st) g) :
    FnG P w K mg base CX (k + 1) f fd ps (spG K ps.length (ofBody ps.length m g)) := by
  refine fnG_of F S (fun vs H Q E h => ?_) fun cdv A outer s H vs Q E hgu hr h => ?_
  · obtain ⟨_, _, _, _, _, _, h, _⟩ := h
    exact h
  · obtain ⟨F', B, pa, ρ, r, ρ', hl, S0, hpa, e, q⟩ := h
    exact ⟨_, PSs.nox (body cdv A outer s H E hgu hr), body_read S0 hm hl hpa e q⟩

/-! ### calls -/
section
open Classical
variable {K : PySem.W.Frag} {F B B' H H' : Hp} {pa : Nat → Option Addr} {σ : L2.St} {ρ : Rho} {v : V} {vs : List V}
/-- the slots' own objects but that of slot j -/
noncomputable def ownA (ρ : Rho) (σ : L2.St) (H : Hp) (j : Option Nat) : Hp := fun q => if ∃ i, CellAt ρ σ i q ∧ some i ≠ j then H q else none
theorem ownA_le {j : Option Nat} : Same (ownA ρ σ H j) H := fun q o e => by
  unfold ownA at e
  split at e
  · exact e
  · cases e
theorem ownA_cell {j : Option Nat} {q : Addr} (h : ownA ρ σ H j q ≠ none) : ∃ i, CellAt ρ σ i q ∧ some i ≠ j := by
  unfold ownA at h
  split at h
  · assumption
  · exact absurd rfl h
theorem ownA_at {j : Option Nat} {i : Nat} {q : Addr} (c : CellAt ρ σ i q) (n : some i ≠ j) : ownA ρ σ H j q = H q := by
  unfold ownA
  rw [if_pos ⟨i, c, n⟩]
theorem at_map_d {ds : List PyData} {i : Nat} {s : Sl} (e : (ds.map Sl.d)[i]? = some s) : ∃ x, ds[i]? = some x ∧ s = .d x := by
  rw [List.getElem?_map] at e
  cases q : ds[i]? with
  | none => rw [q] at e; cases e
  | some x => rw [q] at e; cases e; exact ⟨x, rfl, rfl⟩
/-- a callee's state, handed data alone -/
theorem StR.call (S : StR K F B pa σ H ρ) {ds : List PyData} (d : DDs K B vs ds) : StR K (plusH F (ownA ρ σ H none)) B (fun _ => none) (vs.map some) H (ds.map .d) := by
  refine ⟨by simp [d.length], S.sb, plus_le S.sf ownA_le, ⟨S.tb.t, S.tb.b, S.tb.f.plus fun b ps z => (ownA_cell (by rw [z]; simp)).elim fun i c => S.noT c.1 ps (ownA_le b _ z)⟩, fun q hq => ?_, fun i s e => ?_, fun i j a c1 c2 => ?_⟩
  · by_cases hF : F q = none
    · obtain ⟨i, c, _⟩ := ownA_cell (fun z => hq (plus_none.mpr ⟨hF, z⟩))
      exact (S.cellB c).1
    · exact S.fb q hF
  · obtain ⟨x, e1, rfl⟩ := at_map_d e
    obtain ⟨v, e2, h⟩ := d.get e1
    exact ⟨v, by rw [List.getElem?_map, e2]; rfl, h⟩
  · obtain ⟨s, e, hc, _⟩ := c1
    obtain ⟨x, _, rfl⟩ := at_map_d e
    cases hc
theorem StR.called {ρ1 : Rho} {pa1 : Nat → Option Addr} {σ1 : L2.St} (S : StR K F B pa σ H ρ) (S1 : StR K (plusH F (ownA ρ σ H none)) B' pa1 σ1 H' ρ1) (s1 : Same B B') : StR K F B' pa σ H' ρ := by
  have dis : ∀ q, ownA ρ σ H none q ≠ none → F q = none := fun q h => by
    obtain ⟨i, c, _⟩ := ownA_cell h
    exact (S.cellB c).2.1
  refine S.grow s1 S1.sb (plus_same.trans S1.sf) ⟨S1.tb.t, S1.tb.b, S.tb.f⟩ (fun q hq => S1.fb q fun z => hq (plus_none.mp z).1) fun i a c => ?_
  have own : ownA ρ σ H none a = H a := ownA_at c (by simp)
  have hne := (S.cellB c).2.2
  refine ⟨S1.fb a fun z => hne (by rw [← own]; exact (plus_none.mp z).2), ?_⟩
  cases z : H a with
  | none => exact absurd z hne
  | some o => exact S1.sf a o (plus_right dis a o (own.trans z))
end
/-- the first object handed in to be changed, the rest data -/
theorem sp_call {K : PySem.W.Frag} {n : Nat} {G : GM} {F B : Hp} {pa : Nat → Option Addr} {σ : L2.St} {H : Hp} {ρ ρ1 : Rho} {vs : List V} {ds : List PyData} {r : Rs} {Q : VK} {E : XK} (S : StR K F B pa σ H ρ) (d : DDs K B vs ds) (hn : ds.length = n) (e : G (ds.map .d) = some (r, ρ1))
    (k : ∀ v B' H', StR K F B' pa σ H' ρ → Same B B' → RsR K F B' σ H' ρ v r → Q v H') : spG K n G vs H Q E := by
  refine ⟨_, B, _, _, r, ρ1, by rw [d.length]; exact hn, S.call d, (fun i a z => by cases z), e, fun v B' H' S1 s1 q1 => ?_⟩
  have S2 := S.called S1 s1
  refine k v B' H' S2 s1 ?_
  cases r with
  | d x => exact q1
  | l xs =>
    obtain ⟨a, ws, h1, h2, h3, h4, h5, h6⟩ := q1
    refine ⟨a, ws, h1, h2, (plus_none.mp h3).1, h4, h5, fun i c => ?_⟩
    have z := (plus_none.mp h3).2
    rw [ownA_at c (by simp)] at z
    exact (S.cellB c).2.2 z
def eCall (n : Nat) (G : GM) (f : AM) : EM := fun ρ => (f ρ).bind fun a => if a.1.length = n then (G (a.1.map .d)).map fun b => (b.1, a.2) else none
theorem tCall_of {K : PySem.W.Frag} {n : Nat} {G : GM} {fa : AM} {E : XK} : ∀ σ H Q, tD K (eCall n G fa) σ H Q → tCall (spG K n G) [] E (tDA K fa) σ H Q := fun σ H Q ⟨F', B, pa, ρ, r, ρ', S, e, k⟩ => by
  obtain ⟨⟨ds, ρ1⟩, e1, e⟩ := bind_some e
  change (if ds.length = n then (G (ds.map .d)).map fun b => (b.1, ρ1) else none) = some (r, ρ') at e
  split at e
  · rename_i hn
    obtain ⟨⟨r1, ρ2⟩, e2, e⟩ := map_some e
    cases e
    refine ⟨F', B, pa, ρ, ds, _, S, e1, fun vs B1 H1 S1 s1 d1 => ?_⟩
    show spG K n G (vs ++ []) H1 Q E
    rw [List.append_nil]
    exact sp_call S1 d1 hn e2 fun v B2 H2 S2 s2 q2 => k v B2 H2 S2 (s1.trans s2) q2
  · cases e
section
variable {X : Cx} {CX : CXT} {k n : Nat} {f : Addr} {fd : FuncData} {ps ks : List Str} {E : XK} {x : Str} {p pos : Pos} {e : Expr} {es : List Expr} {fa fk : AM} {G : GM} {kws : List Keyword}
theorem de_call (F : FnG X.prog X.w X.K X.mg X.base CX k f fd ps (spG X.K n G)) (hgu : X.A.guards = some []) (hr : Room k X.A) (hg : Gl X x) (hm : X.mg x = some (.ref f)) (hk : PySem.W.keepIn X.K (.ref f) = true) (hb : L2.Binds X.K fd ps []) (hx : Passes CX X E) (ha : DA X (e :: es) fa)
    (hdb : (x == ("__debug__" : Str)) = false := by decide) (he : starEach (e :: es) X.env = (false, eval e X.env) :: starEach es X.env := by rfl) (hpl : (backTo pos (starEach es X.env)).any (·.1) = false := by rfl) :
    DE X (.Call (.Name x p) (e :: es) [] pos) (eCall n G fa) := PE.imp (peG_call F hgu hr hg hm hk hb .nil hx ha hdb he hpl) tCall_of
/-! ### f(k = v, ..) -/
abbrev DK (X : Cx) (kws : List Keyword) (f : AM) : Prop := PK X kws (tDA X.K f)
theorem PK.imp {X : Cx} {es : List Keyword} {t t' : TA} (h : PK X es t) (i : ∀ σ H Q, t' σ H Q → t σ H Q) : PK X es t' := ⟨fun pos pins s σ H Q I hw => h.run pos pins s σ H Q I (i σ H Q hw)⟩
theorem dk_nil : DK X [] aNil := PK.imp pk_nil fun σ H Q ⟨F, B, pa, ρ, ds, ρ', S, e, k⟩ => by
  cases e
  exact k [] B H S (Same.refl _) .nil
theorem dk_cons {e : Expr} {nm : Option Str} {kpos : Pos} {f : EM} {g : AM} (ha : DE X e f) (hr : DK X kws g) : DK X (⟨nm, e, kpos⟩ :: kws) (aCons f g) :=
  PK.imp (pk_cons ha hr) fun σ H Q ⟨F, B, pa, ρ, ds, ρ', S, e, k⟩ => by
    obtain ⟨⟨r1, ρ1⟩, e1, e⟩ := bind_some e
    obtain ⟨⟨es, ρ2⟩, e2, e⟩ := map_some e
    cases e
    refine tD_take S e1 fun v B1 H1 S1 s1 d1 => ⟨F, B1, pa, ρ1, es, _, S1, e2, fun vs B2 H2 S2 s2 d2 => ?_⟩
    exact k _ B2 H2 S2 (s1.trans s2) (.cons (d1.up s2) d2)
def perm {α : Type} (ix : List Nat) (l : List α) : List α := ix.filterMap fun j => l[j]?
theorem Vals.perm {vs : List V} {us : List Value} (r : Vals vs us) : ∀ ix : List Nat, Vals (perm ix vs) (perm ix us)
  | [] => .nil
  | j :: ix => by
    unfold DL.perm
    rw [List.filterMap_cons, List.filterMap_cons]
    cases q : vs[j]? with
    | none =>
      rw [r.none_of q]
      exact Vals.perm r ix
    | some v =>
      obtain ⟨u, e, h⟩ := r.get q
      rw [e]
      exact .cons h (Vals.perm r ix)
theorem DDs.perm {K : PySem.W.Frag} {B : Hp} {vs : List V} {ds : List PyData} (r : DDs K B vs ds) : ∀ ix : List Nat, DDs K B (perm ix vs) (perm ix ds)
  | [] => .nil
  | j :: ix => by
    unfold DL.perm
    rw [List.filterMap_cons, List.filterMap_cons]
    cases q : vs[j]? with
    | none =>
      have h : ds[j]? = none := List.getElem?_eq_none_iff.mpr (by rw [← r.length]; exact List.getElem?_eq_none_iff.mp q)
      rw [h]
      exact DDs.perm r ix
    | some v =>
      obtain ⟨d, e, h⟩ := r.getV q
      rw [e]
      exact .cons h (DDs.perm r ix)
/-- how keywords bind -/
def KB (K : PySem.W.Frag) (fd : FuncData) (ps ks : List Str) (ix : List Nat) : Prop := ∀ (s : Shared) (ws : List Value), K.In s.heap → ws.length = ks.length → BindsTo s fd ⟨[], ks.zip ws⟩ (ps.zip (perm ix ws))
theorem KB.all {K : PySem.W.Frag} {fd : FuncData} {ps ks : List Str} {ix : List Nat} (h : ∀ ws : List Value, ws.length = ks.length → bindArgs fd ⟨[], ks.zip ws⟩ = pure (ps.zip (perm ix ws))) : KB K fd ps ks ix := fun s ws _ hl => .of_eq (h ws hl)
def eCallK (n : Nat) (ix : List Nat) (G : GM) (f : AM) : EM := fun ρ => (f ρ).bind fun a => if a.1.length = n ∧ (perm ix a.1).length = n then (G ((perm ix a.1).map .d)).map fun b => (b.1, a.2) else none
theorem de_callK {ix : List Nat} (F : FnG X.prog X.w X.K X.mg X.base CX k f fd ps (spG X.K n G)) (hgu : X.A.guards = some []) (hr : Room k X.A) (hg : Gl X x) (hm : X.mg x = some (.ref f)) (hk : PySem.W.keepIn X.K (.ref f) = true) (hb : KB X.K fd ps ks ix) (hl : ks.length = n) (hx : Passes CX X E) (ha : DK X kws fk)
    (hall : (backToKw pos (keywordEach kws X.env)).all (·.1.isSome) = true := by rfl) (hks : (backToKw pos (keywordEach kws X.env)).filterMap (·.1) = ks := by rfl)
    (hdb : (x == ("__debug__" : Str)) = false := by decide) (hpl : ((backTo pos (starEach [] X.env)).any (·.1) || (backToKw pos (keywordEach kws X.env)).any (·.1.isNone)) = false := by rfl) :
    DE X (.Call (.Name x p) [] kws pos) (eCallK n ix G fk) := by
  refine ⟨fun pins s σ H Q I h => wpAny_Call_Name_kw (ld_glob I hg hm ?_ hdb)⟩
  obtain ⟨F', B, pa, ρ, r, ρ', S, e, kk⟩ := h
  obtain ⟨⟨ds, ρ1⟩, e1, e⟩ := bind_some e
  change (if ds.length = n ∧ (perm ix ds).length = n then (G ((perm ix ds).map .d)).map fun b => (b.1, ρ1) else none) = some (r, ρ') at e
  split at e
  · rename_i hn
    obtain ⟨⟨r1, ρ2⟩, e2, e⟩ := map_some e
    cases e
    refine PySem.W.callWith_KW0 (h₀ := X.base) I.ok.mod.kin hk hall (thn (ha.run pos pins s σ H (fun vs H1 => ∃ B1, StR X.K F' B1 pa σ H1 ρ' ∧ Same B B1 ∧ DDs X.K B1 vs ds) I ⟨F', B, pa, ρ, ds, _, S, e1, fun vs B1 H1 S1 s1 d1 => ⟨B1, S1, s1, d1⟩⟩) fun ws s1 ⟨zs, H1, I1, rz, B1, S1, b1, d1⟩ => ⟨I1.kIn, ?_⟩) hpl
    rw [hks]
    have hw : ws.length = ks.length := by rw [← rz.length, d1.length, hn.1, hl]
    have q : spG X.K n G (perm ix zs) H1 Q E := sp_call S1 (d1.perm ix) hn.2 e2 fun v B2 H2 S2 s2 q2 => kk v B2 H2 S2 (b1.trans s2) q2
    refine wpAny_call (codeAny_mono (runG F hgu hr (hb s1 ws I1.kIn hw) hx I1 (Vals.perm rz ix) q) fun r s' hq => ?_)
    cases r with
    | error e => exact hq
    | ok fl => cases fl <;> exact hq
  · cases e
end
/-! ### f(list to be changed, data ..) -/
section
open Classical
variable {K : PySem.W.Frag} {F B B' H H' : Hp} {pa : Nat → Option Addr} {σ : L2.St} {ρ : Rho} {v : V} {vs : List V}
/-- a slot's own list, and the same slot with other items -/
def listOf : Sl → Option (List PyData)
  | .l xs => some xs
  | .p xs => some xs
  | _ => none
def withList (xs : List PyData) : Sl → Sl
  | .l _ => .l xs
  | .p _ => .p xs
  | s => s
theorem listOf_at (S : StR K F B pa σ H ρ) {i : Nat} {s : Sl} {xs : List PyData} (e : ρ[i]? = some s) (hs : listOf s = some xs) : ∃ a ws, σ[i]? = some (some (V.ref a)) ∧ CellAt ρ σ i a ∧ B a = none ∧ F a = none ∧ H a = some (.lst ws) ∧ DDs K B ws xs := by
  have q := S.sl i s e
  cases s with
  | l ys =>
    cases hs
    obtain ⟨a, ws, h1, h2, h3, h4, h5⟩ := q
    exact ⟨a, ws, h1, ⟨_, e, rfl, h1⟩, h2, h3, h4, h5⟩
  | p ys =>
    cases hs
    obtain ⟨a, ws, h0, h1, h2, h3, h4, h5⟩ := q
    exact ⟨a, ws, h1, ⟨_, e, rfl, h1⟩, h2, h3, h4, h5⟩
  | u => cases hs
  | d _ => cases hs
  | k _ _ => cases hs
/-- a slot's own list has other items now, all else stands -/
theorem StR.relist (S : StR K F B pa σ H ρ) {i : Nat} {s : Sl} {xs ys : List PyData} {a : Addr} {ws : List V} (e : ρ[i]? = some s) (hs : listOf s = some xs) (ha : σ[i]? = some (some (V.ref a))) (sb : Same B B') (bh : Same B' H') (sf : Same F H') (tb : TabF F B' H') (fb : ∀ q, F q ≠ none → B' q = none) (hB : B' a = none)
    (hH : H' a = some (.lst ws)) (hd : DDs K B' ws ys) (oth : ∀ j b, j ≠ i → CellAt ρ σ j b → B' b = none ∧ H' b = H b) : StR K F B' pa σ H' (ρ.set i (withList ys s)) := by
  obtain ⟨b, ws0, h1, h2, h3, h4, h5, h6⟩ := listOf_at S e hs
  rw [ha] at h1
  cases h1
  have hl : i < ρ.length := (List.getElem?_eq_some_iff.mp e).1
  refine ⟨by simp [S.len], bh, sf, tb, fb, fun j t et => ?_, fun j k b c1 c2 => ?_⟩
  · by_cases hj : j = i
    · subst hj
      rw [List.getElem?_set_self hl] at et
      cases et
      have q := S.sl j s e
      cases s with
      | l zs => exact ⟨a, ws, ha, hB, h4, hH, hd⟩
      | p zs =>
        obtain ⟨c, _, h0, hc, _⟩ := q
        rw [ha] at hc
        cases hc
        exact ⟨a, ws, h0, ha, hB, h4, hH, hd⟩
      | u => cases hs
      | d _ => cases hs
      | k _ _ => cases hs
    · rw [List.getElem?_set_ne (Ne.symm hj)] at et
      exact (S.sl j t et).keep sb fun b c z => oth j b hj ⟨t, et, c, z⟩
  · have back : ∀ {j b}, CellAt (ρ.set i (withList ys s)) σ j b → CellAt ρ σ j b := fun {j b} c => by
      rcases c.set with ⟨hj, _, z⟩ | ⟨_, c⟩
      · subst hj
        rw [ha] at z
        cases z
        exact h2
      · exact c
    exact S.ds j k b (back c1) (back c2)
/-- a callee's state, handed the list of slot i and data -/
theorem StR.callP (S : StR K F B pa σ H ρ) {i : Nat} {s : Sl} {xs : List PyData} {a : Addr} (e : ρ[i]? = some s) (hs : listOf s = some xs) (ha : σ[i]? = some (some (V.ref a))) {ds : List PyData} (d : DDs K B vs ds) :
    StR K (plusH F (ownA ρ σ H (some i))) B (fun j => if j = 0 then some a else none) ((V.ref a :: vs).map some) H (.p xs :: ds.map .d) := by
  obtain ⟨b, ws0, h1, h2, h3, h4, h5, h6⟩ := listOf_at S e hs
  rw [ha] at h1
  cases h1
  have nA : ownA ρ σ H (some i) a = none := Classical.byContradiction fun z => by
    obtain ⟨j, c, hj⟩ := ownA_cell z
    exact hj (by rw [S.ds j i a c h2])
  have only : ∀ {j : Nat} {c : Addr}, CellAt (.p xs :: ds.map .d) ((V.ref a :: vs).map some) j c → j = 0 := fun {j c} ⟨t, et, hc, _⟩ => by
    cases j with
    | zero => rfl
    | succ j =>
      rw [List.getElem?_cons_succ] at et
      obtain ⟨x, _, rfl⟩ := at_map_d et
      cases hc
  refine ⟨by simp [d.length], S.sb, plus_le S.sf ownA_le, ⟨S.tb.t, S.tb.b, S.tb.f.plus fun b ps z => (ownA_cell (by rw [z]; simp)).elim fun i c => S.noT c.1 ps (ownA_le b _ z)⟩, fun q hq => ?_, fun j t et => ?_, fun j k c c1 c2 => by rw [only c1, only c2]⟩
  · by_cases hF : F q = none
    · obtain ⟨j, c, _⟩ := ownA_cell (fun z => hq (plus_none.mpr ⟨hF, z⟩))
      exact (S.cellB c).1
    · exact S.fb q hF
  · cases j with
    | zero =>
      cases et
      exact ⟨a, ws0, rfl, rfl, h3, plus_none.mpr ⟨h4, nA⟩, h5, h6⟩
    | succ j =>
      rw [List.getElem?_cons_succ] at et
      obtain ⟨x, e1, rfl⟩ := at_map_d et
      obtain ⟨v, e2, h⟩ := d.get e1
      exact ⟨v, by rw [List.map_cons, List.getElem?_cons_succ, List.getElem?_map, e2]; rfl, h⟩
theorem StR.calledP {ρ1 : Rho} {i : Nat} {s : Sl} {xs ys : List PyData} {a : Addr} (S : StR K F B pa σ H ρ) (e : ρ[i]? = some s) (hs : listOf s = some xs) (ha : σ[i]? = some (some (V.ref a)))
    (S1 : StR K (plusH F (ownA ρ σ H (some i))) B' (fun j => if j = 0 then some a else none) ((V.ref a :: vs).map some) H' ρ1) (s1 : Same B B') (h0 : ρ1[0]? = some (.p ys)) : StR K F B' pa σ H' (ρ.set i (withList ys s)) := by
  have dis : ∀ q, ownA ρ σ H (some i) q ≠ none → F q = none := fun q h => by
    obtain ⟨j, c, _⟩ := ownA_cell h
    exact (S.cellB c).2.1
  obtain ⟨c, ws, g0, g1, g2, g3, g4, g5⟩ := S1.sl 0 _ h0
  have ca : c = a := by
    have z : some a = some c := by simpa using g0
    cases z
    rfl
  subst ca
  refine S.relist e hs ha s1 S1.sb (plus_same.trans S1.sf) ⟨S1.tb.t, S1.tb.b, S.tb.f⟩ (fun q hq => S1.fb q fun z => hq (plus_none.mp z).1) g2 g4 g5 fun j b hj cj => ?_
  have own : ownA ρ σ H (some i) b = H b := ownA_at cj (fun z => hj (Option.some.inj z))
  have hne := (S.cellB cj).2.2
  refine ⟨S1.fb b fun z => hne (by rw [← own]; exact (plus_none.mp z).2), ?_⟩
  cases z : H b with
  | none => exact absurd z hne
  | some o => exact S1.sf b o (plus_right dis b o (own.trans z))
end
def pOf : Option Sl → Option (List PyData)
  | some (.p ys) => some ys
  | _ => none
theorem pOf_eq {o : Option Sl} {ys : List PyData} (h : pOf o = some ys) : o = some (.p ys) := by
  unfold pOf at h
  split at h
  · cases h; rfl
  · cases h
def eCallP (n : Nat) (G : GM) (i : Nat) (f : AM) : EM := fun ρ => ((ρ[i]?).bind listOf).bind fun _ => (f ρ).bind fun a => if a.1.length + 1 = n then
    (a.2[i]?).bind fun s => (listOf s).bind fun xs => (G (.p xs :: a.1.map .d)).bind fun b => (pOf b.2[0]?).map fun ys => (b.1, a.2.set i (withList ys s))
  else none
theorem tCallP_of {K : PySem.W.Frag} {n i : Nat} {G : GM} {fa : AM} {E : XK} : ∀ σ H Q, tD K (eCallP n G i fa) σ H Q → tCall (spG K n G) [] E (tCons (tVar i) (tDA K fa)) σ H Q := fun σ H Q ⟨F', B, pa, ρ, r, ρ', S, e, k⟩ => by
  obtain ⟨xs0, e0, e⟩ := bind_some e
  obtain ⟨s0, e00, hs0⟩ := bind_some e0
  obtain ⟨⟨ds, ρ1⟩, e1, e⟩ := bind_some e
  split at e
  · rename_i hn
    obtain ⟨s, es, e⟩ := bind_some e
    obtain ⟨xs, hs, e⟩ := bind_some e
    obtain ⟨⟨r1, ρ2⟩, e2, e⟩ := bind_some e
    obtain ⟨ys, h0, e⟩ := map_some e
    cases e
    obtain ⟨a, _, ha, _⟩ := listOf_at S e00 hs0
    refine ⟨V.ref a, ha, F', B, pa, ρ, ds, ρ1, S, e1, fun vs B1 H1 S1 s1 d1 => ?_⟩
    show spG K n G ((V.ref a :: vs) ++ []) H1 Q E
    rw [List.append_nil]
    refine ⟨_, B1, _, _, _, ρ2, by rw [List.length_cons, d1.length]; exact hn, S1.callP es hs ha d1, fun j c z => ?_, e2, fun v B2 H2 S2 s2 q2 => ?_⟩
    · by_cases hj : j = 0
      · subst hj
        have z' : some a = some c := by simpa using z
        cases z'
        rfl
      · rw [if_neg hj] at z
        cases z
    · have S3 := S1.calledP es hs ha S2 s2 (pOf_eq h0)
      refine k v B2 H2 S3 (s1.trans s2) ?_
      cases r1 with
      | d x => exact q2
      | l zs =>
        obtain ⟨c, ws, h1, h2, h3, h4, h5, h6⟩ := q2
        refine ⟨c, ws, h1, h2, (plus_none.mp h3).1, h4, h5, fun j cj => ?_⟩
        have z := (plus_none.mp h3).2
        by_cases hj : j = i
        · subst hj
          obtain ⟨_, _, _, q⟩ := cj
          rw [ha] at q
          cases q
          exact h6 0 ⟨_, pOf_eq h0, rfl, rfl⟩
        · rcases cj.set with ⟨w, _⟩ | ⟨_, cj⟩
          · exact hj w
          · rw [ownA_at cj (fun w => hj (Option.some.inj w))] at z
            exact (S1.cellB cj).2.2 z
  · cases e
section
variable {X : Cx} {CX : CXT} {k n i : Nat} {f : Addr} {fd : FuncData} {ps ks : List Str} {E : XK} {x y : Str} {p py pos : Pos} {es : List Expr} {fa : AM} {G : GM}
theorem de_callP (F : FnG X.prog X.w X.K X.mg X.base CX k f fd ps (spG X.K n G)) (hgu : X.A.guards = some []) (hr : Room k X.A) (hg : Gl X x) (hm : X.mg x = some (.ref f)) (hk : PySem.W.keepIn X.K (.ref f) = true) (hb : L2.Binds X.K fd ps []) (hx : Passes CX X E) (hp : PE X (.Name y py) (tVar i)) (ha : DA X es fa)
    (hdb : (x == ("__debug__" : Str)) = false := by decide) (he : starEach (.Name y py :: es) X.env = (false, eval (.Name y py) X.env) :: starEach es X.env := by rfl) (hpl : (backTo pos (starEach es X.env)).any (·.1) = false := by rfl) :
    DE X (.Call (.Name x p) (.Name y py :: es) [] pos) (eCallP n G i fa) := PE.imp (peG_call F hgu hr hg hm hk hb .nil hx (pa_cons hp ha he) hdb he hpl) tCallP_of
end
end DL
end PDL5
section PDL6
/-! Statements: names, answers, ifs, own lists changed, targets. -/
namespace DL
open PySem PySem.Spec PyProof.Rows L2
variable [TC : TabsC]

section
variable {K : PySem.W.Frag} {F B B' H H' : Hp} {pa : Nat → Option Addr} {σ : L2.St} {ρ : Rho} {v : V} {vs : List V} {r : Rs}
/-- a value is stored in slot i -/
theorem StR.store (S : StR K F B pa σ H ρ) (q : RsR K F B σ H ρ v r) (i : Nat) : StR K F B pa (σ.set i (some v)) H (ρ.set i r.sl) := by
  have at' : ∀ {j : Nat} {s : Sl}, (ρ.set i r.sl)[j]? = some s → (j = i ∧ s = r.sl ∧ (σ.set i (some v))[j]? = some (some v)) ∨ (j ≠ i ∧ ρ[j]? = some s ∧ (σ.set i (some v))[j]? = σ[j]?) := fun {j s} e => by
    by_cases hj : j = i
    · subst hj
      have hl : j < ρ.length := by
        obtain ⟨hl, _⟩ := List.getElem?_eq_some_iff.mp e
        simpa using hl
      rw [List.getElem?_set_self hl] at e
      cases e
      exact .inl ⟨rfl, rfl, List.getElem?_set_self (by rw [← S.len]; exact hl)⟩
    · rw [List.getElem?_set_ne (Ne.symm hj)] at e
      exact .inr ⟨hj, e, List.getElem?_set_ne (Ne.symm hj)⟩
  have cell : ∀ {j : Nat} {a : Addr}, CellAt (ρ.set i r.sl) (σ.set i (some v)) j a → (j = i ∧ v = V.ref a ∧ r.sl.cell = true) ∨ (j ≠ i ∧ CellAt ρ σ j a) := fun {j a} ⟨s, e, hc, z⟩ => by
    rcases at' e with ⟨hj, hs, e2⟩ | ⟨hj, e1, e2⟩
    · rw [e2] at z
      cases z
      subst hs
      exact .inl ⟨hj, rfl, hc⟩
    · rw [e2] at z
      exact .inr ⟨hj, s, e1, hc, z⟩
  have noC : ∀ {j : Nat} {a : Addr}, v = V.ref a → r.sl.cell = true → ¬ CellAt ρ σ j a := fun {j a} hv hc c => by
    cases r with
    | d x => cases hc
    | l xs =>
      obtain ⟨b, ws, h1, _, _, _, _, h6⟩ := q
      rw [hv] at h1
      cases h1
      exact h6 j c
  refine ⟨by simp [S.len], S.sb, S.sf, S.tb, S.fb, fun j s e => ?_, fun j k a c1 c2 => ?_⟩
  · rcases at' e with ⟨hj, hs, e2⟩ | ⟨hj, e1, e2⟩
    · subst hs
      cases r with
      | d x => exact ⟨v, e2, q⟩
      | l xs =>
        obtain ⟨b, ws, h1, h2, h3, h4, h5, h6⟩ := q
        subst h1
        exact ⟨b, ws, e2, h2, h3, h4, h5⟩
    · have w := S.sl j s e1
      cases s with
      | u => trivial
      | d x => obtain ⟨u, h1, h2⟩ := w; exact ⟨u, e2.trans h1, h2⟩
      | l xs => obtain ⟨b, ws, h1, h2⟩ := w; exact ⟨b, ws, e2.trans h1, h2⟩
      | p xs => obtain ⟨b, ws, h0, h1, h2⟩ := w; exact ⟨b, ws, h0, e2.trans h1, h2⟩
      | k t kvs => obtain ⟨b, h1, h2⟩ := w; exact ⟨b, e2.trans h1, h2⟩
  · rcases cell c1 with ⟨h1, h2, h3⟩ | ⟨h1, h2⟩
    · rcases cell c2 with ⟨g1, _, _⟩ | ⟨_, g2⟩
      · rw [h1, g1]
      · exact absurd g2 (noC h2 h3)
    · rcases cell c2 with ⟨_, g2, g3⟩ | ⟨_, g2⟩
      · exact absurd h2 (noC g2 g3)
      · exact S.ds j k a h2 g2
/-- a slot is forgotten -/
theorem StR.forget (S : StR K F B pa σ H ρ) (i : Nat) : StR K F B pa σ H (ρ.set i .u) := by
  refine ⟨by simp [S.len], S.sb, S.sf, S.tb, S.fb, fun j s e => ?_, fun j k a c1 c2 => ?_⟩
  · by_cases hj : j = i
    · subst hj
      have hl : j < ρ.length := by
        obtain ⟨hl, _⟩ := List.getElem?_eq_some_iff.mp e
        simpa using hl
      rw [List.getElem?_set_self hl] at e
      cases e
      trivial
    · rw [List.getElem?_set_ne (Ne.symm hj)] at e
      exact S.sl j s e
  · rcases c1.set with ⟨_, z, _⟩ | ⟨_, c1⟩
    · cases z
    · rcases c2.set with ⟨_, z, _⟩ | ⟨_, c2⟩
      · cases z
      · exact S.ds j k a c1 c2
end

section
variable {X : Cx} {e : Expr} {f : EM} {pos : Pos}
/-! ### name = e, e, return e -/
def sSet (i : Nat) (f : EM) : SM := fun ρ => (f ρ).map fun a => .nx (a.2.set i a.1.sl)
theorem sSet_of {K : PySem.W.Frag} {i : Nat} {t : TE} (h : ∀ σ H Q, tD K f σ H Q → t σ H Q) : ∀ D σ H, tDS K (sSet i f) D σ H → tAsg t (gName i) D σ H := fun D σ H ⟨F, B, pa, ρ, out, S, e, k⟩ => by
  obtain ⟨⟨r, ρ1⟩, e1, e⟩ := map_some e
  cases e
  exact h σ H _ ⟨F, B, pa, ρ, r, ρ1, S, e1, fun v B1 H1 S1 s1 q1 => k _ B1 H1 (S1.store q1 i) s1⟩
theorem ds_set {i : Nat} {x : Str} {pos' : Pos} (hN : X.N.Nodup) (hi : X.N[i]? = some x) (hx : Loc X.env.scope x) (he : DE X e f) (hs : swapsWith e (some (.Name x pos')) pos.line X.env = pure false := by rfl) (hf : X.fn x = true ∨ X.env.scope.names.lookup x = some .local := by first | exact .inl rfl | exact .inr rfl | assumption) :
    DS X (.Assign [.Name x pos'] e pos) (sSet i f) := PS.imp (ps_set hN hi hx he hs hf) (sSet_of fun _ _ _ z => z)
def sExpr (f : EM) : SM := fun ρ => (f ρ).map fun a => .nx a.2
theorem ds_expr (he : DE X e f) (hs : swapsWith e none pos.line X.env = pure false := by rfl) : DS X (.Expr e pos) (sExpr f) := PS.imp (ps_expr he hs) fun D σ H ⟨F, B, pa, ρ, out, S, e, k⟩ => by
  obtain ⟨⟨r, ρ1⟩, e1, e⟩ := map_some e
  cases e
  exact ⟨F, B, pa, ρ, r, ρ1, S, e1, fun v B1 H1 S1 s1 q1 => k σ B1 H1 S1 s1⟩
def sRet (f : EM) : SM := fun ρ => (f ρ).map fun a => .ret a.1 a.2
theorem ds_ret (he : DE X e f) : DS X (.Return (some e) pos) (sRet f) := PS.imp (ps_ret he) fun D σ H ⟨F, B, pa, ρ, out, S, e, k⟩ => by
  obtain ⟨⟨r, ρ1⟩, e1, e⟩ := map_some e
  cases e
  exact ⟨F, B, pa, ρ, r, ρ1, S, e1, fun v B1 H1 S1 s1 q1 => k v σ B1 H1 S1 s1 q1⟩
def sNever : SM := fun _ => none
theorem ds_never {st : Stmt} : DS X st sNever := PS.imp ps_never fun D σ H ⟨F, B, pa, ρ, out, S, e, k⟩ => by cases e
def sIf (t : TM) (g h : SM) : SM := fun ρ => (t ρ).bind fun a => if a.1 = true then g a.2 else h a.2
theorem ds_if {c : Expr} {a b : List Stmt} {t : TM} {g h : SM} (hc : DT X c t) (ha : DSs X a g) (hb : DSs X b h) : DS X (.If c a b pos) (sIf t g h) := PS.imp (ps_if hc ha hb) fun D σ H ⟨F, B, pa, ρ, out, S, e, k⟩ => by
  obtain ⟨⟨c1, ρ1⟩, e1, e⟩ := bind_some e
  refine ⟨F, B, pa, ρ, c1, ρ1, S, e1, fun B1 H1 S1 s1 => ?_⟩
  cases c1 with
  | true =>
    rw [if_pos rfl]
    exact ⟨F, B1, pa, ρ1, out, S1, e, k.mono s1⟩
  | false =>
    rw [if_neg Bool.false_ne_true]
    exact ⟨F, B1, pa, ρ1, out, S1, e, k.mono s1⟩
/-- a name whose own list is handed on whole -/
def eMove (i : Nat) : EM := fun ρ => match ρ[i]? with
  | some (.d x) => some (.d x, ρ)
  | some (.l xs) => some (.l xs, ρ.set i .u)
  | _ => none
theorem de_move (i : Nat) {x : Str} {pos : Pos} (hN : X.N[i]? = some x := by rfl) (hv : Vis X.env.scope x := by first | exact Or.inl rfl | exact Or.inr (Or.inl rfl) | exact Or.inr (Or.inr rfl)) (hd : (x == ("__debug__" : Str)) = false := by decide)
    (hcd : (x == ("__classdict__" : Str)) = false := by decide) : DE X (.Name x pos) (eMove i) := PE.imp (pe_var hN hv hd hcd) fun σ H Q ⟨F, B, pa, ρ, r, ρ', S, e, k⟩ => by
  unfold eMove at e
  split at e
  · rename_i x hx
    cases e
    obtain ⟨v, h1, h2⟩ := S.sl i _ hx
    exact ⟨v, h1, k v B H S (Same.refl _) h2⟩
  · rename_i xs hx
    cases e
    obtain ⟨a, ws, h1, h2, h3, h4, h5⟩ := S.sl i _ hx
    refine ⟨.ref a, h1, k _ B H (S.forget i) (Same.refl _) ⟨a, ws, rfl, h2, h3, h4, h5, fun j c => ?_⟩⟩
    rcases c.set with ⟨_, z, _⟩ | ⟨hj, c⟩
    · cases z
    · exact hj (S.ds j i a c ⟨_, hx, rfl, h1⟩)
  · cases e
end

/-! ### methods that change an own list -/
abbrev LM := List PyData → List PyData → Option (PyData × List PyData)
def rMD (K : PySem.W.Frag) (op : LM) : V → List V → Hp → VK → Prop := fun x vs H Q => ∃ B a ws xs ds d ys, x = .ref a ∧ Same B H ∧ B a = none ∧ H a = some (.lst ws) ∧ DDs K B ws xs ∧ DDs K B vs ds ∧ op xs ds = some (d, ys) ∧ ∀ v ws', DD K B v d → DDs K B ws' ys → Q v (upd H a (.lst ws'))
def eMeth (op : LM) (i : Nat) (f : AM) : EM := fun ρ => ((ρ[i]?).bind listOf).bind fun _ => (f ρ).bind fun a => (a.2[i]?).bind fun s => (listOf s).bind fun xs => (op xs a.1).map fun b => (.d b.1, a.2.set i (withList b.2 s))
section
variable {K : PySem.W.Frag} {F B B' H H' : Hp} {pa : Nat → Option Addr} {σ : L2.St} {ρ : Rho} {v : V} {vs : List V}
theorem same_upd {B H : Hp} {a : Addr} {o : HO} (e : Same B H) (n : B a = none) : Same B (upd H a o) := same_off e n
theorem tBM_of {op : LM} {i : Nat} {fa : AM} : ∀ σ H Q, tD K (eMeth op i fa) σ H Q → tBM K "list" (rMD K op) (tVar i) (tDA K fa) σ H Q := fun σ H Q ⟨F', B, pa, ρ, r, ρ', S, e, k⟩ => by
  obtain ⟨xs0, e0, e⟩ := bind_some e
  obtain ⟨s0, e00, hs0⟩ := bind_some e0
  obtain ⟨⟨ds, ρ1⟩, e1, e⟩ := bind_some e
  obtain ⟨s, es, e⟩ := bind_some e
  obtain ⟨xs, hs, e⟩ := bind_some e
  obtain ⟨⟨d, ys⟩, eo, e⟩ := map_some e
  cases e
  obtain ⟨a, ws0, ha, _, _, _, hH, _⟩ := listOf_at S e00 hs0
  refine ⟨V.ref a, ha, .inl ⟨rfl, ws0, SqL.of hH⟩, F', B, pa, ρ, ds, ρ1, S, e1, fun vs B1 H1 S1 s1 d1 => ?_⟩
  obtain ⟨a', ws, ha', ca, hB, hF, hH1, hd⟩ := listOf_at S1 es hs
  rw [ha] at ha'
  cases ha'
  refine ⟨B1, a, ws, xs, ds, d, ys, rfl, S1.sb, hB, hH1, hd, d1, eo, fun v ws' dv dw => ?_⟩
  refine k v B1 _ (S1.relist es hs ha (Same.refl _) (same_off S1.sb hB) (same_off S1.sf hF) (S1.tb.lst hH1) S1.fb hB upd_same dw fun j b hj cj => ⟨(S1.cellB cj).1, upd_ne fun z => hj (S1.ds j i a (by rw [← z]; exact cj) ca)⟩) s1 dv
end
section
variable {X : Cx} {y name : Str} {e : Expr} {es : List Expr} {fa : AM} {py apos cpos : Pos} {i : Nat} {id : String} {op : LM}
theorem MtR.imp {r r' : V → List V → Hp → VK → Prop} (h : MtR X id r) (j : ∀ x xs H Q, r' x xs H Q → r x xs H Q) : MtR X id r' := fun pins s σ H x xs v us Q I rx rs hw => h pins s σ H x xs v us Q I rx rs (j x xs H Q hw)
theorem de_meth (pl : PlainAttrs "list") (slot : Slot "list" name id) (hty : typeOf (.builtin id) = pure (.type "method_descriptor")) (hm : MtR X id (rMD X.K op)) (hp : PE X (.Name y py) (tVar i)) (ha : DA X (e :: es) fa)
    (hbase : attributeBase (.Name y py) name X.env (eval (.Name y py) X.env) = eval (.Name y py) X.env := by rfl)
    (hcall : ((backTo cpos (starEach (e :: es) X.env)).all (!·.1) && (backToKw cpos (keywordEach [] X.env)).all (·.1.isSome) && decide ((e :: es).length + ([] : List Keyword).length + (if ([] : List Keyword).isEmpty = true then 0 else 1) < 30)) = true := by rfl)
    (hline : (apos.endLine == cpos.line) = true := by rfl) (he : starEach (e :: es) X.env = (false, eval e X.env) :: starEach es X.env := by rfl) (hpl : (backTo cpos (starEach es X.env)).any (·.1) = false := by rfl) :
    DE X (.Call (.Attribute (.Name y py) name apos) (e :: es) [] cpos) (eMeth op i fa) := PE.imp (pe_bm pl slot hty hm hp ha hbase hcall hline he hpl) tBM_of
theorem de_meth0 (pl : PlainAttrs "list") (slot : Slot "list" name id) (hty : typeOf (.builtin id) = pure (.type "method_descriptor")) (hm : MtR X id (rMD X.K op)) (hp : PE X (.Name y py) (tVar i))
    (hbase : attributeBase (.Name y py) name X.env (eval (.Name y py) X.env) = eval (.Name y py) X.env := by rfl) (hline : (apos.endLine == cpos.line) = true := by rfl) :
    DE X (.Call (.Attribute (.Name y py) name apos) [] [] cpos) (eMeth op i aNil) := PE.imp (pe_bm0 pl slot hty hm hp hbase hline) fun σ H Q h => by
  obtain ⟨v, hv, ty, q⟩ := tBM_of σ H Q h
  refine ⟨v, hv, ty, ?_⟩
  obtain ⟨F', B, pa, ρ, ds, ρ', S, e, k⟩ := q
  cases e
  exact k [] B H S (Same.refl _) .nil
def opAppend : LM := fun xs ds => match ds with
  | [d] => if xs.length < sizeLine then some (.none, xs ++ [d]) else none
  | _ => none
theorem one_of {K : PySem.W.Frag} {B : Hp} {vs : List V} {d : PyData} (h : DDs K B vs [d]) : ∃ v, vs = [v] ∧ DD K B v d := by
  cases h with
  | cons h1 h2 => cases h2; exact ⟨_, rfl, h1⟩
theorem two_of {K : PySem.W.Frag} {B : Hp} {vs : List V} {d e : PyData} (h : DDs K B vs [d, e]) : ∃ v w, vs = [v, w] ∧ DD K B v d ∧ DD K B w e := by
  cases h with
  | cons h1 h2 =>
    obtain ⟨w, rfl, h3⟩ := one_of h2
    exact ⟨_, _, rfl, h1, h3⟩
theorem md_append : MtR X "list.append" (rMD X.K opAppend) := MtR.imp mt_append fun x vs H Q ⟨B, a, ws, xs, ds, d, ys, hx, sb, hB, hH, dw, dv, eo, k⟩ => by
  unfold opAppend at eo
  split at eo
  · rename_i d1
    split at eo
    · rename_i hz
      cases eo
      obtain ⟨v, rfl, h⟩ := one_of dv
      exact ⟨a, ws, v, hx, rfl, hH, by rw [dw.length]; exact hz, k _ _ .non (dw.snoc h)⟩
    · cases eo
  · cases eo
/-- a pop behind -/
def opPop : LM := fun xs ds => if ds.isEmpty = true then (xs[xs.length - 1]?).map fun d => (d, xs.dropLast) else none
theorem DDs.dropLast {K : PySem.W.Frag} {B : Hp} : ∀ {ds : List PyData} {vs : List V}, DDs K B vs ds → DDs K B vs.dropLast ds.dropLast := fun {ds vs} h => by
  rw [List.dropLast_eq_take, List.dropLast_eq_take, h.length]
  exact h.take _
theorem md_pop : MtR X "list.pop" (rMD X.K opPop) := MtR.imp mt_pop fun x vs H Q ⟨B, a, ws, xs, ds, d, ys, hx, sb, hB, hH, dw, dv, eo, k⟩ => by
  unfold opPop at eo
  split at eo
  · rename_i hz
    obtain ⟨d1, e1, eo⟩ := map_some eo
    cases eo
    cases ds with
    | nil =>
      cases dv
      obtain ⟨v, hv, h⟩ := dw.get e1
      exact ⟨a, ws, v, hx, rfl, hH, by rw [dw.length]; exact hv, k _ _ h dw.dropLast⟩
    | cons _ _ => cases hz
  · cases eo
/-- a pop at a place -/
def opPopAt : LM := fun xs ds => match ds with
  | [.int i] => if -(2 ^ 63) ≤ i ∧ i < 2 ^ 63 then (seqIndex? i xs.length).bind fun j => (xs[j]?).map fun d => (d, xs.eraseIdx j) else none
  | _ => none
theorem DDs.eraseIdx {K : PySem.W.Frag} {B : Hp} {ds : List PyData} {vs : List V} (h : DDs K B vs ds) (j : Nat) : DDs K B (vs.eraseIdx j) (ds.eraseIdx j) := by
  rw [List.eraseIdx_eq_take_drop_succ, List.eraseIdx_eq_take_drop_succ]
  exact (h.take _).append (h.drop _)
theorem md_popAt : MtR X "list.pop" (rMD X.K opPopAt) := MtR.imp mt_popAt fun x vs H Q ⟨B, a, ws, xs, ds, d, ys, hx, sb, hB, hH, dw, dv, eo, k⟩ => by
  unfold opPopAt at eo
  split at eo
  · rename_i j
    split at eo
    · rename_i hz
      obtain ⟨n, e1, eo⟩ := bind_some eo
      obtain ⟨d1, e2, eo⟩ := map_some eo
      cases eo
      obtain ⟨v, rfl, h⟩ := one_of dv
      cases h
      obtain ⟨w, hw, h⟩ := dw.get e2
      exact ⟨a, ws, _, n, w, hx, rfl, hH, hz.1, hz.2, by rw [dw.length]; exact e1, hw, k _ _ h (dw.eraseIdx n)⟩
    · cases eo
  · cases eo
def opInsert : LM := fun xs ds => match ds with
  | [.int i, d] => if xs.length < sizeLine ∧ 0 ≤ i ∧ i < 2 ^ 63 then some (.none, xs.take i.toNat ++ [d] ++ xs.drop i.toNat) else none
  | _ => none
def opClear : LM := fun xs ds => if ds.isEmpty = true then some (.none, []) else none
theorem md_clear : MtR X "list.clear" (rMD X.K opClear) := MtR.imp mt_clear fun x vs H Q ⟨B, a, ws, xs, ds, d, ys, hx, sb, hB, hH, dw, dv, eo, k⟩ => by
  unfold opClear at eo
  split at eo
  · rename_i hz
    cases eo
    cases ds with
    | nil =>
      cases dv
      exact ⟨a, ws, hx, rfl, hH, k _ _ .non .nil⟩
    | cons _ _ => cases hz
  · cases eo
end
end DL
end PDL6
section PDL7
/-! Targets, two and three at once, own dicts. -/
namespace DL
open PySem PySem.Spec PyProof.Rows L2
variable [TC : TabsC]

/-! ### targets -/
/-- only the slots vs are others -/
def Off (vs : List Nat) (σ σ' : L2.St) : Prop := σ'.length = σ.length ∧ ∀ j, j ∉ vs → σ'[j]? = σ[j]?
theorem Off.refl (vs : List Nat) (σ : L2.St) : Off vs σ σ := ⟨rfl, fun _ _ => rfl⟩
theorem Off.set {vs : List Nat} {σ : L2.St} {i : Nat} {v : Option V} (h : i ∈ vs) : Off vs σ (σ.set i v) := ⟨by simp, fun j hj => List.getElem?_set_ne fun z => hj (by rw [← z]; exact h)⟩
theorem Off.app {vs ws : List Nat} {σ σ1 σ2 : L2.St} (a : Off vs σ σ1) (b : Off ws σ1 σ2) : Off (vs ++ ws) σ σ2 :=
  ⟨b.1.trans a.1, fun j hj => (b.2 j fun z => hj (List.mem_append_right _ z)).trans (a.2 j fun z => hj (List.mem_append_left _ z))⟩
abbrev GD := Rs → Rho → Option Rho
def tDG (K : PySem.W.Frag) (vs : List Nat) (gd : GD) : TG := fun v σ H Q => ∃ F B pa ρ r ρ', StR K F B pa σ H ρ ∧ RsR K F B σ H ρ v r ∧ gd r ρ = some ρ' ∧ ∀ σ' B' H', StR K F B' pa σ' H' ρ' → Same B B' → Off vs σ σ' → Q σ' H'
abbrev DG (X : Cx) (vs : List Nat) (tg : Expr) (gd : GD) : Prop := PG X tg (tDG X.K vs gd)
def gdName (i : Nat) : GD := fun r ρ => some (ρ.set i r.sl)
section
variable {X : Cx} {pos : Pos}
theorem dg_name {i : Nat} {x : Str} (hN : X.N.Nodup) (hi : X.N[i]? = some x) (hx : Loc X.env.scope x) (hf : X.fn x = true ∨ X.env.scope.names.lookup x = some .local := by first | exact .inl rfl | exact .inr rfl | assumption) : DG X [i] (.Name x pos) (gdName i) :=
  PG.imp (pg_name hN hi hx hf) fun v σ H Q ⟨F, B, pa, ρ, r, ρ', S, q, e, k⟩ => by
    cases e
    exact k _ B H (S.store q i) (Same.refl _) (Off.set (by simp))
/-- targets one behind another, on data -/
abbrev GDs := List PyData → Rho → Option Rho
def tDGs (K : PySem.W.Frag) (is : List Nat) (gd : GDs) : TGs := fun vs σ H Q => ∃ F B pa ρ ds ρ', StR K F B pa σ H ρ ∧ DDs K B vs ds ∧ gd ds ρ = some ρ' ∧ ∀ σ' B' H', StR K F B' pa σ' H' ρ' → Same B B' → Off is σ σ' → Q σ' H'
abbrev DGs (X : Cx) (is : List Nat) (ts : List Expr) (gd : GDs) : Prop := PGs X ts (tDGs X.K is gd)
theorem PGs.imp {X : Cx} {e : List Expr} {t t' : TGs} (h : PGs X e t) (i : ∀ v σ H Q, t' v σ H Q → t v σ H Q) : PGs X e t' := ⟨fun pins s σ H v u Q I r hw => h.run pins s σ H v u Q I r (i v σ H Q hw)⟩
def gdNil : GDs := fun ds ρ => if ds.isEmpty = true then some ρ else none
def gdCons (g : GD) (h : GDs) : GDs := fun ds ρ => match ds with
  | d :: r => (g (.d d) ρ).bind (h r)
  | [] => none
theorem dgs_nil : DGs X [] [] gdNil := PGs.imp pgs_nil fun vs σ H Q ⟨F, B, pa, ρ, ds, ρ', S, d, e, k⟩ => by
  unfold gdNil at e
  split at e
  · rename_i hz
    cases e
    cases ds with
    | nil =>
      cases d
      exact ⟨rfl, k σ B H S (Same.refl _) (Off.refl _ _)⟩
    | cons _ _ => cases hz
  · cases e
theorem dgs_cons {is js : List Nat} {e : Expr} {es : List Expr} {g : GD} {h : GDs} (h1 : DG X is e g) (h2 : DGs X js es h) (hs : (assignEach (e :: es) X.env).map (·.2) = assign e X.env :: (assignEach es X.env).map (·.2) := by rfl) : DGs X (is ++ js) (e :: es) (gdCons g h) :=
  PGs.imp (pgs_cons h1 h2 hs) fun vs σ H Q ⟨F, B, pa, ρ, ds, ρ', S, d, e, k⟩ => by
    cases ds with
    | nil => cases e
    | cons d0 ds =>
      cases d with
      | cons d1 d2 =>
        obtain ⟨ρ1, e1, e2⟩ := bind_some (show (g (.d d0) ρ).bind (h ds) = some ρ' from e)
        exact ⟨_, _, rfl, F, B, pa, ρ, .d d0, ρ1, S, d1, e1, fun σ1 B1 H1 S1 s1 o1 => ⟨F, B1, pa, ρ1, ds, ρ', S1, d2.up s1, e2, fun σ' B' H' S' s' o' => k σ' B' H' S' (s1.trans s') (o1.app o')⟩⟩
def gdTup (n : Nat) (h : GDs) : GD := fun r ρ => match r with
  | .d (.tuple ds) => if ds.length = n then h ds ρ else none
  | _ => none
theorem dg_tup {is : List Nat} {es : List Expr} {k : Nat} {h : GDs} {n : Nat} (hc : X.calm = true) (hh : DGs X is es h) (hn : (assignEach es X.env).length = n := by rfl) (hst : (assignEach es X.env).findIdx? (·.1) = none := by rfl) : DG X is (.Tuple es k pos) (gdTup n h) :=
  PG.imp (pg_tup hc hh hn hst) fun v σ H Q ⟨F, B, pa, ρ, r, ρ', S, q, e, k⟩ => by
    cases r with
    | l xs => cases e
    | d x =>
      cases x with
      | tuple ds =>
        change (if ds.length = n then h ds ρ else none) = some ρ' at e
        split at e
        · rename_i hl
          cases q with
          | tup h1 h2 => exact ⟨_, _, rfl, SqT.of (S.sb _ _ h1), h2.length.trans hl, F, B, pa, ρ, ds, ρ', S, h2, e, k⟩
        · cases e
      | none => cases e
      | bool _ => cases e
      | int _ => cases e
      | str _ => cases e
      | list _ => cases e
      | dict _ => cases e
/-- x[e] = .. of an own list -/
def gdIx (i : Nat) (f : EM) : GD := fun r ρ => ((ρ[i]?).bind listOf).bind fun _ => match r with
  | .d d => (f ρ).bind fun a => (a.2[i]?).bind fun s => (listOf s).bind fun xs => match a.1.data with
    | .int k => (ixN xs.length k).map fun j => a.2.set i (withList (xs.set j d) s)
    | _ => none
  | _ => none
theorem dg_ix {x : Str} {px : Pos} {i : Nat} {ie : Expr} {f : EM} (hp : PE X (.Name x px) (tVar i)) (hi : DE X ie f)
    (ha : ∀ v, assign (.Subscript (.Name x px) ie pos) X.env v = (do
      let ov ← holding [v] (eval (.Name x px) X.env)
      let iv ← holding [v, ov] (eval ie X.env)
      standAt pos
      holding [v, ov, iv] (setItem ov iv v)
      release [v, ov, iv] []) := by intro _; rfl) : DG X [] (.Subscript (.Name x px) ie pos) (gdIx i f) :=
  PG.imp (pg_sub hp hi set_list ha) fun v σ H Q ⟨F, B, pa, ρ, r, ρ', S, q, e, k⟩ => by
    obtain ⟨xs0, e0, e⟩ := bind_some e
    obtain ⟨s0, e00, hs0⟩ := bind_some e0
    cases r with
    | l xs => cases e
    | d d0 =>
      obtain ⟨⟨r1, ρ1⟩, e1, e⟩ := bind_some e
      obtain ⟨s, es, e⟩ := bind_some e
      obtain ⟨xs, hs, e⟩ := bind_some e
      obtain ⟨a, ws0, hA, _⟩ := listOf_at S e00 hs0
      refine ⟨V.ref a, hA, tD_take S e1 fun iv B1 H1 S1 s1 d1 => ?_⟩
      have d1 : DD X.K B1 iv r1.data := d1
      change (match r1.data with | .int k => (ixN xs.length k).map fun j => ρ1.set i (withList (xs.set j d0) s) | _ => none) = some ρ' at e
      split at e
      · rename_i kk hk
        rw [hk] at d1
        cases d1
        obtain ⟨j, ej, e⟩ := map_some e
        cases e
        obtain ⟨a', ws, ha', ca, hB, hF, hH1, hd⟩ := listOf_at S1 es hs
        rw [hA] at ha'
        cases ha'
        have q1 : DD X.K B1 v d0 := DD.up (show DD X.K B v d0 from q) s1
        refine ⟨a, ws, kk, j, rfl, rfl, hH1, by rw [hd.length]; exact ej, k σ B1 _ (S1.relist es hs hA (Same.refl _) (same_off S1.sb hB) (same_off S1.sf hF) (S1.tb.lst hH1) S1.fb hB upd_same (hd.set j q1) fun m b hm cm => ⟨(S1.cellB cm).1, upd_ne fun z => hm (S1.ds m i a (by rw [← z]; exact cm) ca)⟩) s1 (Off.refl _ _)⟩
      · cases e
/-! ### target = e -/
def sAsg (gd : GD) (f : EM) : SM := fun ρ => (f ρ).bind fun a => (gd a.1 a.2).map .nx
theorem ds_asg {is : List Nat} {tg e : Expr} {f : EM} {gd : GD} (he : DE X e f) (hg : DG X is tg gd) (hs : swapsWithSole [tg] e pos.line X.env = pure false := by rfl) (hw : swappedStores [tg] e X.env = pure none := by rfl) (h1 : (assignEach [tg] X.env).map (·.2) = [assign tg X.env] := by rfl) :
    DS X (.Assign [tg] e pos) (sAsg gd f) := PS.imp (ps_asg he hg hs hw h1) fun D σ H ⟨F, B, pa, ρ, out, S, e, k⟩ => by
  obtain ⟨⟨r, ρ1⟩, e1, e⟩ := bind_some e
  obtain ⟨ρ2, e2, e⟩ := map_some e
  cases e
  exact ⟨F, B, pa, ρ, r, ρ1, S, e1, fun v B1 H1 S1 s1 q1 => ⟨F, B1, pa, ρ1, r, ρ2, S1, q1, e2, fun σ' B' H' S' s' _ => k σ' B' H' S' (s1.trans s')⟩⟩
/-- .. of what is data then -/
def sAsgD (gd : GD) (f : EM) : SM := fun ρ => (f ρ).bind fun a => (gd (.d a.1.data) a.2).map .nx
theorem ds_asgD {is : List Nat} {tg e : Expr} {f : EM} {gd : GD} (he : DE X e f) (hg : DG X is tg gd) (hs : swapsWithSole [tg] e pos.line X.env = pure false := by rfl) (hw : swappedStores [tg] e X.env = pure none := by rfl) (h1 : (assignEach [tg] X.env).map (·.2) = [assign tg X.env] := by rfl) :
    DS X (.Assign [tg] e pos) (sAsgD gd f) := PS.imp (ps_asg he hg hs hw h1) fun D σ H ⟨F, B, pa, ρ, out, S, e, k⟩ => by
  obtain ⟨⟨r, ρ1⟩, e1, e⟩ := bind_some e
  obtain ⟨ρ2, e2, e⟩ := map_some e
  cases e
  exact tD_take S e1 fun v B1 H1 S1 s1 d1 => ⟨F, B1, pa, ρ1, .d r.data, ρ2, S1, d1, e2, fun σ' B' H' S' s' _ => k σ' B' H' S' (s1.trans s')⟩
end

/-! ### two, three at once -/
section
variable {K : PySem.W.Frag} {F F' B B' H H' : Hp} {pa : Nat → Option Addr} {σ : L2.St} {ρ ρ' : Rho} {v : V} {r : Rs}
theorem StR.weakF (S : StR K F' B pa σ H ρ) (e : Same F F') : StR K F B pa σ H ρ := by
  have no : ∀ {a : Addr}, F' a = none → F a = none := fun {a} h => e.free h
  refine ⟨S.len, S.sb, e.trans S.sf, ⟨S.tb.t, S.tb.b, fun b ps z => S.tb.f b ps (e b _ z)⟩, fun q hq => S.fb q fun z => hq (no z), fun i s es => ?_, S.ds⟩
  have w := S.sl i s es
  cases s with
  | u => trivial
  | d x => exact w
  | l xs => obtain ⟨b, ws, h1, h2, h3, h4⟩ := w; exact ⟨b, ws, h1, h2, no h3, h4⟩
  | p xs => obtain ⟨b, ws, h0, h1, h2, h3, h4⟩ := w; exact ⟨b, ws, h0, h1, h2, no h3, h4⟩
  | k t kvs => obtain ⟨b, h1, h2, h3, h4⟩ := w; exact ⟨b, h1, h2, no h3, h4⟩
/-- an object that must stand, besides -/
theorem StR.moreF (S : StR K F B pa σ H ρ) {a : Addr} {o : HO} (ho : ∀ ps, o ≠ .tbl ps) (h : H a = some o) (n : B a = none) (nc : ∀ i, ¬ CellAt ρ σ i a) : StR K (upd F a o) B pa σ H ρ := by
  refine ⟨S.len, S.sb, same_both S.sf h, ⟨S.tb.t, S.tb.b, S.tb.f.upd ho⟩, fun q hq => ?_, fun i s es => ?_, S.ds⟩
  · by_cases z : q = a
    · rw [z]; exact n
    · rw [upd_ne z] at hq; exact S.fb q hq
  · have w := S.sl i s es
    have ne : ∀ {b : Addr}, s.cell = true → σ[i]? = some (some (V.ref b)) → b ≠ a := fun {b} hc hb z => nc i ⟨s, es, hc, by rw [← z]; exact hb⟩
    cases s with
    | u => trivial
    | d x => exact w
    | l xs => obtain ⟨b, ws, h1, h2, h3, h4⟩ := w; exact ⟨b, ws, h1, h2, by rw [upd_ne (ne rfl h1)]; exact h3, h4⟩
    | p xs => obtain ⟨b, ws, h0, h1, h2, h3, h4⟩ := w; exact ⟨b, ws, h0, h1, h2, by rw [upd_ne (ne rfl h1)]; exact h3, h4⟩
    | k t kvs => obtain ⟨b, h1, h2, h3, h4⟩ := w; exact ⟨b, h1, h2, by rw [upd_ne (ne rfl h1)]; exact h3, h4⟩
/-- a result is held while something else is reckoned -/
theorem RsR.hold (S : StR K F B pa σ H ρ) (q : RsR K F B σ H ρ v r) : ∃ F', Same F F' ∧ StR K F' B pa σ H ρ ∧ ∀ B' H' ρ', StR K F' B' pa σ H' ρ' → Same B B' → RsR K F B' σ H' ρ' v r ∧ (∀ a, v = V.ref a → r.sl.cell = true → F' a ≠ none) := by
  cases r with
  | d x => exact ⟨F, Same.refl _, S, fun B' H' ρ' S' s' => ⟨DD.up (show DD K B v x from q) s', fun _ _ z => by cases z⟩⟩
  | l xs =>
    obtain ⟨a, ws, rfl, h2, h3, h4, h5, h6⟩ := q
    refine ⟨upd F a (.lst ws), same_new h3, S.moreF (o := .lst ws) (fun ps z => nomatch z) h4 h2 h6, fun B' H' ρ' S' s' => ⟨⟨a, ws, rfl, ?_, h3, S'.sf a _ upd_same, h5.up s', fun i c => ?_⟩, fun b z _ => ?_⟩⟩
    · exact S'.fb a (by rw [upd_same]; simp)
    · have z := (S'.cellB c).2.1
      rw [upd_same] at z
      cases z
    · cases z
      rw [upd_same]
      simp
end
def sPar (i j : Nat) (f g : EM) : SM := fun ρ => (f ρ).bind fun a => (g a.2).map fun b => .nx ((b.2.set i a.1.sl).set j b.1.sl)
section
variable {K : PySem.W.Frag}
theorem store2 {F B H : Hp} {pa : Nat → Option Addr} {σ : L2.St} {ρ : Rho} {v w : V} {r q : Rs} (S : StR K F B pa σ H ρ) (h1 : RsR K F B σ H ρ v r) (h2 : RsR K F B σ H ρ w q) (ap : ∀ a, v = V.ref a → r.sl.cell = true → w = V.ref a → q.sl.cell = true → False) (i j : Nat) :
    StR K F B pa ((σ.set i (some v)).set j (some w)) H ((ρ.set i r.sl).set j q.sl) := by
  refine (S.store h1 i).store ?_ j
  cases q with
  | d x => exact h2
  | l xs =>
    obtain ⟨a, ws, rfl, g2, g3, g4, g5, g6⟩ := h2
    refine ⟨a, ws, rfl, g2, g3, g4, g5, fun m c => ?_⟩
    obtain ⟨s, e, hc, z⟩ := c
    by_cases hm : m = i
    · subst hm
      have hl : m < ρ.length := by
        obtain ⟨hl, _⟩ := List.getElem?_eq_some_iff.mp e
        simpa using hl
      rw [List.getElem?_set_self hl] at e
      cases e
      rw [List.getElem?_set_self (by rw [← S.len]; exact hl)] at z
      cases z
      exact ap a rfl hc rfl rfl
    · rw [List.getElem?_set_ne (Ne.symm hm)] at e z
      exact g6 m ⟨s, e, hc, z⟩
theorem par2_of {f g : EM} {i j : Nat} : ∀ D σ H, tDS K (sPar i j f g) D σ H → tPar i j (tCons (tD K f) (tCons (tD K g) tNil)) D σ H := fun D σ H ⟨F, B, pa, ρ, out, S, e, k⟩ => by
  obtain ⟨⟨r1, ρ1⟩, e1, e⟩ := bind_some e
  obtain ⟨⟨r2, ρ2⟩, e2, e⟩ := map_some e
  cases e
  refine ⟨F, B, pa, ρ, r1, ρ1, S, e1, fun v B1 H1 S1 s1 q1 => ?_⟩
  obtain ⟨F', sF, S1', hold⟩ := q1.hold S1
  refine ⟨F', B1, pa, ρ1, r2, ρ2, S1', e2, fun w B2 H2 S2 s2 q2 => ?_⟩
  obtain ⟨q1', hp⟩ := hold B2 H2 ρ2 S2 s2
  have q2' : RsR K F B2 σ H2 ρ2 w r2 := by
    cases r2 with
    | d x => exact q2
    | l xs =>
      obtain ⟨a, ws, g1, g2, g3, g4⟩ := q2
      exact ⟨a, ws, g1, g2, sF.free g3, g4⟩
  refine ⟨v, w, rfl, k _ B2 H2 (store2 (S2.weakF sF) q1' q2' (fun a h1 h2 h3 h4 => ?_) i j) (s1.trans s2)⟩
  cases r2 with
  | d x => cases h4
  | l xs =>
    obtain ⟨b, ws, g1, g2, g3, g4⟩ := q2
    rw [h3] at g1
    cases g1
    exact hp a h1 h2 g3
end
section
variable {X : Cx} {pos : Pos}
theorem ds_par {i j : Nat} {x y : Str} {a b : Expr} {f g : EM} {px py pt : Pos} {kt k2 pt2} (hc : X.calm = true) (hN : X.N.Nodup) (hi : X.N[i]? = some x) (hj : X.N[j]? = some y) (hij : i ≠ j)
    (hx : X.env.scope.names.lookup x = some .local) (hy : X.env.scope.names.lookup y = some .local) (ha : DE X a f) (hb : DE X b g)
    (hw : swappedStores [.Tuple [.Name x px, .Name y py] kt pt] (.Tuple [a, b] k2 pt2) X.env = pure (some [x, y]) := by rfl)
    (hs : swapsWithSole [.Tuple [.Name x px, .Name y py] kt pt] (.Tuple [a, b] k2 pt2) pos.line X.env = pure false := by rfl)
    (h1 : starEach [a, b] X.env = (false, eval a X.env) :: starEach [b] X.env := by rfl) (h2 : starEach [b] X.env = (false, eval b X.env) :: starEach [] X.env := by rfl) :
    DS X (.Assign [.Tuple [.Name x px, .Name y py] kt pt] (.Tuple [a, b] k2 pt2) pos) (sPar i j f g) := PS.imp (ps_par hc hN hi hj hij hx hy (pa_cons ha (pa_cons hb pa_nil h2) h1) hw hs) par2_of
/-- three, data alone -/
def sPar3 (i j l : Nat) (f : AM) : SM := fun ρ => (f ρ).bind fun a => match a.1 with
  | [x, y, z] => some (.nx (((a.2.set i (.d x)).set j (.d y)).set l (.d z)))
  | _ => none
theorem ds_par3 {i j l : Nat} {x y z : Str} {a b c : Expr} {f : AM} {px py pz pt : Pos} {kt k2 pt2} (hc : X.calm = true) (hN : X.N.Nodup) (hi : X.N[i]? = some x) (hj : X.N[j]? = some y) (hl : X.N[l]? = some z) (hij : i ≠ j) (hil : i ≠ l) (hjl : j ≠ l)
    (hx : X.env.scope.names.lookup x = some .local) (hy : X.env.scope.names.lookup y = some .local) (hz : X.env.scope.names.lookup z = some .local) (ha : DA X [a, b, c] f)
    (hw : swappedStores [.Tuple [.Name x px, .Name y py, .Name z pz] kt pt] (.Tuple [a, b, c] k2 pt2) X.env = pure (some [x, y, z]) := by rfl)
    (hs : swapsWithSole [.Tuple [.Name x px, .Name y py, .Name z pz] kt pt] (.Tuple [a, b, c] k2 pt2) pos.line X.env = pure false := by rfl) :
    DS X (.Assign [.Tuple [.Name x px, .Name y py, .Name z pz] kt pt] (.Tuple [a, b, c] k2 pt2) pos) (sPar3 i j l f) := PS.imp (ps_par3 hc hN hi hj hl hij hil hjl hx hy hz ha hw hs) fun D σ H ⟨F, B, pa, ρ, out, S, e, k⟩ => by
  obtain ⟨⟨ds, ρ1⟩, e1, e⟩ := bind_some e
  split at e
  · rename_i a1 a2 a3 hds
    have hds : ds = [a1, a2, a3] := hds
    subst hds
    cases e
    refine ⟨F, B, pa, ρ, _, ρ1, S, e1, fun vs B1 H1 S1 s1 d1 => ?_⟩
    cases d1 with
    | cons h1 d1 =>
      obtain ⟨v, w, rfl, h2, h3⟩ := two_of d1
      exact ⟨_, _, _, rfl, k _ B1 H1 (((S1.store (r := .d _) h1 i).store (r := .d _) h2 j).store (r := .d _) h3 l) s1⟩
  · cases e
/-! ### {} as data -/
def eNod : EM := fun ρ => some (.d (.dict []), ρ)
theorem de_nod : DE X (.Dict [] [] pos) eNod := PE.imp pe_dnewK fun σ H Q ⟨F, B, pa, ρ, r, ρ', S, e, k⟩ p n => by
  cases e
  obtain ⟨S', s'⟩ := S.newData (o := .dK []) (fun ps z => nomatch z) n
  exact k _ _ _ S' s' (.nod upd_same)
end
end DL
end PDL7
section PDL8
/-! What is walked; for, while, comprehensions. -/
namespace DL
open PySem PySem.Spec PyProof.Rows L2
variable [TC : TabsC]

/-- the items that an iterator gives, as data, while what B tells stands -/
structure WalkD (K : PySem.W.Frag) (B : Hp) (J : It) (ds : List PyData) : Prop where
  goes : ∀ i H, i < ds.length → Same B H → J.go i H
  stops : ∀ H, Same B H → J.stop ds.length H
  yields : ∀ i H x H' d, ds[i]? = some d → Same B H → J.yld i H x H' → NewR K B H x H' (.d d)
theorem NewR.up {K : PySem.W.Frag} {B B' H H' : Hp} {v : V} {r : Rs} (n : NewR K B H v H' r) (e : Same B B') : NewR K B' H v H' r := by
  cases n with
  | old h => exact .old (h.up e)
  | lst n h => exact .lst n (h.up e)
  | tup n h => exact .tup n (h.up e)
theorem WalkD.up {K : PySem.W.Frag} {B B' : Hp} {J : It} {ds : List PyData} (w : WalkD K B J ds) (e : Same B B') : WalkD K B' J ds :=
  ⟨fun i H hi s => w.goes i H hi (e.trans s), fun H s => w.stops H (e.trans s), fun i H x H' d hd s y => (w.yields i H x H' d hd (e.trans s) y).up e⟩
def tDI (K : PySem.W.Frag) (f : AM) : TI := fun σ H R => ∃ F B pa ρ ds ρ', StR K F B pa σ H ρ ∧ f ρ = some (ds, ρ') ∧ ∀ J B' H', StR K F B' pa σ H' ρ' → Same B B' → WalkD K B' J ds → R J H'
abbrev DI (X : Cx) (tg e : Expr) (f : AM) : Prop := PI X tg e (tDI X.K f)

section
variable {K : PySem.W.Frag} {B : Hp} {a b : Addr} {vs : List V} {ds es : List PyData}
theorem walkD_list (h : B a = some (.lst vs)) (d : DDs K B vs ds) : WalkD K B (Itl K a) ds := by
  refine ⟨fun i H hi s => ?_, fun H s => ⟨vs, SqL.of (s _ _ h), Nat.le_of_eq d.length⟩, fun i H x H' e he s y => ?_⟩
  · obtain ⟨v, hv, _⟩ := d.get (List.getElem?_eq_getElem hi)
    exact ⟨vs, v, SqL.of (s _ _ h), hv⟩
  · obtain ⟨rfl, y⟩ := y
    obtain ⟨v, hv, hd⟩ := d.get he
    rw [y vs (SqL.of (s _ _ h))] at hv
    cases hv
    exact .old hd
theorem walkD_tup (h : B a = some (.tup vs)) (d : DDs K B vs ds) : WalkD K B (Itt K a) ds := by
  refine ⟨fun i H hi s => ?_, fun H s => ⟨vs, SqT.of (s _ _ h), Nat.le_of_eq d.length⟩, fun i H x H' e he s y => ?_⟩
  · obtain ⟨v, hv, _⟩ := d.get (List.getElem?_eq_getElem hi)
    exact ⟨vs, v, SqT.of (s _ _ h), hv⟩
  · obtain ⟨rfl, y⟩ := y
    obtain ⟨v, hv, hd⟩ := d.get he
    rw [y vs (SqT.of (s _ _ h))] at hv
    cases hv
    exact .old hd
/-- lo, lo + c, .. -/
def rngD (lo c : Int) (n : Nat) : List PyData := (List.range n).map fun i => .int (lo + (i : Nat) * c)
theorem rngD_len {lo c : Int} {n : Nat} : (rngD lo c n).length = n := by simp [rngD]
theorem rngD_at {lo c : Int} {n i : Nat} {d : PyData} (h : (rngD lo c n)[i]? = some d) : d = .int (lo + (i : Nat) * c) := by
  unfold rngD at h
  rw [List.getElem?_map] at h
  cases q : (List.range n)[i]? with
  | none => rw [q] at h; cases h
  | some j =>
    rw [q] at h
    cases h
    obtain ⟨hl, e⟩ := List.getElem?_eq_some_iff.mp q
    rw [List.getElem_range] at e
    rw [e]
theorem walkD_range {lo : Int} {n : Nat} : WalkD K B (Itr lo n) (rngD lo 1 n) := by
  refine ⟨fun i H hi s => by rw [rngD_len] at hi; exact hi, fun H s => by rw [rngD_len]; exact Nat.le_refl _, fun i H x H' e he s y => ?_⟩
  obtain ⟨rfl, rfl⟩ := y
  rw [rngD_at he, Int.mul_one]
  exact .old (.int _)
theorem walkD_rangeC {lo c : Int} {n : Nat} : WalkD K B (Itc lo c n) (rngD lo c n) := by
  refine ⟨fun i H hi s => by rw [rngD_len] at hi; exact hi, fun H s => by rw [rngD_len]; exact Nat.le_refl _, fun i H x H' e he s y => ?_⟩
  obtain ⟨rfl, rfl⟩ := y
  rw [rngD_at he]
  exact .old (.int _)
/-- (0, x), (1, y), .. -/
def enumD (ds : List PyData) : List PyData := ds.mapIdx fun i d => .tuple [.int (i : Nat), d]
theorem enumD_at {i : Nat} {d : PyData} (h : (enumD ds)[i]? = some d) : ∃ x, ds[i]? = some x ∧ d = .tuple [.int (i : Nat), x] := by
  unfold enumD at h
  rw [List.getElem?_mapIdx] at h
  cases q : ds[i]? with
  | none => rw [q] at h; cases h
  | some x => rw [q] at h; cases h; exact ⟨x, rfl, rfl⟩
theorem walkD_enum (h : B a = some (.lst vs)) (d : DDs K B vs ds) : WalkD K B (Ite K a) (enumD ds) := by
  have hl : (enumD ds).length = ds.length := by simp [enumD]
  refine ⟨fun i H hi s => ?_, fun H s => ⟨vs, SqL.of (s _ _ h), by rw [hl, d.length]; exact Nat.le_refl _⟩, fun i H x H' e he s y => ?_⟩
  · rw [hl] at hi
    obtain ⟨v, hv, _⟩ := d.get (List.getElem?_eq_getElem hi)
    exact ⟨vs, v, SqL.of (s _ _ h), hv⟩
  · obtain ⟨T, v, rfl, n, rfl, y⟩ := y
    obtain ⟨x, hx, rfl⟩ := enumD_at he
    obtain ⟨v', hv, hd⟩ := d.get hx
    rw [y vs (SqL.of (s _ _ h))] at hv
    cases hv
    exact .tup n (.cons (.int _) (.cons hd .nil))
def zipD (ds es : List PyData) : List PyData := List.zipWith (fun x y => .tuple [x, y]) ds es
theorem zipD_at {i : Nat} {d : PyData} (h : (zipD ds es)[i]? = some d) : ∃ x y, ds[i]? = some x ∧ es[i]? = some y ∧ d = .tuple [x, y] := by
  unfold zipD at h
  rw [List.getElem?_zipWith] at h
  cases q : ds[i]? with
  | none => rw [q] at h; cases h
  | some x =>
    cases q2 : es[i]? with
    | none => rw [q, q2] at h; cases h
    | some y => rw [q, q2] at h; cases h; exact ⟨x, y, rfl, rfl, rfl⟩
theorem walkD_zip {us : List V} (h : B a = some (.lst vs)) (d : DDs K B vs ds) (h2 : B b = some (.lst us)) (d2 : DDs K B us es) : WalkD K B (Itz K a b) (zipD ds es) := by
  have hl : (zipD ds es).length = min ds.length es.length := by simp [zipD]
  refine ⟨fun i H hi s => ?_, fun H s => ⟨vs, us, SqL.of (s _ _ h), SqL.of (s _ _ h2), by rw [hl, d.length, d2.length]; omega⟩, fun i H x H' e he s y => ?_⟩
  · rw [hl] at hi
    obtain ⟨v, hv, _⟩ := d.get (List.getElem?_eq_getElem (show i < ds.length by omega))
    obtain ⟨w, hw, _⟩ := d2.get (List.getElem?_eq_getElem (show i < es.length by omega))
    exact ⟨vs, us, v, w, SqL.of (s _ _ h), SqL.of (s _ _ h2), hv, hw⟩
  · obtain ⟨T, v, w, rfl, n, rfl, y1, y2⟩ := y
    obtain ⟨x, z, hx, hz, rfl⟩ := zipD_at he
    obtain ⟨v', hv, hd⟩ := d.get hx
    obtain ⟨w', hw, hd2⟩ := d2.get hz
    rw [y1 vs (SqL.of (s _ _ h))] at hv
    rw [y2 us (SqL.of (s _ _ h2))] at hw
    cases hv; cases hw
    exact .tup n (.cons hd (.cons hd2 .nil))
theorem walkD_zipT {us : List V} (h : B a = some (.tup vs)) (d : DDs K B vs ds) (h2 : B b = some (.tup us)) (d2 : DDs K B us es) : WalkD K B (RZ.ItzT K a b) (zipD ds es) := by
  have hl : (zipD ds es).length = min ds.length es.length := by simp [zipD]
  refine ⟨fun i H hi s => ?_, fun H s => ⟨vs, us, SqT.of (s _ _ h), SqT.of (s _ _ h2), by rw [hl, d.length, d2.length]; omega⟩, fun i H x H' e he s y => ?_⟩
  · rw [hl] at hi
    obtain ⟨v, hv, _⟩ := d.get (List.getElem?_eq_getElem (show i < ds.length by omega))
    obtain ⟨w, hw, _⟩ := d2.get (List.getElem?_eq_getElem (show i < es.length by omega))
    exact ⟨vs, us, v, w, SqT.of (s _ _ h), SqT.of (s _ _ h2), hv, hw⟩
  · obtain ⟨T, v, w, rfl, n, rfl, y1, y2⟩ := y
    obtain ⟨x, z, hx, hz, rfl⟩ := zipD_at he
    obtain ⟨v', hv, hd⟩ := d.get hx
    obtain ⟨w', hw, hd2⟩ := d2.get hz
    rw [y1 vs (SqT.of (s _ _ h))] at hv
    rw [y2 us (SqT.of (s _ _ h2))] at hw
    cases hv; cases hw
    exact .tup n (.cons hd (.cons hd2 .nil))
end

/-! ### iterables -/
section
variable {X : Cx} {tg e e2 : Expr} {f : EM} {fa : AM} {p pos tpos : Pos} {elts : List Expr} {kk : Nat}
/-- a list, or a tuple in its place -/
def iSeqV (K : PySem.W.Frag) (tl : TE) : TI := fun σ H R => tl σ H fun x H1 => ∃ a, x = .ref a ∧ (((∃ xs, H1 a = some (.lst xs)) ∧ R (Itl K a) H1) ∨ ((∃ xs, H1 a = some (.tup xs)) ∧ R (Itt K a) H1))
theorem pi_seqV {tl : TE} (hl : PE X e tl) : PI X tg e (iSeqV X.K tl) := by
  refine ⟨fun pins s σ H R I h => thn (hl.run pins s σ H _ I h) fun v s1 ⟨x, H1, I1, r1, a, e1, q1⟩ => ?_⟩
  subst e1
  cases r1
  have fp : ∀ b ∈ [s1.heap.objs.size], FpOk X pins H1 b := fun b hb => by
    have z : b = s1.heap.objs.size := by simpa using hb
    subst z
    exact I1.fpOk (Nat.le_refl _) (I1.hok.fresh (Nat.le_refl _))
  rcases q1 with ⟨⟨xs, hx⟩, q⟩ | ⟨⟨xs, hx⟩, q⟩
  · obtain ⟨its, rv, pl, hz⟩ := I1.list (SqL.of hx)
    exact wpAny_pyIter_list pl.isList ⟨s1.heap.objs.size, [s1.heap.objs.size], _, _, H1, rfl, I1.kept (t' := s1.toks) fun b o z => Heap.get?_push_of_some _ z, turn_list a _, ⟨_, Heap.get?_push_size _ rfl, rfl, rfl⟩, fp, q⟩
  · obtain ⟨its, rv, pl, hz⟩ := I1.tuple (SqT.of hx)
    exact wpAny_pyIter_tuple (show s1.heap.IsTuple a its.toArray from pl) ⟨s1.heap.objs.size, [s1.heap.objs.size], _, _, H1, rfl, I1.kept (t' := s1.toks) fun b o z => Heap.get?_push_of_some _ z, turn_tuple a _, ⟨_, Heap.get?_push_size _ rfl, rfl, rfl⟩, fp, q⟩
def iSeq (f : EM) : AM := fun ρ => (f ρ).bind fun a => (itemsOf a.1.data).map fun xs => (xs, a.2)
theorem di_seq (hl : DE X e f) : DI X tg e (iSeq f) := PI.imp (pi_seqV hl) fun σ H R ⟨F, B, pa, ρ, ds, ρ', S, e, k⟩ => by
  obtain ⟨⟨r, ρ1⟩, e1, e⟩ := bind_some e
  obtain ⟨xs, e2, e⟩ := map_some e
  cases e
  refine tD_take S e1 fun v B1 H1 S1 s1 d1 => ?_
  have d1 : DD X.K B1 v r.data := d1
  cases hr : r.data with
  | list ys =>
    rw [hr] at d1 e2
    cases e2
    cases d1 with
    | lst h1 h2 => exact ⟨_, rfl, .inl ⟨⟨_, S1.sb _ _ h1⟩, k _ B1 H1 S1 s1 (walkD_list h1 h2)⟩⟩
  | tuple ys =>
    rw [hr] at d1 e2
    cases e2
    cases d1 with
    | tup h1 h2 => exact ⟨_, rfl, .inr ⟨⟨_, S1.sb _ _ h1⟩, k _ B1 H1 S1 s1 (walkD_tup h1 h2)⟩⟩
  | none => rw [hr] at e2; cases e2
  | bool _ => rw [hr] at e2; cases e2
  | int _ => rw [hr] at e2; cases e2
  | str _ => rw [hr] at e2; cases e2
  | dict _ => rw [hr] at e2; cases e2
/-- range(n), range(a, b), range(a, b, -1) -/
def small62 (i : Int) : Bool := decide (-(2 ^ 62) ≤ i) && decide (i < 2 ^ 62)
theorem small62_eq {i : Int} (h : small62 i = true) : -(2 ^ 62) ≤ i ∧ i < 2 ^ 62 := by
  unfold small62 at h
  simpa using h
def range1D : List PyData → Option (List PyData)
  | [.int n] => if small62 n = true then some (rngD 0 1 n.toNat) else none
  | _ => none
def range2D : List PyData → Option (List PyData)
  | [.int i, .int j] => if (small62 i && small62 j) = true then some (rngD i 1 (j - i).toNat) else none
  | _ => none
/-- downward by one -/
def range3D : List PyData → Option (List PyData)
  | [.int i, .int j, .int c] => if (small62 i && small62 j && c == -1) = true then some (rngD i (-1) (i - j).toNat) else none
  | _ => none
def iApp (g : List PyData → Option (List PyData)) (f : AM) : AM := fun ρ => (f ρ).bind fun a => (g a.1).map fun xs => (xs, a.2)
theorem di_range1 (hg : Gl X "range") (hm : X.mg "range" = none) (ha : DA X [e] fa) (hs : starEach [e] X.env = [(false, eval e X.env)] := by rfl) : DI X tg (.Call (.Name "range" p) [e] [] pos) (iApp range1D fa) := PI.imp (pi_range1 hg hm ha hs) fun σ H R ⟨F, B, pa, ρ, ds, ρ', S, e, k⟩ => by
  obtain ⟨⟨xs, ρ1⟩, e1, e⟩ := bind_some e
  obtain ⟨ys, e2, e⟩ := map_some e
  cases e
  refine ⟨F, B, pa, ρ, xs, _, S, e1, fun vs B1 H1 S1 s1 d1 => ?_⟩
  change range1D xs = some _ at e2
  unfold range1D at e2
  split at e2
  · split at e2
    · rename_i hz
      cases e2
      obtain ⟨v, rfl, h⟩ := one_of d1
      cases h
      obtain ⟨z1, z2⟩ := small62_eq hz
      exact ⟨_, rfl, z1, z2, k _ B1 H1 S1 s1 walkD_range⟩
    · cases e2
  · cases e2
theorem di_range2 (hg : Gl X "range") (hm : X.mg "range" = none) (ha : DA X [e, e2] fa) (hs : starEach [e, e2] X.env = [(false, eval e X.env), (false, eval e2 X.env)] := by rfl) (hs2 : starEach [e2] X.env = [(false, eval e2 X.env)] := by rfl) :
    DI X tg (.Call (.Name "range" p) [e, e2] [] pos) (iApp range2D fa) := PI.imp (pi_range2 hg hm ha hs hs2) fun σ H R ⟨F, B, pa, ρ, ds, ρ', S, e, k⟩ => by
  obtain ⟨⟨xs, ρ1⟩, e1, e⟩ := bind_some e
  obtain ⟨ys, e2, e⟩ := map_some e
  cases e
  refine ⟨F, B, pa, ρ, xs, _, S, e1, fun vs B1 H1 S1 s1 d1 => ?_⟩
  change range2D xs = some _ at e2
  unfold range2D at e2
  split at e2
  · split at e2
    · rename_i hz
      cases e2
      obtain ⟨v, w, rfl, h, h'⟩ := two_of d1
      cases h; cases h'
      obtain ⟨z1, z2⟩ := small62_eq (Bool.and_eq_true_iff.mp hz).1
      obtain ⟨z3, z4⟩ := small62_eq (Bool.and_eq_true_iff.mp hz).2
      exact ⟨_, _, rfl, ⟨z1, z2, z3, z4⟩, k _ B1 H1 S1 s1 walkD_range⟩
    · cases e2
  · cases e2
theorem di_range3 {e3 : Expr} (hg : Gl X "range") (hm : X.mg "range" = none) (ha : DA X [e, e2, e3] fa) (hs : starEach [e, e2, e3] X.env = [(false, eval e X.env), (false, eval e2 X.env), (false, eval e3 X.env)] := by rfl)
    (hp : PI X tg (.Call (.Name "range" p) [e, e2, e3] [] pos) (iRng3 (tDA X.K fa))) : DI X tg (.Call (.Name "range" p) [e, e2, e3] [] pos) (iApp range3D fa) := PI.imp hp fun σ H R ⟨F, B, pa, ρ, ds, ρ', S, e, k⟩ => by
  obtain ⟨⟨xs, ρ1⟩, e1, e⟩ := bind_some e
  obtain ⟨ys, e2, e⟩ := map_some e
  cases e
  refine ⟨F, B, pa, ρ, xs, _, S, e1, fun vs B1 H1 S1 s1 d1 => ?_⟩
  change range3D xs = some _ at e2
  unfold range3D at e2
  split at e2
  · split at e2
    · rename_i hz
      cases e2
      simp only [Bool.and_eq_true, beq_iff_eq] at hz
      obtain ⟨⟨z1, z2⟩, rfl⟩ := hz
      obtain ⟨z1, z1'⟩ := small62_eq z1
      obtain ⟨z2, z2'⟩ := small62_eq z2
      cases d1 with
      | cons h1 d1 =>
        obtain ⟨v, w, rfl, h2, h3⟩ := two_of d1
        cases h1; cases h2; cases h3
        exact ⟨_, _, _, _, rfl, RgC.neg z1 z1' z2 z2', k _ B1 H1 S1 s1 walkD_rangeC⟩
    · cases e2
  · cases e2
/-- zip of two lists, of two tuples -/
def zip2D : List PyData → Option (List PyData)
  | [.list xs, .list ys] => some (zipD xs ys)
  | [.tuple xs, .tuple ys] => some (zipD xs ys)
  | _ => none
theorem di_zip (hg : Gl X "zip") (hm : X.mg "zip" = none) (ha : DA X [e, e2] fa) (hs : starEach [e, e2] X.env = (false, eval e X.env) :: starEach [e2] X.env := by rfl) (hpl : (backTo pos (starEach [e2] X.env)).any (·.1) = false := by rfl) :
    DI X (.Tuple elts kk tpos) (.Call (.Name "zip" p) [e, e2] [] pos) (iApp zip2D fa) := PI.imp (RZ.pi_zipA hg hm ha hs hpl) fun σ H R ⟨F, B, pa, ρ, ds, ρ', S, e, k⟩ => by
  obtain ⟨⟨xs, ρ1⟩, e1, e⟩ := bind_some e
  obtain ⟨ys, e2, e⟩ := map_some e
  cases e
  refine ⟨F, B, pa, ρ, xs, _, S, e1, fun vs B1 H1 S1 s1 d1 => ?_⟩
  change zip2D xs = some _ at e2
  unfold zip2D at e2
  split at e2
  · cases e2
    obtain ⟨v, w, rfl, h, h'⟩ := two_of d1
    cases h with
    | lst h1 g1 =>
      cases h' with
      | lst h2 g2 => exact ⟨_, _, _, _, rfl, .inl ⟨SqL.of (S1.sb _ _ h1), SqL.of (S1.sb _ _ h2), k _ B1 H1 S1 s1 (walkD_zip h1 g1 h2 g2)⟩⟩
  · cases e2
    obtain ⟨v, w, rfl, h, h'⟩ := two_of d1
    cases h with
    | tup h1 g1 =>
      cases h' with
      | tup h2 g2 => exact ⟨_, _, _, _, rfl, .inr ⟨SqT.of (S1.sb _ _ h1), SqT.of (S1.sb _ _ h2), k _ B1 H1 S1 s1 (walkD_zipT h1 g1 h2 g2)⟩⟩
  · cases e2
end
end DL
end PDL8
section PDL9
/-! for, while, comprehensions. -/
namespace DL
open PySem PySem.Spec PyProof.Rows L2
variable [TC : TabsC]

/-! ### for -/
def forRun (gd : GD) (g : SM) : List PyData → Rho → Option Out
  | [], ρ => some (.nx ρ)
  | d :: ds, ρ => (gd (.d d) ρ).bind fun ρ1 => (g ρ1).bind fun
    | .nx ρ2 => forRun gd g ds ρ2
    | .ct ρ2 => forRun gd g ds ρ2
    | .bk ρ2 => some (.nx ρ2)
    | .ret r ρ2 => some (.ret r ρ2)
def sFor (f : AM) (gd : GD) (g : SM) : SM := fun ρ => (f ρ).bind fun a => forRun gd g a.1 a.2
theorem NewR.state {K : PySem.W.Frag} {F B B0 H H' : Hp} {pa : Nat → Option Addr} {σ : L2.St} {ρ : Rho} {v : V} {d : PyData} (n : NewR K B0 H v H' (.d d)) (s : Same B0 B) (S : StR K F B pa σ H ρ) : ∃ B', StR K F B' pa σ H' ρ ∧ Same B B' ∧ DD K B' v d := by
  obtain ⟨B', S', s', q⟩ := (n.up s).back S
  exact ⟨B', S', s', q⟩
section
variable {X : Cx} {tg iter : Expr} {body : List Stmt} {f : AM} {gd : GD} {g : SM} {is : List Nat} {pos : Pos}
theorem ds_for (hp : PassesOwn (model X.prog X.w) X.A X.env X.xe) (hc : X.calm = true) (hi : DI X tg iter f) (hg : DG X is tg gd) (hb : DSs X body g) (hs : ∀ x, foldedSetIterable iter X.env x = pure x := by intro _; rfl) :
    DS X (.For tg iter body [] pos) (sFor f gd g) := PS.imp (ps_for hp hc hi hg hb hs) fun D σ H ⟨F, B, pa, ρ, out, S, e, k⟩ => by
  obtain ⟨⟨ds, ρ0⟩, e0, e⟩ := bind_some e
  have e : forRun gd g ds ρ0 = some out := e
  refine ⟨F, B, pa, ρ, ds, ρ0, S, e0, fun J B0 H0 S0 s0 w => ?_⟩
  refine ⟨fun i m σ H => m = ds.length - i ∧ i ≤ ds.length ∧ ∃ B1 ρ1, StR X.K F B1 pa σ H ρ1 ∧ Same B0 B1 ∧ forRun gd g (ds.drop i) ρ1 = some out, ⟨ds.length, rfl, Nat.zero_le _, B0, ρ0, S0, Same.refl _, e⟩, ?_⟩
  rintro i m σ1 H1 ⟨rfl, hi, B1, ρ1, S1, s1, e1⟩
  by_cases hl : i < ds.length
  · rw [List.drop_eq_getElem_cons hl] at e1
    obtain ⟨ρ2, e2, e3⟩ := bind_some e1
    obtain ⟨o, e4, e5⟩ := bind_some e3
    refine .inr ⟨w.goes i H1 hl (s1.trans S1.sb), fun σ' H' => ∃ B' ρ', StR X.K F B' pa σ' H' ρ' ∧ Same B0 B' ∧ forRun gd g (ds.drop (i + 1)) ρ' = some out, fun σ' H' ⟨B', ρ', S', s', e'⟩ => ⟨ds.length - (i + 1), by omega, rfl, hl, B', ρ', S', s', e'⟩, fun x H2 y => ?_⟩
    obtain ⟨B2, S2, s2, q2⟩ := (w.yields i H1 x H2 _ (List.getElem?_eq_getElem hl) (s1.trans S1.sb) y).state s1 S1
    refine ⟨F, B2, pa, ρ1, .d ds[i], ρ2, S2, q2, e2, fun σ3 B3 H3 S3 s3 _ => ⟨F, B3, pa, ρ2, o, S3, e4, ?_⟩⟩
    have sB : Same B0 B3 := s1.trans (s2.trans s3)
    cases o with
    | nx ρ3 => exact fun σ' B' H' S' s' => ⟨B', ρ3, S', sB.trans s', e5⟩
    | ct ρ3 => exact fun σ' B' H' S' s' => ⟨B', ρ3, S', sB.trans s', e5⟩
    | bk ρ3 =>
      cases e5
      exact fun σ' B' H' S' s' => k σ' B' H' S' (s0.trans (sB.trans s'))
    | ret r ρ3 =>
      cases e5
      exact fun v σ' B' H' S' s' => k v σ' B' H' S' (s0.trans (sB.trans s'))
  · have hi : i = ds.length := by omega
    subst hi
    rw [List.drop_eq_nil_of_le (Nat.le_refl _)] at e1
    cases e1
    exact .inl ⟨w.stops H1 (s1.trans S1.sb), k σ1 B1 H1 S1 (s0.trans s1)⟩
end

/-! ### while -/
def whileN (t : TM) (g : SM) : Nat → Rho → Option Out
  | 0, _ => none
  | n + 1, ρ => (t ρ).bind fun a => if a.1 = true then (g a.2).bind fun
      | .nx ρ2 => whileN t g n ρ2
      | .ct ρ2 => whileN t g n ρ2
      | .bk ρ2 => some (.nx ρ2)
      | .ret r ρ2 => some (.ret r ρ2)
    else some (.nx a.2)
theorem whileN_succ {t : TM} {g : SM} : ∀ {n : Nat} {ρ : Rho} {o : Out}, whileN t g n ρ = some o → whileN t g (n + 1) ρ = some o
  | 0, _, _, e => by cases e
  | n + 1, ρ, o, e => by
    obtain ⟨⟨b, ρ1⟩, e1, e2⟩ := bind_some e
    show (t ρ).bind _ = some o
    rw [e1]
    change (if b = true then (g ρ1).bind _ else some (.nx ρ1)) = some o at e2
    show (if b = true then (g ρ1).bind _ else some (.nx ρ1)) = some o
    cases b with
    | false => exact e2
    | true =>
      rw [if_pos rfl] at e2 ⊢
      obtain ⟨o1, e3, e4⟩ := bind_some e2
      rw [e3]
      cases o1 with
      | nx ρ2 => exact whileN_succ e4
      | ct ρ2 => exact whileN_succ e4
      | bk ρ2 => exact e4
      | ret r ρ2 => exact e4
theorem whileN_le {t : TM} {g : SM} {n m : Nat} {ρ : Rho} {o : Out} (e : whileN t g n ρ = some o) (h : n ≤ m) : whileN t g m ρ = some o := by
  induction h with
  | refl => exact e
  | step _ ih => exact whileN_succ ih
open Classical in
noncomputable def sWhile (t : TM) (g : SM) : SM := fun ρ => if h : ∃ n o, whileN t g n ρ = some o then some h.choose_spec.choose else none
theorem sWhile_some {t : TM} {g : SM} {ρ : Rho} {o : Out} (e : sWhile t g ρ = some o) : ∃ n, whileN t g n ρ = some o := by
  unfold sWhile at e
  split at e
  · rename_i h
    cases e
    exact ⟨h.choose, h.choose_spec.choose_spec⟩
  · cases e
theorem sWhile_of {t : TM} {g : SM} {ρ : Rho} {o : Out} {n : Nat} (e : whileN t g n ρ = some o) : sWhile t g ρ = some o := by
  have h : ∃ n o, whileN t g n ρ = some o := ⟨n, o, e⟩
  unfold sWhile
  rw [dif_pos h]
  have a := whileN_le h.choose_spec.choose_spec (Nat.le_max_left h.choose n)
  have b := whileN_le e (Nat.le_max_right h.choose n)
  rw [a] at b
  exact b
section
variable {X : Cx} {c : Expr} {body : List Stmt} {t : TM} {g : SM} {pos : Pos}
theorem ds_while (hp : PassesOwn (model X.prog X.w) X.A X.env X.xe) (hc : DT X c t) (hb : DSs X body g) : DS X (.While c body [] pos) (sWhile t g) := PS.imp (ps_while hp hc hb) fun D σ H ⟨F, B, pa, ρ, out, S, e, k⟩ => by
  obtain ⟨n, e⟩ := sWhile_some e
  refine ⟨fun m σ H => ∃ B1 ρ1, StR X.K F B1 pa σ H ρ1 ∧ Same B B1 ∧ whileN t g m ρ1 = some out, ⟨n, B, ρ, S, Same.refl _, e⟩, ?_⟩
  rintro m σ1 H1 ⟨B1, ρ1, S1, s1, e1⟩
  cases m with
  | zero => cases e1
  | succ m =>
    obtain ⟨⟨b, ρ2⟩, e2, e3⟩ := bind_some e1
    refine ⟨F, B1, pa, ρ1, b, ρ2, S1, e2, fun B2 H2 S2 s2 => ?_⟩
    have e3 : (if b = true then (g ρ2).bind _ else some (.nx ρ2)) = some out := e3
    cases b with
    | false =>
      rw [if_neg Bool.false_ne_true] at e3
      cases e3
      refine iteF ?_
      exact k σ1 B2 H2 S2 (s1.trans s2)
    | true =>
      rw [if_pos rfl] at e3
      obtain ⟨o, e4, e5⟩ := bind_some e3
      refine iteT ?_
      refine ⟨fun σ' H' => ∃ B' ρ', StR X.K F B' pa σ' H' ρ' ∧ Same B B' ∧ whileN t g m ρ' = some out, fun σ' H' ⟨B', ρ', h⟩ => ⟨m, Nat.lt_succ_self m, B', ρ', h⟩, F, B2, pa, ρ2, o, S2, e4, ?_⟩
      have sB := s1.trans s2
      cases o with
      | nx ρ3 => exact fun σ' B' H' S' s' => ⟨B', ρ3, S', sB.trans s', e5⟩
      | ct ρ3 => exact fun σ' B' H' S' s' => ⟨B', ρ3, S', sB.trans s', e5⟩
      | bk ρ3 =>
        cases e5
        exact fun σ' B' H' S' s' => k σ' B' H' S' (sB.trans s')
      | ret r ρ3 =>
        cases e5
        exact fun v σ' B' H' S' s' => k v σ' B' H' S' (sB.trans s')
end

/-! ### comprehensions -/
def wipeR (ρ : Rho) : List Nat → Rho
  | [] => ρ
  | v :: vs => (wipeR ρ vs).set v .u
def compRun (is : List Nat) (gd : GD) (t : TM) (f : EM) : List PyData → List PyData → Rho → Option (List PyData × Rho)
  | [], acc, ρ => some (acc, ρ)
  | d :: ds, acc, ρ => (gd (.d d) ρ).bind fun ρ1 => (t ρ1).bind fun b => if b.1 = true then (f b.2).bind fun a => if acc.length < sizeLine then compRun is gd t f ds (acc ++ [a.1.data]) (wipeR a.2 is) else none
    else compRun is gd t f ds acc (wipeR b.2 is)
def eComp (is : List Nat) (fi : AM) (gd : GD) (t : TM) (f : EM) : EM := fun ρ => (fi ρ).bind fun a => (compRun is gd t f a.1 [] (wipeR a.2 is)).map fun b => (.l b.1, b.2)
def tAll : TM := fun ρ => some (true, ρ)
abbrev DTs (X : Cx) (ifs : List Expr) (t : TM) : Prop := PTs X ifs (tDT X.K t)
theorem dts_nil {X : Cx} : DTs X [] tAll := ⟨fun pins s σ H Q I ⟨F, B, pa, ρ, b, ρ', S, e, k⟩ => by
  cases e
  exact pts_nil.run pins s σ H Q I (k B H S (Same.refl _))⟩
theorem dts_one {X : Cx} {c : Expr} {t : TM} (h : DT X c t) : DTs X [c] t := pts_one h
section
variable {K : PySem.W.Frag} {F B B' H H' : Hp} {pa : Nat → Option Addr} {σ σ' : L2.St} {ρ : Rho}
theorem wipe_eq {vs : List Nat} (h : Off vs σ σ') : wipe σ' vs = wipe σ vs := by
  apply List.ext_getElem?
  intro j
  by_cases hj : j ∈ vs
  · have lem : ∀ (τ : L2.St) (vs : List Nat), j ∈ vs → (wipe τ vs)[j]? = if j < τ.length then some none else none := fun τ vs => by
      induction vs with
      | nil => intro z; cases z
      | cons v vs ih =>
        intro z
        unfold wipe
        by_cases hv : v = j
        · subst hv
          by_cases hl : v < τ.length
          · rw [List.getElem?_set_self (by rw [wipe_length]; exact hl), if_pos hl]
          · rw [if_neg hl]
            exact List.getElem?_eq_none_iff.mpr (by rw [List.length_set, wipe_length]; omega)
        · rw [List.getElem?_set_ne hv]
          exact ih ((List.mem_cons.mp z).resolve_left (Ne.symm hv))
    rw [lem σ' vs hj, lem σ vs hj, h.1]
  · rw [wipe_out hj, wipe_out hj]
    exact h.2 j hj
theorem wipeR_len : ∀ vs : List Nat, (wipeR ρ vs).length = ρ.length
  | [] => rfl
  | v :: vs => by unfold wipeR; rw [List.length_set, wipeR_len vs]
theorem wipeR_in {j : Nat} : ∀ {vs : List Nat} {s : Sl}, j ∈ vs → (wipeR ρ vs)[j]? = some s → s = .u
  | v :: vs, s, hj, e => by
    unfold wipeR at e
    by_cases hv : v = j
    · subst hv
      have hl : v < (wipeR ρ vs).length := by
        obtain ⟨hl, _⟩ := List.getElem?_eq_some_iff.mp e
        simpa using hl
      rw [List.getElem?_set_self hl] at e
      cases e
      rfl
    · rw [List.getElem?_set_ne hv] at e
      exact wipeR_in ((List.mem_cons.mp hj).resolve_left (Ne.symm hv)) e
theorem wipeR_out {j : Nat} : ∀ {vs : List Nat}, j ∉ vs → (wipeR ρ vs)[j]? = ρ[j]?
  | [], _ => rfl
  | v :: vs, h => by
    unfold wipeR
    rw [List.getElem?_set_ne (fun e => h (by rw [e]; exact List.mem_cons_self))]
    exact wipeR_out fun m => h (List.mem_cons_of_mem _ m)
/-- the block's own slots are forgotten: whatever they hold -/
theorem StR.wipe {vs : List Nat} (S : StR K F B pa σ H ρ) (h : Off vs σ σ') : StR K F B pa σ' H (wipeR ρ vs) := by
  have cell : ∀ {i : Nat} {a : Addr}, CellAt (wipeR ρ vs) σ' i a → CellAt ρ σ i a := fun {i a} ⟨s, e, hc, z⟩ => by
    by_cases hi : i ∈ vs
    · rw [wipeR_in hi e] at hc
      cases hc
    · rw [wipeR_out hi] at e
      rw [h.2 i hi] at z
      exact ⟨s, e, hc, z⟩
  refine ⟨by rw [wipeR_len, h.1]; exact S.len, S.sb, S.sf, S.tb, S.fb, fun i s e => ?_, fun i j a c1 c2 => S.ds i j a (cell c1) (cell c2)⟩
  by_cases hi : i ∈ vs
  · rw [wipeR_in hi e]
    trivial
  · rw [wipeR_out hi] at e
    have w := S.sl i s e
    have z := h.2 i hi
    cases s with
    | u => trivial
    | d x => obtain ⟨u, h1, h2⟩ := w; exact ⟨u, z.trans h1, h2⟩
    | l xs => obtain ⟨b, ws, h1, h2⟩ := w; exact ⟨b, ws, z.trans h1, h2⟩
    | p xs => obtain ⟨b, ws, h0, h1, h2⟩ := w; exact ⟨b, ws, h0, z.trans h1, h2⟩
    | k t kvs => obtain ⟨b, h1, h2⟩ := w; exact ⟨b, z.trans h1, h2⟩
theorem off_wipe (σ : L2.St) (vs : List Nat) : Off vs σ (L2.wipe σ vs) := ⟨wipe_length _ _, fun j hj => wipe_out hj⟩
theorem Off.symm {vs : List Nat} (h : Off vs σ σ') : Off vs σ' σ := ⟨h.1.symm, fun j hj => (h.2 j hj).symm⟩
theorem Off.trans {vs : List Nat} {τ : L2.St} (h : Off vs σ σ') (g : Off vs σ' τ) : Off vs σ τ := ⟨g.1.trans h.1, fun j hj => (g.2 j hj).trans (h.2 j hj)⟩
theorem wipeR_twice {vs : List Nat} : wipeR (wipeR ρ vs) vs = wipeR ρ vs := by
  apply List.ext_getElem?
  intro j
  by_cases hj : j ∈ vs
  · cases e : (wipeR ρ vs)[j]? with
    | none =>
      rw [List.getElem?_eq_none_iff] at e ⊢
      rw [wipeR_len]
      exact e
    | some s =>
      cases e2 : (wipeR (wipeR ρ vs) vs)[j]? with
      | none =>
        rw [List.getElem?_eq_none_iff, wipeR_len] at e2
        have hl := (List.getElem?_eq_some_iff.mp e).1
        omega
      | some s2 => rw [wipeR_in hj e, wipeR_in hj e2]
  · rw [wipeR_out hj]
end
section
variable {X : Cx} {elt tg iter : Expr} {ifs : List Expr} {scope : Scope} {own : List (Str × Nat)} {is : List Nat} {fi : AM} {gd : GD} {t : TM} {f : EM} {pos spos : Pos}
theorem tLc_of {K : PySem.W.Frag} : ∀ σ H Q, tD K (eComp is fi gd t f) σ H Q → tLc (tDI K fi) (tDG K is gd) (tDT K t) (tD K f) is σ H Q := fun σ H Q ⟨F, B, pa, ρ, r, ρ', S, e, k⟩ => by
  obtain ⟨⟨ds, ρ0⟩, e0, e⟩ := bind_some e
  obtain ⟨⟨out, ρe⟩, e1, e⟩ := map_some e
  have er : r = .l out := (Prod.mk.inj e).1.symm
  have eρ : ρ' = ρe := (Prod.mk.inj e).2.symm
  subst er eρ
  have e1 : compRun is gd t f ds [] (wipeR ρ0 is) = some (out, ρ') := e1
  refine ⟨F, B, pa, ρ, ds, ρ0, S, e0, fun J B0 H0 S0 s0 w D hD => ?_⟩
  let Inv' : Nat → Hp → Prop := fun i H => ∃ B1 ρ1 acc ws, StR K F B1 pa (L2.wipe σ is) H ρ1 ∧ wipeR ρ1 is = ρ1 ∧ Same B0 B1 ∧ H D = some (.lst ws) ∧ B1 D = none ∧ F D = none ∧ (∀ i, ¬ CellAt ρ1 (L2.wipe σ is) i D) ∧ DDs K B1 ws acc ∧ compRun is gd t f (ds.drop i) acc ρ1 = some (out, ρ')
  refine ⟨fun i m H => m = ds.length - i ∧ i ≤ ds.length ∧ Inv' i H, ⟨ds.length, rfl, Nat.zero_le _, B0, wipeR ρ0 is, [], [], (S0.wipe (off_wipe σ is)).new hD, wipeR_twice, Same.refl _, upd_same, S0.noB hD, S0.noF hD, fun i => (S0.wipe (off_wipe σ is)).noC hD i, .nil, e1⟩, ?_⟩
  rintro i m H1 ⟨rfl, hi, B1, ρ1, acc, ws, S1, z1, s1, hD1, bD, fD, nC, dA, e2⟩
  by_cases hl : i < ds.length
  · rw [List.drop_eq_getElem_cons hl] at e2
    obtain ⟨ρ2, e3, e4⟩ := bind_some e2
    obtain ⟨⟨b, ρ3⟩, e5, e6⟩ := bind_some e4
    refine .inr ⟨w.goes i H1 hl (s1.trans S1.sb), fun H' => Inv' (i + 1) H', fun H' h => ⟨ds.length - (i + 1), by omega, rfl, hl, h⟩, fun x H2 y => ?_⟩
    have S1' := S1.moreF (o := .lst ws) (fun ps z => nomatch z) hD1 bD nC
    obtain ⟨B2, S2, s2, q2⟩ := (w.yields i H1 x H2 _ (List.getElem?_eq_getElem hl) (s1.trans S1.sb) y).state s1 S1'
    refine ⟨_, B2, pa, ρ1, .d ds[i], ρ2, S2, q2, e3, fun σ3 B3 H3 S3 s3 o3 => ⟨wipe_eq (Off.trans (off_wipe σ is) o3) , ?_⟩⟩
    refine ⟨_, B3, pa, ρ2, b, ρ3, S3, e5, fun B4 H4 S4 s4 => ?_⟩
    have sB : Same B1 B4 := s2.trans (s3.trans s4)
    have back : ∀ {σ' : L2.St} {B' H' : Hp} {ρ' : Rho}, StR K (upd F D (.lst ws)) B' pa σ' H' ρ' → Off is (L2.wipe σ is) σ' → StR K F B' pa (L2.wipe σ is) H' (wipeR ρ' is) ∧ B' D = none ∧ H' D = some (.lst ws) ∧ ∀ i, ¬ CellAt (wipeR ρ' is) (L2.wipe σ is) i D := fun {σ' B' H' ρ'} S' o => by
      have S6 := (S'.wipe (o.symm))
      refine ⟨S6.weakF (same_new fD), S'.fb D (by rw [upd_same]; simp), S'.sf D _ upd_same, fun i c => ?_⟩
      have z := (S6.cellB c).2.1
      rw [upd_same] at z
      cases z
    have e6 : (if b = true then (f ρ3).bind _ else compRun is gd t f (ds.drop (i + 1)) acc (wipeR ρ3 is)) = some (out, ρ') := e6
    cases b with
    | false =>
      rw [if_neg Bool.false_ne_true] at e6
      refine iteF ?_
      obtain ⟨S7, b7, h7, n7⟩ := back S4 o3
      exact ⟨B4, wipeR ρ3 is, acc, ws, S7, wipeR_twice, s1.trans sB, h7, b7, fD, n7, dA.up sB, e6⟩
    | true =>
      rw [if_pos rfl] at e6
      refine iteT ?_
      obtain ⟨⟨r5, ρ5⟩, e7, e8⟩ := bind_some e6
      change (if acc.length < sizeLine then compRun is gd t f (ds.drop (i + 1)) (acc ++ [r5.data]) (wipeR ρ5 is) else none) = some (out, ρ') at e8
      split at e8
      · rename_i hz
        refine tD_take S4 e7 fun yv B5 H5 S5 s5 d5 => ?_
        obtain ⟨S7, b7, h7, n7⟩ := back S5 o3
        have sB5 := sB.trans s5
        refine ⟨ws, h7, by rw [dA.length]; exact hz, B5, wipeR ρ5 is, _, _, ?_, wipeR_twice, s1.trans sB5, upd_same, b7, fD, n7, (dA.up sB5).snoc d5, e8⟩
        exact S7.grow (Same.refl _) (same_off S7.sb b7) (same_off S7.sf fD) (S7.tb.lst h7) S7.fb fun j a c => ⟨(S7.cellB c).1, upd_ne fun z => n7 j (by rw [← z]; exact c)⟩
      · cases e8
  · have hi : i = ds.length := by omega
    subst hi
    rw [List.drop_eq_nil_of_le (Nat.le_refl _)] at e2
    cases e2
    refine .inl ⟨w.stops H1 (s1.trans S1.sb), ?_⟩
    have S9 := S1.wipe (vs := is) (off_wipe σ is).symm
    rw [z1] at S9
    refine k (.ref D) B1 H1 S9 (s0.trans s1) ⟨D, ws, rfl, bD, fD, hD1, dA, fun j c => ?_⟩
    obtain ⟨s, es, hc, hs⟩ := c
    by_cases hj : j ∈ is
    · rw [← z1] at es
      rw [wipeR_in hj es] at hc
      cases hc
    · exact nC j ⟨s, es, hc, by rw [wipe_out hj]; exact hs⟩
theorem de_comp (hc : X.calm = true) (hN : X.N.Nodup) (hi : DI X tg iter fi) (ok : BlkOk X.N X.env.scope scope own) (his : own.map (·.2) = is)
    (hg : ∀ (s : Shared) (H : Hp) (C : Addr) (cl : List (Str × Addr)) (fp : List Addr), DG (X.blk s H scope (compEnvC scope cl C X.env) fp) is tg gd) (ht : ∀ (s : Shared) (H : Hp) (C : Addr) (cl : List (Str × Addr)) (fp : List Addr), DTs (X.blk s H scope (compEnvC scope cl C X.env) fp) ifs t)
    (he : ∀ (s : Shared) (H : Hp) (C : Addr) (cl : List (Str × Addr)) (fp : List Addr), DE (X.blk s H scope (compEnvC scope cl C X.env) fp) elt f) (hs : ∀ x, foldedSetIterable iter X.env x = pure x := by intro _; rfl) :
    DE X (.ListComp elt [⟨tg, iter, ifs, 0⟩] scope pos) (eComp is fi gd t f) := by
  subst his
  exact PE.imp (pe_lc hc hN hi ok hg ht he hs) tLc_of
theorem ds_setComp {i : Nat} {y : Str} {py : Pos} (hc : X.calm = true) (hN : X.N.Nodup) (hy : X.N[i]? = some y) (hyl : X.env.scope.names.lookup y = some .local)
    (hsw : swapsWith (.ListComp elt [⟨tg, iter, ifs, 0⟩] scope pos) (some (.Name y py)) spos.line X.env = pure true) (hi : DI X tg iter fi) (ok : BlkOk X.N X.env.scope scope own) (his : own.map (·.2) = is)
    (hg : ∀ (s : Shared) (H : Hp) (C : Addr) (cl : List (Str × Addr)) (fp : List Addr), DG (X.blk s H scope (compEnvC scope cl C X.env) fp) is tg gd) (ht : ∀ (s : Shared) (H : Hp) (C : Addr) (cl : List (Str × Addr)) (fp : List Addr), DTs (X.blk s H scope (compEnvC scope cl C X.env) fp) ifs t)
    (he : ∀ (s : Shared) (H : Hp) (C : Addr) (cl : List (Str × Addr)) (fp : List Addr), DE (X.blk s H scope (compEnvC scope cl C X.env) fp) elt f) (hs : ∀ x, foldedSetIterable iter X.env x = pure x := by intro _; rfl) :
    DS X (.Assign [.Name y py] (.ListComp elt [⟨tg, iter, ifs, 0⟩] scope pos) spos) (sSet i (eComp is fi gd t f)) := by
  subst his
  exact PS.imp (ps_setLc hc hN hy hyl hsw hi ok hg ht he hs) (sSet_of tLc_of)
end
end DL
end PDL9
section PDL10
/-! Subscripts, slices, is, isinstance, built-ins. -/
namespace DL
open PySem PySem.Spec PyProof.Rows L2
variable [TC : TabsC]

section
variable {X : Cx}
/-! ### subscripts -/
def gIx : PyData → PyData → Option Rs
  | .list xs, .int i => (atI xs i).map Rs.d
  | .tuple xs, .int i => (atI xs i).map Rs.d
  | _, _ => none
theorem DDs.atI {K : PySem.W.Frag} {B : Hp} {vs : List V} {ds : List PyData} {i : Int} {d : PyData} (h : DDs K B vs ds) (e : L2.atI ds i = some d) : ∃ v, L2.atI vs i = some v ∧ DD K B v d := by
  obtain ⟨j, e1, e2⟩ := bind_some e
  obtain ⟨v, h1, h2⟩ := h.get e2
  refine ⟨v, ?_, h2⟩
  unfold L2.atI
  rw [h.length, e1]
  exact h1
theorem dix : IxR X (rD X.K gIx) := by
  intro value slice pins s σ H x y v u Q I rx ry h hs
  obtain ⟨B, d, e, r, sb, hd, he, eg, k⟩ := h
  unfold gIx at eg
  split at eg
  · obtain ⟨w, e1, eg⟩ := map_some eg
    cases eg; cases he
    cases hd with
    | lst h1 d1 =>
      obtain ⟨z, h2, h3⟩ := d1.atI e1
      exact ix_list value slice pins s σ H _ _ v u Q I rx ry ⟨_, _, _, z, rfl, rfl, SqL.of (sb _ _ h1), h2, k _ _ (.old h3)⟩ hs
  · obtain ⟨w, e1, eg⟩ := map_some eg
    cases eg; cases he
    cases hd with
    | tup h1 d1 =>
      obtain ⟨z, h2, h3⟩ := d1.atI e1
      exact ix_tup value slice pins s σ H _ _ v u Q I rx ry ⟨_, _, _, z, rfl, rfl, SqT.of (sb _ _ h1), h2, k _ _ (.old h3)⟩ hs
  · cases eg
variable {a b e : Expr} {f g : EM} {pos p2 : Pos} {i : Nat}
theorem de_ix (ha : DE X a f) (hb : DE X b g) (hs : PlainIx b := by intro _ _; rfl) : DE X (.Subscript a b pos) (eBin gIx f g) := PE.imp (pe_ix dix ha hb hs) fun _ _ _ => tOp_of
/-- a place of an own list of slot i: the list stays own -/
def eIxN (i : Nat) (g : EM) : EM := fun ρ => ((ρ[i]?).bind listOf).bind fun _ => (g ρ).bind fun b => (b.2[i]?).bind fun s => (listOf s).bind fun xs => match b.1.data with
  | .int j => (atI xs j).map fun d => (.d d, b.2)
  | _ => none
theorem de_ixN {x : Str} {p : Pos} (ha : PE X (.Name x p) (tVar i)) (hb : DE X b g) (hs : PlainIx b := by intro _ _; rfl) : DE X (.Subscript (.Name x p) b pos) (eIxN i g) := PE.imp (pe_ix ix_list ha hb hs) fun σ H Q ⟨F, B, pa, ρ, r, ρ', S, e, k⟩ => by
  obtain ⟨xs0, e0, e⟩ := bind_some e
  obtain ⟨s0, e00, hs0⟩ := bind_some e0
  obtain ⟨⟨r1, ρ1⟩, e1, e⟩ := bind_some e
  obtain ⟨s, es, e⟩ := bind_some e
  obtain ⟨xs, hsl, e⟩ := bind_some e
  obtain ⟨a, _, ha, _⟩ := listOf_at S e00 hs0
  refine ⟨V.ref a, ha, ?_⟩
  refine tD_take S e1 fun v B1 H1 S1 s1 d1 => ?_
  obtain ⟨a', ws, ha', _, _, _, h5, h6⟩ := listOf_at S1 es hsl
  rw [ha] at ha'
  cases ha'
  have d1 : DD X.K B1 v r1.data := d1
  cases r1 with
  | l ys => cases e
  | d y =>
    cases y with
    | int j =>
      obtain ⟨d, e2, e⟩ := map_some e
      cases e
      obtain ⟨z, h2, h3⟩ := h6.atI e2
      cases d1
      exact ⟨a, ws, j, z, rfl, rfl, SqL.of h5, h2, k z B1 H1 S1 s1 h3⟩
    | none => cases e
    | bool _ => cases e
    | str _ => cases e
    | list _ => cases e
    | tuple _ => cases e
    | dict _ => cases e
/-- a place of a list, be it the def's own or not -/
def eIxA (i : Nat) (g : EM) : EM := fun ρ => match (ρ[i]?).bind listOf with
  | some _ => eIxN i g ρ
  | none => eBin gIx (eVar i) g ρ
theorem de_ixA {x : Str} {p : Pos} (hv : DE X (.Name x p) (eVar i)) (ha : PE X (.Name x p) (tVar i)) (hb : DE X b g) (hs : PlainIx b := by intro _ _; rfl) : DE X (.Subscript (.Name x p) b pos) (eIxA i g) := ⟨fun pins s σ H Q I ⟨F, B, pa, ρ, r, ρ', S, e, k⟩ => by
  unfold eIxA at e
  split at e
  · exact (de_ixN ha hb hs).run pins s σ H Q I ⟨F, B, pa, ρ, r, ρ', S, e, k⟩
  · exact (de_ix hv hb hs).run pins s σ H Q I ⟨F, B, pa, ρ, r, ρ', S, e, k⟩⟩
/-! ### slices -/
abbrev OM := Rho → Option (Option Int × Rho)
def tDO (K : PySem.W.Frag) (f : OM) : TO := fun σ H Q => ∃ F B pa ρ o ρ', StR K F B pa σ H ρ ∧ f ρ = some (o, ρ') ∧ ∀ B' H', StR K F B' pa σ H' ρ' → Same B B' → Q o H'
abbrev DO (X : Cx) (e : Option Expr) (f : OM) : Prop := PO X e (tDO X.K f)
theorem PO.imp {e : Option Expr} {t t' : TO} (h : PO X e t) (j : ∀ σ H Q, t' σ H Q → t σ H Q) : PO X e t' := ⟨fun pins s σ H Q I hw => h.run pins s σ H Q I (j σ H Q hw)⟩
def oNone : OM := fun ρ => some (none, ρ)
def intOf : PyData → Option Int
  | .int i => some i
  | _ => none
theorem intOf_eq {d : PyData} {i : Int} (h : intOf d = some i) : d = .int i := by
  cases d with
  | int c => cases h; rfl
  | none => cases h
  | bool _ => cases h
  | str _ => cases h
  | list _ => cases h
  | tuple _ => cases h
  | dict _ => cases h
def oSome (f : EM) : OM := fun ρ => (f ρ).bind fun a => (intOf a.1.data).map fun i => (some i, a.2)
theorem do_none : DO X none oNone := PO.imp po_none fun σ H Q ⟨F, B, pa, ρ, o, ρ', S, e, k⟩ => by
  cases e
  exact k B H S (Same.refl _)
theorem do_some (h : DE X e f) : DO X (some e) (oSome f) := PO.imp (po_some h) fun σ H Q ⟨F, B, pa, ρ, o, ρ', S, e, k⟩ => by
  obtain ⟨⟨r, ρ1⟩, e1, e⟩ := bind_some e
  obtain ⟨j, e2, e⟩ := map_some e
  cases e
  refine tD_take S e1 fun v B1 H1 S1 s1 d1 => ?_
  have d1 : DD X.K B1 v r.data := d1
  rw [intOf_eq e2] at d1
  cases d1
  exact ⟨_, rfl, k B1 H1 S1 s1⟩
def cutD (xs : List PyData) (lo hi : Option Int) : List PyData := (xs.drop (HT.sIx xs.length 0 lo)).take (HT.sIx xs.length xs.length hi - HT.sIx xs.length 0 lo)
theorem DDs.cut {K : PySem.W.Frag} {B : Hp} {vs : List V} {ds : List PyData} (h : DDs K B vs ds) (lo hi : Option Int) : DDs K B (cutV vs lo hi) (cutD ds lo hi) := by
  unfold cutV cutD
  rw [h.length]
  exact (h.drop _).take _
def gCut (d : PyData) (lo hi : Option Int) : Option Rs := match d with
  | .list xs => some (.l (cutD xs lo hi))
  | .tuple xs => some (.d (.tuple (cutD xs lo hi)))
  | _ => none
def eCut (f : EM) (l h : OM) : EM := fun ρ => (f ρ).bind fun a => (l a.2).bind fun b => (h b.2).bind fun c => (gCut a.1.data b.1 c.1).map fun r => (r, c.2)
theorem sIx_le (n : Nat) (d : Int) (hd : 0 ≤ d ∧ d ≤ n) (o : Option Int) : HT.sIx n d.toNat o ≤ n := by
  cases o with
  | none => simp only [HT.sIx]; omega
  | some i =>
    simp only [HT.sIx]
    split <;> omega
theorem cutD_whole {xs : List PyData} {lo hi : Option Int} (h : HT.sIx xs.length 0 lo = 0 ∧ HT.sIx xs.length xs.length hi = xs.length) : cutD xs lo hi = xs := by
  unfold cutD
  rw [h.1, h.2, List.drop_zero, Nat.sub_zero, List.take_length]
theorem dsl : L2.SlR X (fun x lo hi H Q => ∃ B d r, Same B H ∧ DD X.K B x d ∧ gCut d lo hi = some r ∧ ∀ v H', NewR X.K B H v H' r → Q v H') := by
  intro pins s σ H x v vl vu lo hi sl Q I rx hs pl pu h
  obtain ⟨B, d, r, sb, hd, eg, k⟩ := h
  unfold gCut at eg
  split at eg
  · cases eg
    cases hd with
    | lst h1 d1 => exact sl_list pins s σ H _ v vl vu lo hi sl Q I rx hs pl pu ⟨_, _, rfl, SqL.of (sb _ _ h1), fun p n => k _ _ (.lst n (d1.cut lo hi))⟩
  · cases eg
    cases hd with
    | tup h1 d1 =>
      refine sl_tupA pins s σ H _ v vl vu lo hi sl Q I rx hs pl pu ⟨_, _, rfl, SqT.of (sb _ _ h1), fun w => ?_, fun w p n => k _ _ (.tup n (d1.cut lo hi))⟩
      rw [d1.length] at w
      have e := cutD_whole w
      rw [e] at k
      exact k _ _ (.old (.tup h1 d1))
  · cases eg
theorem de_cut {lo hi : Option Expr} {l h : OM} (he : DE X e f) (hl : DO X lo l) (hu : DO X hi h) : DE X (.Subscript e (.Slice lo hi none p2) pos) (eCut f l h) := PE.imp (pe_slice dsl he hl hu) fun σ H Q ⟨F, B, pa, ρ, r, ρ', S, e, k⟩ => by
  obtain ⟨⟨r1, ρ1⟩, e1, e⟩ := bind_some e
  obtain ⟨⟨o1, ρ2⟩, e2, e⟩ := bind_some e
  obtain ⟨⟨o2, ρ3⟩, e3, e⟩ := bind_some e
  obtain ⟨r2, e4, e⟩ := map_some e
  cases e
  refine tD_take S e1 fun v B1 H1 S1 s1 d1 => ⟨F, B1, pa, ρ1, o1, ρ2, S1, e2, fun B2 H2 S2 s2 => ⟨F, B2, pa, ρ2, o2, _, S2, e3, fun B3 H3 S3 s3 => ?_⟩⟩
  refine ⟨B3, _, _, S3.sb, d1.up (s2.trans s3), e4, fun w H4 n => ?_⟩
  obtain ⟨B4, S4, s4, q4⟩ := n.back S3
  exact k w B4 H4 S4 (s1.trans (s2.trans (s3.trans s4))) q4
/-- xs[::-1] -/
def eRevL (f : EM) : EM := fun ρ => (f ρ).bind fun a => (match a.1.data with
  | .list xs => some (.l xs.reverse)
  | _ => none : Option Rs).map fun r => (r, a.2)
theorem de_revL {k : Nat} {p1 p2 p3 : Pos} (he : DE X e f) : DE X (.Subscript e (.Slice none none (some (.UnaryOp .USub (.Constant (.int 1) k p1) p2)) p3) pos) (eRevL f) := PE.imp (pe_revL he) fun σ H Q ⟨F, B, pa, ρ, r, ρ', S, e, k⟩ => by
  obtain ⟨⟨r1, ρ1⟩, e1, e⟩ := bind_some e
  obtain ⟨r2, e4, e⟩ := map_some e
  cases e
  refine tD_take S e1 fun v B1 H1 S1 s1 d1 => ?_
  have d1 : DD X.K B1 v r1.data := d1
  change (match r1.data with
    | .list xs => some (Rs.l xs.reverse)
    | _ => none) = some r at e4
  split at e4
  · rename_i xs hx
    cases e4
    rw [hx] at d1
    cases d1 with
    | lst h1 h2 =>
      refine ⟨_, _, rfl, SqL.of (S1.sb _ _ h1), fun p n => ?_⟩
      obtain ⟨B2, S2, s2, q2⟩ := (NewR.lst n h2.reverse).back S1
      exact k _ B2 _ S2 (s1.trans s2) q2
  · cases e4
end
end DL
end PDL10
section PDL11
/-! Built-ins by data. -/
namespace DL
open PySem PySem.Spec PyProof.Rows L2
variable [TC : TabsC]

section
variable {X : Cx} {e a b : Expr} {f g : EM} {pos p2 p : Pos}
/-! ### is True, is False, is None -/
def gIsB (neg : Bool) (d e : PyData) : Option Rs := match d, e with
  | .bool b, .bool c => some (.d (.bool (xor neg (b == c))))
  | d, .none => some (.d (.bool (xor neg (isNone d))))
  | _, _ => none
theorem dop_isB : OpR X (compareOp .Is) (rD X.K (gIsB false)) := by
  intro pins s σ H x y v u Q I rx ry h
  obtain ⟨B, d, e, r, sb, hd, he, eg, k⟩ := h
  unfold gIsB at eg
  split at eg
  · cases eg; cases hd; cases he; cases rx; cases ry
    refine is_bool ⟨.bl _, H, I, rfl, ?_⟩
    have q := k _ _ (.old (.bl _))
    rwa [Bool.false_xor] at q
  · cases eg; cases he
    refine op_isN pins s σ H _ _ v u Q I rx ry ⟨rfl, ?_⟩
    rw [dd_none hd]
    have q := k _ _ (.old (.bl _))
    rwa [Bool.false_xor] at q
  · cases eg
theorem dop_isnotB : OpR X (compareOp .IsNot) (rD X.K (gIsB true)) := by
  intro pins s σ H x y v u Q I rx ry h
  obtain ⟨B, d, e, r, sb, hd, he, eg, k⟩ := h
  unfold gIsB at eg
  split at eg
  · cases eg; cases hd; cases he; cases rx; cases ry
    refine isnot_bool ⟨.bl _, H, I, rfl, ?_⟩
    have q := k _ _ (.old (.bl _))
    rwa [Bool.true_xor] at q
  · cases eg; cases he
    refine op_notN pins s σ H _ _ v u Q I rx ry ⟨rfl, ?_⟩
    rw [dd_none hd]
    have q := k _ _ (.old (.bl _))
    rwa [Bool.true_xor] at q
  · cases eg
/-! ### isinstance -/
def tyD : PyData → String
  | .none => "NoneType"
  | .bool _ => "bool"
  | .int _ => "int"
  | .str _ => "str"
  | .list _ => "list"
  | .tuple _ => "tuple"
  | .dict _ => "dict"
theorem DD.tyX {K : PySem.W.Frag} {B H : Hp} {v : V} {d : PyData} (h : DD K B v d) (sb : Same B H) : TyX K H v (.type (tyD d)) := by
  cases h with
  | non => exact .base .non
  | bl b => exact .base (.bl b)
  | int i => exact .base (.int i)
  | str x => exact .base (.str x)
  | lst h _ => exact .base (.lst (sb _ _ h))
  | tup h _ => exact .base (.tup (sb _ _ h))
  | nod h => exact .base (.dK (sb _ _ h))
/-- isinstance of a type -/
def isiD (n : String) : PyData → Option Bool
  | .none => kitB "NoneType" n
  | .bool _ => kitB "bool" n
  | .int _ => kitB "int" n
  | .str _ => kitB "str" n
  | .list _ => kitB "list" n
  | .tuple _ => kitB "tuple" n
  | .dict _ => kitB "dict" n
theorem isiD_eq (n : String) (d : PyData) : isiD n d = kitB (tyD d) n := by cases d <;> rfl
def eIsi (n : String) (f : EM) : EM := fun ρ => (f ρ).bind fun a => (isiD n a.1.data).map fun b => (.d (.bool b), a.2)
theorem tIsi_of {K : PySem.W.Frag} {n : String} : ∀ σ H Q, tD K (eIsi n f) σ H Q → tCB (rIsi K) (tCons (tD K f) (tCons (tC (.ty n)) tNil)) σ H Q := fun σ H Q ⟨F, B, pa, ρ, r, ρ', S, e, k⟩ => by
  obtain ⟨⟨r1, ρ1⟩, e1, e⟩ := bind_some e
  obtain ⟨b, e2, e⟩ := map_some e
  cases e
  refine tD_take S e1 fun v B1 H1 S1 s1 d1 => ?_
  have d1 : DD K B1 v r1.data := d1
  have e2 : isiD n r1.data = some b := e2
  rw [isiD_eq] at e2
  exact ⟨v, _, _, _, b, rfl, .ty n, d1.tyX S1.sb, kit_ty e2, k _ B1 H1 S1 s1 (.bl b)⟩
theorem de_isi (n : String) {x y : Str} {py : Pos} (ha : DE X e f) (hg : Gl X x) (hm : X.mg x = none) (hv : bootBuiltins x = some (.builtin "isinstance")) (hg2 : Gl X y) (hm2 : X.mg y = none) (hv2 : bootBuiltins y = some (.type n)) (hn : x ≠ "__name__" := by decide) (hdb : (x == ("__debug__" : Str)) = false := by decide)
    (hn2 : y ≠ "__name__" := by decide) (hdb2 : (y == ("__debug__" : Str)) = false := by decide)
    (he : starEach [e, .Name y py] X.env = (false, eval e X.env) :: starEach [.Name y py] X.env := by rfl) (hpl : (backTo pos (starEach [.Name y py] X.env)).any (·.1) = false := by rfl) : DE X (.Call (.Name x p) [e, .Name y py] [] pos) (eIsi n f) :=
  PE.imp (pe_callB call_isi hg hm hv (pa_cons ha (pa_cons (pe_bltn (v := .ty n) hg2 hm2 hv2 rfl hn2 hdb2) pa_nil) he) hn hdb he hpl) tIsi_of
/-- isinstance of one of two types -/
def eIsi2 (n m : String) (f : EM) : EM := fun ρ => (f ρ).bind fun a => (isiD n a.1.data).bind fun b => (isiD m a.1.data).map fun c => (.d (.bool (b || c)), a.2)
theorem tIsi2_of {K : PySem.W.Frag} {n m : String} : ∀ σ H Q, tD K (eIsi2 n m f) σ H Q → tCB (rIsiT K) (tCons (tD K f) (tCons (tTup (tCons (tC (.ty n)) (tCons (tC (.ty m)) tNil))) tNil)) σ H Q := fun σ H Q ⟨F, B, pa, ρ, r, ρ', S, e, k⟩ => by
  obtain ⟨⟨r1, ρ1⟩, e1, e⟩ := bind_some e
  obtain ⟨b, e2, e⟩ := bind_some e
  obtain ⟨c, e3, e⟩ := map_some e
  cases e
  refine tD_take S e1 fun v B1 H1 S1 s1 d1 => ?_
  have d1 : DD K B1 v r1.data := d1
  have e2 : isiD n r1.data = some b := e2
  have e3 : isiD m r1.data = some c := e3
  rw [isiD_eq] at e2 e3
  refine ⟨by show 2 ≤ sizeLine; rw [sizeLine_eq]; omega, fun q hq => ?_⟩
  have S2 := S1.new (o := .tup [.ty n, .ty m]) hq
  refine ⟨v, q, _, _, _, b || c, rfl, upd_same, .cons (.ty n) (.cons (.ty m) .nil), d1.tyX S2.sb, ?_, k _ B1 _ S2 s1 (.bl _)⟩
  refine kitAny_cons (kit_ty e2) (fun hb => ?_) fun hb => by rw [hb]; rfl
  subst hb
  refine kitAny_cons (kit_ty e3) (fun hc => ?_) fun hc => by rw [hc]; rfl
  subst hc
  exact kitAny_nil
theorem de_isi2 (n m : String) {x y z : Str} {py pz pt : Pos} {j : Nat} (ha : DE X e f) (hg : Gl X x) (hm : X.mg x = none) (hv : bootBuiltins x = some (.builtin "isinstance")) (hg2 : Gl X y) (hm2 : X.mg y = none) (hv2 : bootBuiltins y = some (.type n)) (hg3 : Gl X z) (hm3 : X.mg z = none) (hv3 : bootBuiltins z = some (.type m)) (hn : x ≠ "__name__" := by decide) (hdb : (x == ("__debug__" : Str)) = false := by decide)
    (hn2 : y ≠ "__name__" := by decide) (hdb2 : (y == ("__debug__" : Str)) = false := by decide) (hn3 : z ≠ "__name__" := by decide) (hdb3 : (z == ("__debug__" : Str)) = false := by decide)
    (he : starEach [e, .Tuple [.Name y py, .Name z pz] j pt] X.env = (false, eval e X.env) :: starEach [.Tuple [.Name y py, .Name z pz] j pt] X.env := by rfl) (hpl : (backTo pos (starEach [.Tuple [.Name y py, .Name z pz] j pt] X.env)).any (·.1) = false := by rfl) : DE X (.Call (.Name x p) [e, .Tuple [.Name y py, .Name z pz] j pt] [] pos) (eIsi2 n m f) :=
  PE.imp (pe_callB call_isiT hg hm hv (pa_cons ha (pa_cons (pe_tup (pa_cons (pe_bltn (v := .ty n) hg2 hm2 hv2 rfl hn2 hdb2) (pa_cons (pe_bltn (v := .ty m) hg3 hm3 hv3 rfl hn3 hdb3) pa_nil))) pa_nil) he) hn hdb he hpl) tIsi2_of
/-! ### len, abs, int, str, max, min of two and three, divmod -/
def gLen : List PyData → Option Rs
  | [.list xs] => some (.d (.int xs.length))
  | [.tuple xs] => some (.d (.int xs.length))
  | [.str x] => if x.length ≤ sizeLine then some (.d (.int x.length)) else none
  | _ => none
theorem dc_len : CallR X (.builtin "len") (rCD X.K gLen) := by
  intro pins s σ H xs us Q I rx h
  obtain ⟨B, ds, r, sb, hd, eg, k⟩ := h
  unfold gLen at eg
  split at eg
  · obtain ⟨v, rfl, h⟩ := one_of hd
    cases eg
    cases h with
    | lst h1 d1 => exact call_len_seq pins s σ H _ us Q I rx ⟨_, _, rfl, .inl (SqL.of (sb _ _ h1)), by rw [d1.length]; exact k _ _ (.old (.int _))⟩
  · obtain ⟨v, rfl, h⟩ := one_of hd
    cases eg
    cases h with
    | tup h1 d1 => exact call_len_seq pins s σ H _ us Q I rx ⟨_, _, rfl, .inr (SqT.of (sb _ _ h1)), by rw [d1.length]; exact k _ _ (.old (.int _))⟩
  · obtain ⟨v, rfl, h⟩ := one_of hd
    split at eg
    · rename_i hz
      cases eg
      cases h
      exact call_len_str pins s σ H _ us Q I rx ⟨_, rfl, hz, k _ _ (.old (.int _))⟩
    · cases eg
  · cases eg
def gAbs : List PyData → Option Rs
  | [.int i] => some (.d (.int (if i < 0 then -i else i)))
  | _ => none
theorem dc_abs : CallR X (.builtin "abs") (rCD X.K gAbs) := CallR.imp call_abs fun xs H Q ⟨B, ds, r, sb, hd, eg, k⟩ => by
  unfold gAbs at eg
  split at eg
  · obtain ⟨v, rfl, h⟩ := one_of hd
    cases eg; cases h
    exact ⟨_, rfl, k _ _ (.old (.int _))⟩
  · cases eg
def gInt1 : List PyData → Option Rs
  | [.int i] => some (.d (.int i))
  | [.bool b] => some (.d (.int (if b then 1 else 0)))
  | _ => none
theorem dc_int : CallR X (.type "int") (rCD X.K gInt1) := CallR.imp call_int1 fun xs H Q ⟨B, ds, r, sb, hd, eg, k⟩ => by
  unfold gInt1 at eg
  split at eg
  · obtain ⟨v, rfl, h⟩ := one_of hd
    cases eg; cases h
    exact .inl ⟨_, rfl, k _ _ (.old (.int _))⟩
  · obtain ⟨v, rfl, h⟩ := one_of hd
    cases eg; cases h
    exact .inr ⟨_, rfl, k _ _ (.old (.int _))⟩
  · cases eg
def gStr1 : List PyData → Option Rs
  | [.int i] => if i.natAbs.log2 < 1920 then some (.d (.str (toString i))) else none
  | [.str x] => some (.d (.str x))
  | _ => none
theorem dc_str : CallR X (.type "str") (rCD X.K gStr1) := CallR.imp (CallR.or call_str_int SkE.call_str_str) fun xs H Q ⟨B, ds, r, sb, hd, eg, k⟩ => by
  unfold gStr1 at eg
  split at eg
  · obtain ⟨v, rfl, h⟩ := one_of hd
    split at eg
    · rename_i hz
      cases eg; cases h
      exact .inl ⟨_, rfl, hz, k _ _ (.old (.str _))⟩
    · cases eg
  · obtain ⟨v, rfl, h⟩ := one_of hd
    cases eg; cases h
    exact .inr ⟨_, rfl, k _ _ (.old (.str _))⟩
  · cases eg
def gDivmod : List PyData → Option Rs
  | [.int i, .int j] => if (decide (0 < j) && decide (j < 1073741824)) = true then some (.d (.tuple [.int (i / j), .int (i % j)])) else none
  | _ => none
theorem dc_divmod : CallR X (.builtin "divmod") (rCD X.K gDivmod) := CallR.imp call_divmod fun xs H Q ⟨B, ds, r, sb, hd, eg, k⟩ => by
  unfold gDivmod at eg
  split at eg
  · obtain ⟨v, w, rfl, h1, h2⟩ := two_of hd
    split at eg
    · rename_i hz
      cases eg; cases h1; cases h2
      exact ⟨_, _, rfl, by simpa [CDiv] using hz, fun p n => k _ _ (.tup n (.cons (.int _) (.cons (.int _) .nil)))⟩
    · cases eg
  · cases eg
/-! ### list(x), tuple(x) of a list or a tuple -/
def gList : List PyData → Option Rs
  | [.list xs] => some (.l xs)
  | [.tuple xs] => some (.l xs)
  | _ => none
theorem dc_list : CallR X (.type "list") (rCD X.K gList) := CallR.imp call_list_of fun xs H Q ⟨B, ds, r, sb, hd, eg, k⟩ => by
  unfold gList at eg
  split at eg
  · obtain ⟨v, rfl, h⟩ := one_of hd
    cases eg
    cases h with
    | lst h1 d1 => exact ⟨_, _, rfl, .inl (SqL.of (sb _ _ h1)), fun l n => k _ _ (.lst n d1)⟩
  · obtain ⟨v, rfl, h⟩ := one_of hd
    cases eg
    cases h with
    | tup h1 d1 => exact ⟨_, _, rfl, .inr (SqT.of (sb _ _ h1)), fun l n => k _ _ (.lst n d1)⟩
  · cases eg
def gTuple : List PyData → Option Rs
  | [.list xs] => some (.d (.tuple xs))
  | [.tuple xs] => some (.d (.tuple xs))
  | _ => none
theorem dc_tuple : CallR X (.type "tuple") (rCD X.K gTuple) := CallR.imp call_tuple_of fun xs H Q ⟨B, ds, r, sb, hd, eg, k⟩ => by
  unfold gTuple at eg
  split at eg
  · obtain ⟨v, rfl, h⟩ := one_of hd
    cases eg
    cases h with
    | lst h1 d1 => exact ⟨_, _, rfl, .inl ⟨SqL.of (sb _ _ h1), fun l n => k _ _ (.tup n d1)⟩⟩
  · obtain ⟨v, rfl, h⟩ := one_of hd
    cases eg
    cases h with
    | tup h1 d1 => exact ⟨_, _, rfl, .inr ⟨SqT.of (sb _ _ h1), k _ _ (.old (.tup h1 d1))⟩⟩
  · cases eg
/-! ### sum, all, any -/
def gSum : List PyData → Option Rs
  | [.list xs] => (intsOf xs).map fun ns => .d (.int ns.sum)
  | _ => none
theorem dc_sum (hc : X.calm = true) : CallR X (.builtin "sum") (rCD X.K gSum) := CallR.imp (cr_sum hc) fun xs H Q ⟨B, ds, r, sb, hd, eg, k⟩ => by
  unfold gSum at eg
  split at eg
  · obtain ⟨v, rfl, h⟩ := one_of hd
    obtain ⟨ns, e1, eg⟩ := map_some eg
    cases eg
    rw [intsOf_eq e1] at h
    cases h with
    | lst h1 d1 =>
      rw [d1.ints] at h1
      exact ⟨_, ns, rfl, SqL.of (sb _ _ h1), k _ _ (.old (.int _))⟩
  · cases eg
def boolsOf : List PyData → Option (List Bool)
  | [] => some []
  | .bool i :: r => (boolsOf r).map (i :: ·)
  | _ :: _ => none
theorem boolsOf_map : ∀ ns : List Bool, boolsOf (ns.map PyData.bool) = some ns
  | [] => rfl
  | n :: ns => by
    show (boolsOf (ns.map PyData.bool)).map (n :: ·) = _
    rw [boolsOf_map ns]
    rfl
theorem boolsOf_eq : ∀ {xs : List PyData} {ns : List Bool}, boolsOf xs = some ns → xs = ns.map PyData.bool
  | [], ns, e => by cases e; rfl
  | x :: r, ns, e => by
    unfold boolsOf at e
    cases x with
    | bool i =>
      obtain ⟨ms, e1, e2⟩ := map_some (show (boolsOf r).map (i :: ·) = some ns from e)
      rw [boolsOf_eq e1, ← e2]
      rfl
    | none => cases e
    | int _ => cases e
    | str _ => cases e
    | list _ => cases e
    | tuple _ => cases e
    | dict _ => cases e
def gAll : List PyData → Option Rs
  | [.list xs] => (boolsOf xs).map fun ns => .d (.bool (ns.all id))
  | _ => none
theorem dc_all (hc : X.calm = true) : CallR X (.builtin "all") (rCD X.K gAll) := CallR.imp (cr_all hc) fun xs H Q ⟨B, ds, r, sb, hd, eg, k⟩ => by
  unfold gAll at eg
  split at eg
  · obtain ⟨v, rfl, h⟩ := one_of hd
    obtain ⟨ns, e1, eg⟩ := map_some eg
    cases eg
    rw [boolsOf_eq e1] at h
    cases h with
    | lst h1 d1 =>
      rw [d1.bls] at h1
      exact ⟨_, ns, rfl, SqL.of (sb _ _ h1), k _ _ (.old (.bl _))⟩
  · cases eg
def gAny : List PyData → Option Rs
  | [.list xs] => (boolsOf xs).map fun ns => .d (.bool (ns.any id))
  | _ => none
theorem dc_any (hc : X.calm = true) : CallR X (.builtin "any") (rCD X.K gAny) := CallR.imp (cr_any hc) fun xs H Q ⟨B, ds, r, sb, hd, eg, k⟩ => by
  unfold gAny at eg
  split at eg
  · obtain ⟨v, rfl, h⟩ := one_of hd
    obtain ⟨ns, e1, eg⟩ := map_some eg
    cases eg
    rw [boolsOf_eq e1] at h
    cases h with
    | lst h1 d1 =>
      rw [d1.bls] at h1
      exact ⟨_, ns, rfl, SqL.of (sb _ _ h1), k _ _ (.old (.bl _))⟩
  · cases eg
end
end DL
end PDL11
section PDL12
/-! min, max, sorted by data. -/
namespace DL
open PySem PySem.Spec PyProof.Rows L2
variable [TC : TabsC]

section
variable {X : Cx} {e a b : Expr} {f g : EM} {pos p2 p : Pos}
def gMax : List PyData → Option Rs
  | [.int i, .int j] => some (.d (.int (if j > i then j else i)))
  | _ => none
theorem dc_max2 (hc : X.calm = true) : CallR X (.builtin "max") (rCD X.K gMax) := CallR.imp (call_max2 hc) fun xs H Q ⟨B, ds, r, sb, hd, eg, k⟩ => by
  unfold gMax at eg
  split at eg
  · obtain ⟨v, w, rfl, h1, h2⟩ := two_of hd
    cases eg; cases h1; cases h2
    exact ⟨_, _, rfl, k _ _ (.old (.int _))⟩
  · cases eg
theorem three_of {K : PySem.W.Frag} {B : Hp} {vs : List V} {d e f : PyData} (h : DDs K B vs [d, e, f]) : ∃ v w x, vs = [v, w, x] ∧ DD K B v d ∧ DD K B w e ∧ DD K B x f := by
  cases h with
  | cons h1 h2 =>
    obtain ⟨w, x, rfl, h3, h4⟩ := two_of h2
    exact ⟨_, _, _, rfl, h1, h3, h4⟩
/-- min of two ints, of three ints, of a list of alike data -/
def alikeB (xs : List PyData) : Bool := xs.all fun x => xs.all fun y => PySem.W.alike x y
def gMin : List PyData → Option Rs
  | [.int i, .int j] => some (.d (.int (if j < i then j else i)))
  | [.int i, .int j, .int l] => some (.d (.int (if l < (if j < i then j else i) then l else (if j < i then j else i))))
  | [.list (x :: xs)] => if (alikeB (x :: xs) && !isNone x && decide (PyData.depthAll (x :: xs) ≤ 60)) = true then some (.d (PySem.W.minD x xs)) else none
  | _ => none
theorem Vals.getU {vs : List V} {us : List Value} (r : Vals vs us) : ∀ {i : Nat} {u : Value}, us[i]? = some u → ∃ v, vs[i]? = some v ∧ RelV v u := by
  induction r with
  | nil => intro i u e; simp at e
  | cons h t ih =>
    intro i u e
    cases i with
    | zero => simp at e; subst e; exact ⟨_, rfl, h⟩
    | succ i =>
      obtain ⟨v, h1, h2⟩ := ih (i := i) (by simpa using e)
      exact ⟨v, by simpa using h1, h2⟩
theorem alikeB_all {xs : List PyData} (h : alikeB xs = true) : ∀ x ∈ xs, ∀ y ∈ xs, PySem.W.alike x y = true := fun x hx y hy => by
  unfold alikeB at h
  exact List.all_eq_true.mp (List.all_eq_true.mp h x hx) y hy
theorem alike_none {x y : PyData} (h : PySem.W.alike x y = true) (n : isNone x = false) : y ≠ .none := fun e => by
  subst e
  cases x <;> simp [isNone, PySem.W.alike] at n h
theorem dc_min (hc : X.calm = true) (hu : X.A.units + 64 < cLine) : CallR X (.builtin "min") (rCD X.K gMin) := by
  intro pins s σ H xs us Q I rx h
  obtain ⟨B, ds, r, sb, hd, eg, k⟩ := h
  unfold gMin at eg
  split at eg
  · obtain ⟨v, w, rfl, h1, h2⟩ := two_of hd
    cases eg; cases h1; cases h2
    exact call_min2 hc pins s σ H _ us Q I rx ⟨_, _, rfl, k _ _ (.old (.int _))⟩
  · obtain ⟨v, w, z, rfl, h1, h2, h3⟩ := three_of hd
    cases eg; cases h1; cases h2; cases h3
    rename_i i j l
    refine call_min3Nu hc pins s σ H _ us Q I rx ⟨_, _, _, .int (if l < (if j < i then j else i) then l else (if j < i then j else i)), rfl, ?_, k _ _ (.old (.int _))⟩
    by_cases h1 : j < i
    · by_cases h2 : l < j <;> simp [nuMin3, nuMin2, nuLt, nuCB, h1, h2]
    · by_cases h2 : l < i <;> simp [nuMin3, nuMin2, nuLt, nuCB, h1, h2]
  · rename_i x xs
    obtain ⟨v, rfl, h⟩ := one_of hd
    split at eg
    · rename_i hz
      simp only [Bool.and_eq_true, Bool.not_eq_true', decide_eq_true_eq] at hz
      cases eg
      cases h with
      | lst h1 d1 =>
        rename_i a ws
        rw [Vals.ref1 rx]
        obtain ⟨its, rv, pl, zz⟩ := I.list (SqL.of (sb _ _ h1))
        obtain ⟨as, ra⟩ := DD.readsAll I _ _ _ (d1.up sb) rv
        refine PySem.W.min_list_data (I.ok.hd hc) pl.isList (by simpa using ra) ⟨alikeB_all hz.1.1, fun y hy => alike_none (alikeB_all hz.1.1 x List.mem_cons_self y hy) hz.1.2⟩ (by omega) fun i u h' tk bs hv hr hk => ?_
        obtain ⟨w, hw, rw'⟩ := Vals.getU rv (i := i) (u := u) (by simpa using hv)
        obtain ⟨d, e1, e2⟩ := d1.getV hw
        obtain ⟨as2, r2⟩ := DD.reads I d w u (e2.up sb) rw'
        obtain ⟨e3, _⟩ := reads_det (fun b o q _ => hk b o q) r2 hr
        rw [e3] at k
        exact ⟨w, H, I.kept hk, rw', k _ _ (.old e2)⟩
    · cases eg
  · cases eg
end
end DL
end PDL12
section PDL13
/-! sorted by data. -/
namespace DL
open PySem PySem.Spec PyProof.Rows L2
variable [TC : TabsC]

/-! ### plain sorting -/
def insI (k : Int) : List Int → List Int
  | [] => [k]
  | x :: xs => if k ≤ x then k :: x :: xs else x :: insI k xs
def isort : List Int → List Int
  | [] => []
  | x :: xs => insI x (isort xs)
theorem insI_perm (k : Int) : ∀ xs, (insI k xs).Perm (k :: xs)
  | [] => .refl _
  | x :: xs => by
    unfold insI
    split
    · exact .refl _
    · exact ((insI_perm k xs).cons x).trans (.swap k x xs)
theorem isort_perm : ∀ xs, (isort xs).Perm xs
  | [] => .refl _
  | x :: xs => (insI_perm x (isort xs)).trans ((isort_perm xs).cons x)
theorem insI_sorted (k : Int) : ∀ {xs : List Int}, xs.Pairwise (· ≤ ·) → (insI k xs).Pairwise (· ≤ ·)
  | [], _ => by simp [insI]
  | x :: xs, h => by
    obtain ⟨h1, h2⟩ := List.pairwise_cons.mp h
    unfold insI
    split
    · rename_i hk
      refine List.pairwise_cons.mpr ⟨fun y hy => ?_, h⟩
      rcases List.mem_cons.mp hy with rfl | hy
      · exact hk
      · exact Int.le_trans hk (h1 y hy)
    · rename_i hk
      refine List.pairwise_cons.mpr ⟨fun y hy => ?_, insI_sorted k h2⟩
      rcases List.mem_cons.mp ((insI_perm k xs).mem_iff.mp hy) with rfl | hy
      · omega
      · exact h1 y hy
theorem isort_sorted : ∀ xs : List Int, (isort xs).Pairwise (· ≤ ·)
  | [] => .nil
  | x :: xs => insI_sorted x (isort_sorted xs)
theorem isort_only {xs ys : List Int} (p : ys.Perm xs) (s : ys.Pairwise (· ≤ ·)) : ys = isort xs :=
  List.Perm.eq_of_pairwise (fun a b _ _ h1 h2 => Int.le_antisymm h1 h2) s (isort_sorted xs) (p.trans (isort_perm xs).symm)
theorem isort_id {xs : List Int} (s : xs.Pairwise (· ≤ ·)) : isort xs = xs := (isort_only (.refl _) s).symm
/-- each once -/
def insU (k : Int) : List Int → List Int
  | [] => [k]
  | x :: xs => if k < x then k :: x :: xs else if k = x then x :: xs else x :: insU k xs
def usort : List Int → List Int
  | [] => []
  | x :: xs => insU x (usort xs)
theorem insU_mem (k y : Int) : ∀ xs, y ∈ insU k xs ↔ y = k ∨ y ∈ xs
  | [] => by simp [insU]
  | x :: xs => by
    unfold insU
    split
    · simp
    · split
      · rename_i h
        subst h
        simp
      · rw [List.mem_cons, insU_mem k y xs, List.mem_cons]
        constructor
        · rintro (h | h | h) <;> simp [h]
        · rintro (h | h | h) <;> simp [h]
theorem usort_mem (y : Int) : ∀ xs, y ∈ usort xs ↔ y ∈ xs
  | [] => Iff.rfl
  | x :: xs => by
    unfold usort
    rw [insU_mem, usort_mem y xs, List.mem_cons]
theorem insU_sorted (k : Int) : ∀ {xs : List Int}, xs.Pairwise (· < ·) → (insU k xs).Pairwise (· < ·)
  | [], _ => by simp [insU]
  | x :: xs, h => by
    obtain ⟨h1, h2⟩ := List.pairwise_cons.mp h
    unfold insU
    split
    · rename_i hk
      refine List.pairwise_cons.mpr ⟨fun y hy => ?_, h⟩
      rcases List.mem_cons.mp hy with rfl | hy
      · exact hk
      · exact Int.lt_trans hk (h1 y hy)
    · split
      · exact h
      · refine List.pairwise_cons.mpr ⟨fun y hy => ?_, insU_sorted k h2⟩
        rcases (insU_mem k y xs).mp hy with rfl | hy
        · omega
        · exact h1 y hy
theorem usort_sorted : ∀ xs : List Int, (usort xs).Pairwise (· < ·)
  | [] => .nil
  | x :: xs => insU_sorted x (usort_sorted xs)
theorem strict_only {xs ys : List Int} (hx : xs.Pairwise (· < ·)) (hy : ys.Pairwise (· < ·)) (h : ∀ k, k ∈ xs ↔ k ∈ ys) : xs = ys := by
  have nx : xs.Nodup := hx.imp fun {a b} h => Int.ne_of_lt h
  have ny : ys.Nodup := hy.imp fun {a b} h => Int.ne_of_lt h
  exact List.Perm.eq_of_pairwise (le := (· ≤ ·)) (fun a b _ _ h1 h2 => Int.le_antisymm h1 h2) (hx.imp fun {a b} h => Int.le_of_lt h) (hy.imp fun {a b} h => Int.le_of_lt h) ((List.perm_ext_iff_of_nodup nx ny).mpr h)
theorem usort_only {xs ys : List Int} (s : ys.Pairwise (· < ·)) (h : ∀ k, k ∈ ys ↔ k ∈ xs) : ys = usort xs := strict_only s (usort_sorted xs) fun k => (h k).trans (usort_mem k xs).symm

/-! ### sorted of a tuple -/
section
variable {prog : Program} {w : World} {A : Around} {E : Value → Shared → Prop} {s : Shared}
theorem collect_tup {l : Addr} {vs : List Value} {Q : List Value → Shared → Prop} (hl : IsTup s.heap l vs.toArray)
    (h : Q vs { s with heap := (s.heap.push (seqObj "list" #[] 0)).update s.heap.objs.size (Obj.mapSeq (· ++ vs.toArray)) }) (hz : vs.length ≤ sizeLine) :
    wpAny (model prog w) A (collect (.ref l)) Q E s := by
  obtain ⟨o, ho, hc, n, hd⟩ := hl
  unfold collect
  refine wpAny_bind (wpAny_runValue (codeAny_builtin entry_proto_collect' ?_))
  show wpAny _ _ (do again (.builtin "list.__iadd__" ⟨[← newList [], .ref l], []⟩)) _ _ s
  refine wpAny_bind (wpAny_newList (wpAny_pure ⟨Code.quiet_builtin _ (by decide +kernel), codeAny_builtin entry_list_iadd' ?_⟩))
  show wpAny _ _ (Builtin.List.listExtendWith _ _ _) _ _ { s with heap := s.heap.push (seqObj "list" #[] 0) }
  unfold Builtin.List.listExtendWith
  have h1 : (s.heap.push (seqObj "list" #[] 0)).get? l = some o := Heap.get?_push_of_some _ ho
  have h2 : (s.heap.push (seqObj "list" #[] 0)).get? s.heap.objs.size = some (seqObj "list" #[] 0) := Heap.get?_push_size _ rfl
  refine wpAny_bind (wpAny_typeOf (T := "tuple") ⟨o, h1, hc⟩ ?_)
  refine wp_if_pos (by simp) ?_
  refine wpAny_bind (listItems_at h1 hd ?_)
  refine wpAny_bind (listItems_at h2 rfl ?_)
  refine wp_if_neg (by simp) ?_
  refine wpAny_bind (listUpdate_at h2 rfl ?_ (Nat.zero_le _) (by simp only [Array.size_append, List.size_toArray, List.length_nil]; omega))
  refine wpAny_pure ?_
  show wpAny (model prog w) A (load s.heap.objs.size >>= _) Q E _
  refine wpAny_bind (wpAny_load (get?_update_seq h2 _) ?_)
  refine wpAny_pure ?_
  rw [show ((#[] : Array Value) ++ vs.toArray).toList = vs by simp]
  exact h
theorem sorted_tupI {l : Addr} {vs : List Value} {ns : List Int} {Q : Value → Shared → Prop} (hl : IsTup s.heap l vs.toArray) (hI : IntsAre vs ns) (hz : vs.length ≤ sizeLine)
    (h : ∀ (h' : Heap) (p : Addr) (out : List Value) (c : Nat), (∀ b o, s.heap.get? b = some o → h'.get? b = some o) → s.heap.objs.size ≤ p → h'.get? p = some (seqObj "list" out.toArray c) → IntsAre out (isort ns) → Q (.ref p) { s with heap := h' }) :
    wpAny (model prog w) A (call (.builtin "sorted") [.ref l]) Q E s := by
  refine Calls.call_function_entry kind_sorted plain_sorted entry_sorted (args_sorted1 _) ?_
  unfold Builtin.«sorted»
  refine wpAny_bind (m := checkCount "sorted" 1 1 _) (wpAny_pure ?_)
  refine wpAny_bind (collect_tup hl ?_ hz)
  refine wpAny_bind (wpAny_newList ?_ hz)
  generalize hh : (s.heap.push (seqObj "list" #[] 0)).update s.heap.objs.size (Obj.mapSeq (· ++ vs.toArray)) = h1
  have hs1 : h1.objs.size = s.heap.objs.size + 1 := by rw [← hh, Heap.size_update, size_push']
  have k1 : ∀ b o, s.heap.get? b = some o → h1.get? b = some o := fun b o q => by
    rw [← hh, Heap.get?_update_ne _ _ _ _ (Nat.ne_of_lt (Heap.lt_size q))]
    exact Heap.get?_push_of_some _ q
  have hoL : (h1.push (seqObj "list" vs.toArray 0)).get? h1.objs.size = some (seqObj "list" vs.toArray 0) := Heap.get?_push_size _ rfl
  show wpAny _ _ _ _ _ { s with heap := h1.push (seqObj "list" vs.toArray 0) }
  refine wpAny_bind (wpAny_holding (wpAny_call_entry slot_list_sort ⟨_, hoL, rfl⟩ entry_list_sort (SrtO.list_sort_ord SrtO.swo_int hoL hz (fun h2 => SrtO.ints_sortable hI h2) fun out b1 b2 => ⟨_, rfl, ?_⟩) (args_list_sort _)))
  obtain ⟨k2, k3, k4⟩ := SrtO.ints_out hI b1 b2
  rw [isort_only k3 k4] at k2
  obtain ⟨c, hc⟩ := sortedHeap_at (vs := vs) (out := out.toArray) hoL
  refine wpAny_pure ⟨_, rfl, h _ _ out c (fun b o q => ?_) (by rw [hs1]; exact Nat.le_succ _) hc k2⟩
  have q1 := k1 b o q
  have hlt := Heap.lt_size q1
  rw [sortedHeap_old (Nat.ne_of_lt hlt) (by rw [size_push']; exact Nat.lt_succ_of_lt hlt)]
  exact Heap.get?_push_of_some _ q1
end
section
variable {X : Cx} {e a b : Expr} {f g : EM} {pos p2 p : Pos}
/-- sorted of a list or a tuple of ints -/
def gSorted : List PyData → Option Rs
  | [.list ds] => (intsOf ds).map fun ns => .l ((isort ns).map .int)
  | [.tuple ds] => (intsOf ds).map fun ns => .l ((isort ns).map .int)
  | _ => none
theorem dc_sorted : CallR X (.builtin "sorted") (rCD X.K gSorted) := by
  intro pins s σ H xs us Q I rx h
  obtain ⟨B, ds, r, sb, hd, eg, k⟩ := h
  unfold gSorted at eg
  split at eg
  · obtain ⟨v, rfl, h⟩ := one_of hd
    obtain ⟨ns, e1, eg⟩ := map_some eg
    cases eg
    rw [intsOf_eq e1] at h
    cases h with
    | lst h1 d1 =>
      rw [d1.ints] at h1
      refine cr_sortedI pins s σ H _ us Q I rx ⟨_, ns, rfl, SqL.of (sb _ _ h1), fun ns' p hp hs n => ?_⟩
      rw [isort_only hp hs]
      exact k _ _ (.lst n (DDs.of_ints _))
  · obtain ⟨v, rfl, h⟩ := one_of hd
    obtain ⟨ns, e1, eg⟩ := map_some eg
    cases eg
    rw [intsOf_eq e1] at h
    cases h with
    | tup h1 d1 =>
      rw [d1.ints] at h1
      rw [Vals.ref1 rx]
      obtain ⟨its, rv, pl, hz⟩ := I.tuple (SqT.of (sb _ _ h1))
      have hl := rv.length
      refine sorted_tupI pl (rv.ints) (by omega) fun h' p out c kk hp hg hI => ?_
      have hn := I.hok.fresh hp
      have hlen : ((isort ns).map V.int).length ≤ sizeLine := by
        rw [List.length_map, (isort_perm ns).length_eq]
        rw [List.length_map] at hz
        exact hz
      exact ⟨.ref p, _, I.laid (t' := s.toks) (o := .lst ((isort ns).map V.int)) kk hp ⟨hlen, out, c, vals_of_ints hI, hg⟩, rfl, k _ _ (.lst hn (DDs.of_ints _))⟩
  · cases eg
/-! ### sorted(set(t)), t a tuple of fewer than 64 ints -/
def rSetT (K : PySem.W.Frag) (w : World) : List V → Hp → VK → Prop := fun vs H Q => ∃ (p : Addr) (ns : List Int), vs = [.ref p] ∧ SqT K H p (ns.map V.int) ∧ ns.length ≤ 1000 ∧ ∀ (a : Addr) (c : Nat), c ≤ ns.length → H a = none → Q (.ref a) (upd H a (SetO w a (fun j => decide (j ∈ ns)) c))
theorem cr_setT (hc : X.calm = true) : CallR X (.type "set") (rSetT X.K X.w) := by
  intro pins s σ H vs us Q I r h
  obtain ⟨p, ns, rfl, hq, hl, q⟩ := h
  rw [Vals.ref1 r]
  obtain ⟨its, rv, pt, hz⟩ := I.tuple hq
  have hi : IntsAre its.toArray.toList ns := ints_of_vals rv
  refine call_set_tupI ns (I.ok.hd hc) (show s.heap.IsTuple p its.toArray from pt) hi (by unfold scanBound; omega) fun h' tk c R1 hcn k => ?_
  exact ⟨.ref _, _, I.laid (t' := tk) k (Nat.le_refl _) (setO_new R1), rfl, q _ c hcn (I.hok.fresh (Nat.le_refl _))⟩
def gSortSet : PyData → Option Rs
  | .tuple ds => (intsOf ds).bind fun ns => if ns.length < 64 then some (.l ((usort ns).map .int)) else none
  | _ => none
def eSortSet (f : EM) : EM := fun ρ => (f ρ).bind fun a => (gSortSet a.1.data).map fun r => (r, a.2)
theorem de_sortSet {x y : Str} {ps py : Pos} (hc : X.calm = true) (ha : DE X e f) (hg : Gl X x) (hm : X.mg x = none) (hv : bootBuiltins x = some (.builtin "sorted")) (hg2 : Gl X y) (hm2 : X.mg y = none) (hv2 : bootBuiltins y = some (.type "set")) (hn : x ≠ "__name__" := by decide) (hdb : (x == ("__debug__" : Str)) = false := by decide)
    (hn2 : y ≠ "__name__" := by decide) (hdb2 : (y == ("__debug__" : Str)) = false := by decide)
    (he : starEach [.Call (.Name y py) [e] [] p2] X.env = (false, eval (.Call (.Name y py) [e] [] p2) X.env) :: starEach [] X.env := by rfl) (he2 : starEach [e] X.env = (false, eval e X.env) :: starEach [] X.env := by rfl)
    (hpl : (backTo pos (starEach [] X.env)).any (·.1) = false := by rfl) (hpl2 : (backTo p2 (starEach [] X.env)).any (·.1) = false := by rfl) : DE X (.Call (.Name x ps) [.Call (.Name y py) [e] [] p2] [] pos) (eSortSet f) :=
  PE.imp (pe_callB (cr_sortedSet hc) hg hm hv (pa_cons (pe_callTy (cr_setT hc) hg2 hm2 hv2 (pa_cons ha pa_nil he2) hn2 hdb2 he2 hpl2) pa_nil he) hn hdb he hpl) fun σ H Q ⟨F, B, pa, ρ, r, ρ', S, e, k⟩ => by
    obtain ⟨⟨r1, ρ1⟩, e1, e⟩ := bind_some e
    obtain ⟨r2, e2, e⟩ := map_some e
    cases e
    refine tD_take S e1 fun v B1 H1 S1 s1 d1 => ?_
    have d1 : DD X.K B1 v r1.data := d1
    change gSortSet r1.data = some r at e2
    cases hr : r1.data with
    | tuple ds =>
      rw [hr] at e2 d1
      obtain ⟨ns, e3, e4⟩ := bind_some e2
      split at e4
      · rename_i hz
        cases e4
        rw [intsOf_eq e3] at d1
        cases d1 with
        | tup h1 h2 =>
          rw [h2.ints] at h1
          refine ⟨_, ns, rfl, SqT.of (S1.sb _ _ h1), by omega, fun a c hcn na => ?_⟩
          have S2 := S1.new (o := SetO X.w a (fun j => decide (j ∈ ns)) c) na
          refine ⟨a, _, c, rfl, upd_same, by omega, fun ns' p hp hm hlen n => ?_⟩
          have e5 : ns' = usort ns := usort_only hp fun k => by rw [hm k, decide_eq_true_eq]
          subst e5
          obtain ⟨B3, S3, s3, q3⟩ := (NewR.lst n (DDs.of_ints (usort ns))).back S2
          exact k _ B3 _ S3 (s1.trans s3) q3
      · cases e4
    | none => rw [hr] at e2; cases e2
    | bool _ => rw [hr] at e2; cases e2
    | int _ => rw [hr] at e2; cases e2
    | str _ => rw [hr] at e2; cases e2
    | list _ => rw [hr] at e2; cases e2
    | dict _ => rw [hr] at e2; cases e2
end
end DL
end PDL13
section PDL14
/-! repr, list(range(..)), extend, t[::-1], enumerate. -/
namespace DL
open PySem PySem.Spec PyProof.Rows L2
variable [TC : TabsC]

section
variable {X : Cx} {e a b : Expr} {f g : EM} {pos p2 p p3 : Pos}
/-! ### repr -/
def reprOk (d : PyData) : Bool := d.showable && plainD d && decide (d.depth ≤ 60) && decide (d.shown.length ≤ sizeLine)
def gRepr : List PyData → Option Rs
  | [d] => if reprOk d = true then some (.d (.str d.shown)) else none
  | _ => none
theorem dc_repr (hg : X.A.guards = some []) (hu : X.A.units + 64 < cLine) : CallR X (.builtin "repr") (rCD X.K gRepr) := by
  intro pins s σ H xs us Q I rx h
  obtain ⟨B, ds, r, sb, hd, eg, k⟩ := h
  unfold gRepr at eg
  split at eg
  · rename_i d
    obtain ⟨v, rfl, h⟩ := one_of hd
    split at eg
    · rename_i hz
      cases eg
      unfold reprOk at hz
      simp only [Bool.and_eq_true, decide_eq_true_eq] at hz
      obtain ⟨⟨⟨z1, z2⟩, z3⟩, z4⟩ := hz
      have q := k _ _ (.old (.str d.shown))
      obtain ⟨u, rfl, ru⟩ := vals1 rx
      have big : ∀ a, u = .ref a → wpAny (model X.prog X.w) X.A (call (.builtin "repr") [u]) (EP X pins σ Q) X.xe s := fun a ea => by
        obtain ⟨as, r1, r2⟩ := DD.reads_sys I d v u (h.up sb) ru z2
        subst ea
        exact repr_of_reads' r1 z1 r2 hg (by omega) (fun _ _ e => e) (fun h' t tk hk => ⟨.str d.shown, H, I.kept hk, ⟨t, rfl⟩, q⟩) z4
      cases h with
      | non =>
        cases ru
        exact PySem.P.repr_of_none ⟨.str _, H, I.tok _, ⟨_, rfl⟩, q⟩
      | bl b =>
        cases ru
        exact PySem.P.repr_of_bool ⟨.str _, H, I.tok _, ⟨_, rfl⟩, by simpa only [PyData.shown] using q⟩
      | int i =>
        obtain ⟨t, rfl⟩ := ru
        exact PySem.P.repr_of_int (by simpa [PyData.showable] using z1) ⟨.str _, H, I.tok _, ⟨_, rfl⟩, q⟩
      | str x =>
        obtain ⟨t, rfl⟩ := ru
        exact PySem.P.repr_of_str ⟨.str _, H, I.tok _, ⟨_, rfl⟩, q⟩ z4
      | lst _ _ => exact big _ ru
      | tup _ _ => exact big _ ru
      | nod _ => exact big _ ru
    · cases eg
  · cases eg
/-! ### list(range(a)), list(range(a, b)) -/
def rgOkB (a b : Int) : Bool := decide (-(2 ^ 62) ≤ a) && decide (a < 2 ^ 62) && decide (-(2 ^ 62) ≤ b) && decide (b < 2 ^ 62) && decide ((b - a).toNat ≤ 2 ^ 24)
theorem rgOkB_ok {a b : Int} (h : rgOkB a b = true) : RgOk a b := by
  unfold rgOkB at h
  simp only [Bool.and_eq_true, decide_eq_true_eq] at h
  exact ⟨h.1.1.1.1, h.1.1.1.2, h.1.1.2, h.1.2, h.2⟩
theorem rgV_data {K : PySem.W.Frag} {B : Hp} (a b : Int) : DDs K B (rgV a b) (rngD a 1 (b - a).toNat) := by
  unfold rgV rngD
  generalize List.range (b - a).toNat = l
  induction l with
  | nil => exact .nil
  | cons i l ih =>
    rw [List.map_cons, List.map_cons, Int.mul_one]
    exact .cons (.int _) ih
def eListR1 (f : EM) : EM := fun ρ => (f ρ).bind fun a => (intOf a.1.data).bind fun n => if rgOkB 0 n = true then some (.l (rngD 0 1 (n - 0).toNat), a.2) else none
theorem de_listR1 {pr : Pos} (hc : X.calm = true) (hg : Gl X "list") (hm : X.mg "list" = none) (hg2 : Gl X "range") (hm2 : X.mg "range" = none) (ha : DE X e f) (na2 : starEach [e] X.env = (false, eval e X.env) :: starEach [] X.env := by rfl)
    (na : starEach [.Call (.Name "range" pr) [e] [] p2] X.env = (false, eval (.Call (.Name "range" pr) [e] [] p2) X.env) :: starEach [] X.env := by rfl) : DE X (.Call (.Name "list" p) [.Call (.Name "range" pr) [e] [] p2] [] pos) (eListR1 f) :=
  PE.imp (pe_listRg hc hg hm (prg_1 hg2 hm2 ha na2) na) fun σ H Q ⟨F, B, pa, ρ, r, ρ', S, e, k⟩ => by
    obtain ⟨⟨r1, ρ1⟩, e1, e⟩ := bind_some e
    obtain ⟨n, e2, e⟩ := bind_some e
    split at e
    · rename_i hz
      cases e
      refine tD_take S e1 fun v B1 H1 S1 s1 d1 => ?_
      have d1 : DD X.K B1 v r1.data := d1
      rw [intOf_eq e2] at d1
      cases d1
      refine ⟨n, rfl, rgOkB_ok hz, fun q nq => ?_⟩
      obtain ⟨B2, S2, s2, q2⟩ := (NewR.lst nq (rgV_data 0 n)).back S1
      exact k _ B2 _ S2 (s1.trans s2) q2
    · cases e
/-! ### list.extend -/
def opExtend : LM := fun xs ds => match ds with
  | [.list ys] => if xs.length + ys.length ≤ sizeLine then some (.none, xs ++ ys) else none
  | [.tuple ys] => if xs.length + ys.length ≤ sizeLine then some (.none, xs ++ ys) else none
  | _ => none
theorem md_extend : MtR X "list.extend" (rMD X.K opExtend) := by
  intro pins s σ H x vs v us Q I rx rv h
  obtain ⟨B, a, ws, xs, ds, d, ys, rfl, sb, hB, hH, dw, dv, eo, k⟩ := h
  unfold opExtend at eo
  split at eo
  · split at eo
    · rename_i hz
      cases eo
      obtain ⟨y, rfl, h⟩ := one_of dv
      cases h with
      | lst h1 d1 => exact mt_extend pins s σ H _ _ v us Q I rx rv ⟨_, _, ws, _, rfl, rfl, hH, sb _ _ h1, by rw [dw.length, d1.length]; exact hz, k _ _ .non (dw.append d1)⟩
    · cases eo
  · split at eo
    · rename_i ys hz
      cases eo
      obtain ⟨y, rfl, h⟩ := one_of dv
      cases h with
      | tup h1 d1 =>
        rename_i b zs
        cases rx
        rw [Vals.ref1 rv]
        obtain ⟨z, its, n, r, hl, e⟩ := I.lstM hH
        obtain ⟨its2, r2, pt, z2⟩ := I.tuple (SqT.of (sb _ _ h1))
        obtain ⟨o, ho, hc, n2, hdt⟩ := pt
        have hsz : its.toArray.size + its2.toArray.size ≤ sizeLine := by
          rw [List.size_toArray, List.size_toArray, ← r.length, ← r2.length, dw.length, d1.length]
          exact hz
        refine wpAny_call_entry PySem.F.slot_list_extend ⟨_, e, rfl⟩ PySem.F.entry_list_extend ?_ (PySem.F.args_list_extend_2 _ _)
        show wpAny _ _ (Builtin.List.listExtendWith _ _ _) _ _ _
        unfold Builtin.List.listExtendWith
        refine wpAny_bind (wpAny_typeOf (T := "tuple") ⟨o, ho, hc⟩ ?_)
        refine wp_if_pos (by simp) ?_
        refine wpAny_bind (listItems_at ho hdt ?_)
        refine wpAny_bind (listItems_at e rfl ?_)
        refine wp_if_neg (by rw [notLongL hsz, Bool.and_false]; exact Bool.false_ne_true) ?_
        refine wpAny_bind (listUpdate_at e rfl ?_ (by rw [List.size_toArray] at hsz ⊢; omega) (by rw [Array.size_append]; omega))
        refine wpAny_pure ⟨.none, rfl, ?_⟩
        refine ⟨.non, _, I.lset (its' := its ++ its2) (ys := ws ++ zs) (t' := s.toks) hH e (by simp) (r.append r2) ?_, rfl, k _ _ .non (dw.append d1)⟩
        rw [List.length_append, dw.length, d1.length]
        exact hz
    · cases eo
  · cases eo
end
end DL
end PDL14
section PDL15
set_option maxHeartbeats 1000000
/-! t[::-1], enumerate. -/
namespace DL
open PySem PySem.Spec PyProof.Rows L2 HT
variable [TC : TabsC]

section
variable {prog : Program} {w : World} {A : Around} {E : Value → Shared → Prop} {s : Shared}
theorem rev_places (n : Nat) : (Builtin.Slice.sliceAdjust none none (-1) (n : Int)) = ((n : Int) - 1, -1) := by
  unfold Builtin.Slice.sliceAdjust
  simp
theorem rev_count (n : Nat) : Builtin.Slice.slicePlaces ((n : Int) - 1) (-1) (-1) = n := by
  unfold Builtin.Slice.slicePlaces
  by_cases h : n = 0
  · subst h
    decide
  · have h1 : ¬ ((-1 : Int) > 0) := by decide
    have h2 : (n : Int) - 1 > -1 := by omega
    simp only [h1, if_false, h2, if_true]
    have e : ((n : Int) - 1 - -1 - 1) / (- -1) + 1 = (n : Int) := by
      rw [show (- -1 : Int) = 1 by decide, Int.ediv_one]
      omega
    rw [e, Int.toNat_natCast]
theorem fm_congr {α β : Type} {f g : α → Option β} : ∀ {l : List α}, (∀ x ∈ l, f x = g x) → l.filterMap f = l.filterMap g
  | [], _ => rfl
  | x :: l, h => by
    rw [List.filterMap_cons, List.filterMap_cons, h x List.mem_cons_self, fm_congr fun y hy => h y (List.mem_cons_of_mem _ hy)]
theorem rev_pick (xs : List Value) : ((List.range xs.length).filterMap fun (k : Nat) => xs.toArray[((xs.length : Int) - 1 + (k : Int) * -1).toNat]?) = xs.reverse := by
  have e1 : (List.range xs.length).filterMap (fun (k : Nat) => xs.toArray[((xs.length : Int) - 1 + (k : Int) * -1).toNat]?) = ((List.range xs.length).map fun k => xs.length - 1 - k).filterMap (xs.toArray[·]?) := by
    rw [List.filterMap_map]
    refine fm_congr fun k hk => ?_
    have := List.mem_range.mp hk
    show _ = xs.toArray[xs.length - 1 - k]?
    congr 1
    omega
  rw [e1, PySem.W.krv_range, List.filterMap_reverse]
  have := PySem.W.krv_all xs.toArray
  rw [List.size_toArray] at this
  rw [this]
theorem revTup {t sl : Addr} {its : List Value} {vl vu vs : Value} {Q : Value → Shared → Prop} (ht : IsTup s.heap t its.toArray) (hs : s.heap.IsSliceOf sl vl vu vs) (pl : IsPart vl none) (pu : IsPart vu none) (ps : IsPart vs (some (-1)))
    (h : Q (.ref s.heap.objs.size) { s with heap := s.heap.push { cls := .type "tuple", data := .seq its.reverse.toArray } }) (hz : its.length ≤ sizeLine) : wpAny (model prog w) A (getItem (.ref t) (.ref sl)) Q E s := by
  have htake : sizeOk (.seq its.reverse.toArray) := by
    show its.reverse.toArray.size ≤ sizeLine
    rw [List.size_toArray, List.length_reverse]
    exact hz
  obtain ⟨os, hos, hcs, hds⟩ := id hs
  have hTs : s.TypeIs (.ref sl) "slice" := ⟨os, hos, hcs⟩
  unfold getItem
  try with_reducible refine wpAny_holding ?_
  first | refine wpAny_bind (wpAny_pure ?_) | skip
  refine wpAny_bind (wpAny_sequenceKey ht.typeIs (by decide) ?_)
  refine wpAny_bind (wpAny_callSpecial?_slot (name := Str.ofString "__getitem__") ht.typeIs PyProof.Rows.slot_tuple_getitem (wpAny_call_entry PyProof.Rows.slot_tuple_getitem ht.typeIs entry_tuple_getitem ?_ (args_tuple_getitem _ _)))
  show wpAny _ _ (Builtin.Tuple.tupleItemsOf (.ref t) >>= _) _ _ s
  refine wpAny_bind (tupleItemsOf_ ht ?_)
  refine wpAny_bind (wpAny_typeOf hTs ?_)
  refine wp_if_pos (by decide) ?_
  have ap : ∀ {Q' : Int × Int × Nat → Shared → Prop} {E' : Value → Shared → Prop} {A' : Around}, Q' ((its.length : Int) - 1, -1, its.length) s → wpAny (model prog w) A' (Builtin.Slice.sliceApplied (.ref sl) (pure (its.length : Int))) Q' E' s := fun {Q' E' A'} q => by
    unfold Builtin.Slice.sliceApplied Builtin.Slice.sliceFields
    refine wpAny_bind (wpAny_bind (wpAny_field hos hds (x := vl) rfl (wpAny_bind (wpAny_field hos hds (x := vu) rfl (wpAny_bind (wpAny_field hos hds (x := vs) rfl (wpAny_pure ?_)))))))
    refine wpAny_bind (slicePart_ ps ?_)
    refine wp_if_neg (by decide) ?_
    refine wpAny_bind (slicePart_ pl (wpAny_bind (slicePart_ pu (wpAny_bind (wpAny_pure ?_)))))
    show wpAny _ _ (match Builtin.Slice.sliceAdjust none none (-1) (its.length : Int) with | (lo, hi) => pure (lo, (-1 : Int), Builtin.Slice.slicePlaces lo hi (-1))) _ _ s
    rw [rev_places]
    show wpAny _ _ (pure ((its.length : Int) - 1, (-1 : Int), Builtin.Slice.slicePlaces ((its.length : Int) - 1) (-1) (-1))) _ _ s
    rw [rev_count]
    exact wpAny_pure q
  refine wpAny_bind (m := Builtin.Slice.sliceApplied (.ref sl) (pure (its.toArray.size : Int))) ?_
  rw [List.size_toArray]
  refine ap ?_
  refine wp_if_neg (by simp) ?_
  show wpAny _ _ (Builtin.Tuple.tupleExact ((List.range its.length).filterMap fun (k : Nat) => its.toArray[((its.length : Int) - 1 + (k : Int) * -1).toNat]?).toArray >>= _) _ _ s
  rw [rev_pick]
  first
    | exact wpAny_bind (m := Builtin.Tuple.tupleExact _) (wpAny_newObj_type (wpAny_pure ⟨_, rfl, wpAny_pure h⟩) htake)
    | exact wpAny_bind (m := Builtin.Tuple.tupleExact _) (wpAny_newObj_type (wpAny_bind (wpAny_pure (wpAny_pure ⟨_, rfl, wpAny_pure h⟩))) htake)
end
def tRevT (K : PySem.W.Frag) (te : TE) : TE := fun σ H Q => te σ H fun x H1 => ∃ a xs, x = .ref a ∧ SqT K H1 a xs ∧ ∀ p, H1 p = none → Q (.ref p) (upd H1 p (.tup xs.reverse))
section
variable {X : Cx} {e a b : Expr} {f g : EM} {pos p2 p p3 : Pos}
theorem pe_revT {te : TE} {k : Nat} {p1 p2 p3 : Pos} (he : PE X e te) : PE X (.Subscript e (.Slice none none (some (.UnaryOp .USub (.Constant (.int 1) k p1) p2)) p3) pos) (tRevT X.K te) := by
  refine ⟨fun pins s σ H Q I h => ?_⟩
  refine Subscript_ (thn (he.run pins s σ H _ I h) fun v s1 ⟨x, H1, I1, r1, q1⟩ => ?_)
  obtain ⟨a, xs, ex, hx, q⟩ := q1
  subst ex
  cases r1
  have hst : PO X (some (.UnaryOp .USub (.Constant (.int 1) k p1) p2)) (tPart (tUn (rU fun i => .int (-i)) (tC (.int 1)))) := po_some (pe_un un_neg pe_int)
  refine wpAny_Slice (thn (po_none.run pins s1 σ H1 (fun o H2 => o = none ∧ H2 = H1) I1 ⟨rfl, rfl⟩) fun vl s2 ⟨l, H2, I2, pl, el, e2⟩ => ?_)
  subst el e2
  refine thn (po_none.run pins s2 σ H2 (fun o H3 => o = none ∧ H3 = H2) I2 ⟨rfl, rfl⟩) fun vu s3 ⟨u, H3, I3, pu, eu, e3⟩ => ?_
  subst eu e3
  refine thn (hst.run pins s3 σ H3 (fun o H4 => o = some (-1) ∧ H4 = H3) I3 ⟨1, rfl, -1, rfl, rfl, rfl⟩) fun vs s4 ⟨o, H4, I4, ps, eo, e4⟩ => ?_
  subst eo e4
  have I5 : Inv X pins σ H4 { s4 with heap := s4.heap.push { cls := .type "slice", data := .fields #[vl, vu, vs] } } := I4.kept (t' := s4.toks) fun b ob q => Heap.get?_push_of_some _ q
  obtain ⟨its, r, ht, hz⟩ := I5.tuple hx
  show wpAny (model X.prog X.w) X.A (subscriptTail e (.Slice none none (some (.UnaryOp .USub (.Constant (.int 1) k p1) p2)) p3) (.ref a) (.ref s4.heap.objs.size)) (EP X pins σ Q) X.xe { s4 with heap := s4.heap.push { cls := .type "slice", data := .fields #[vl, vu, vs] } }
  refine tail_any (ops := [.ref a, .ref s4.heap.objs.size]) ht.typeIs (PyProof.Rows.slot_tuple_getitem.lookup) ?_ (by with_unfolding_all rfl)
  refine revTup ht (Heap.IsSliceOf.new _ vl vu vs) pl pu ps ?_ (by rw [← r.length]; exact hz)
  refine ⟨.ref _, _, I5.laid (t' := s4.toks) (o := .tup xs.reverse) (fun b ob q => Heap.get?_push_of_some _ q) (Nat.le_refl _) ?_, rfl, q _ (I5.hok.fresh (Nat.le_refl _))⟩
  exact ⟨by rw [List.length_reverse]; exact hz, _, r.reverse, IsTup.new _ _⟩
def eRevT (f : EM) : EM := fun ρ => (f ρ).bind fun a => (match a.1.data with
  | .tuple xs => some (.d (.tuple xs.reverse))
  | _ => none : Option Rs).map fun r => (r, a.2)
theorem de_revT {k : Nat} {p1 p2 p3 : Pos} (he : DE X e f) : DE X (.Subscript e (.Slice none none (some (.UnaryOp .USub (.Constant (.int 1) k p1) p2)) p3) pos) (eRevT f) := PE.imp (pe_revT he) fun σ H Q ⟨F, B, pa, ρ, r, ρ', S, e, k⟩ => by
  obtain ⟨⟨r1, ρ1⟩, e1, e⟩ := bind_some e
  obtain ⟨r2, e4, e⟩ := map_some e
  cases e
  refine tD_take S e1 fun v B1 H1 S1 s1 d1 => ?_
  have d1 : DD X.K B1 v r1.data := d1
  change (match r1.data with
    | .tuple xs => some (Rs.d (.tuple xs.reverse))
    | _ => none) = some r at e4
  split at e4
  · rename_i xs hx
    cases e4
    rw [hx] at d1
    cases d1 with
    | tup h1 h2 =>
      refine ⟨_, _, rfl, SqT.of (S1.sb _ _ h1), fun p n => ?_⟩
      obtain ⟨B2, S2, s2, q2⟩ := (NewR.tup n h2.reverse).back S1
      exact k _ B2 _ S2 (s1.trans s2) q2
  · cases e4
end
/-! ### enumerate -/
set_option maxHeartbeats 1000000 in
theorem meets_enum1 {v : Value} {o : Obj} {H : Heap → Prop} (B : Begins v o H) :
    Meets (Builtin.«enumerate.__new__» ⟨[.type "enumerate", v], []⟩) (fun _ R s => H s.heap ∧
      R (.ok (.ret (.ref (s.heap.push o).objs.size))) { s with heap := (s.heap.push o).push { cls := .type "enumerate", data := .fields #[.none, .bool false, .ref s.heap.objs.size, rawInt 0, .none, .none] } }) :=
  .of_wp fun prog w A R s h => by
    obtain ⟨hp, g, d, tk, os⟩ := s; obtain ⟨h1, h⟩ := h
    have hsub := sub_enumerate
    have q1 : ∀ {A' : Around} {E : Value → Shared → Prop} {Q : Value → Shared → Prop}, Q (.ref hp.objs.size) ⟨hp.push o, g, d, tk, os⟩ → wpAny (model prog w) A' (pyIter v) Q E ⟨hp, g, d, tk, os⟩ :=
      fun q => B.iter prog w _ _ ⟨hp, g, d, tk, os⟩ _ h1 q
    wp_walk using q1
    refine wpAny_stack_any fun st => wpAny_pure ?_
    split
    · rename_i c _ _ _ _ _
      cases (c == Value.type "enumerate")
      · wp_walk using q1
        exact ⟨_, rfl, h⟩
      · wp_walk using q1
        exact ⟨_, rfl, h⟩
    · wp_walk using q1
      exact ⟨_, rfl, h⟩
end DL
end PDL15
section PDL16
/-! enumerate of a list or a tuple. -/
namespace DL
open PySem PySem.Spec PyProof.Rows L2
variable [TC : TabsC]

theorem enum_tup {prog : Program} {w : World} {A : Around} {E : Value → Shared → Prop} {s : Shared} {t : Addr} {items : Array Value} {Q : Value → Shared → Prop} (ht : s.heap.IsTuple t items)
    (h : ∀ h', IsEnum h' (s.heap.objs.size + 1) s.heap.objs.size 0 .none → h'.IsTupleIter s.heap.objs.size t 0 → (∀ b o, s.heap.get? b = some o → h'.get? b = some o) → Q (.ref (s.heap.objs.size + 1)) { s with heap := h' }) :
    wpAny (model prog w) A (call (.type "enumerate") [.ref t]) Q E s := by
  refine callType_new F.called_enumerate (by decide) (F.typeCall_enumerate_1 _) (F.newCall_enumerate_1 _) (fun obj => F.args_object_init_2 obj _) F.entry_enumerate_new (meets_enum1 (begins_tuple t items)) ⟨ht, ?_⟩
  generalize ho : ({ cls := .type "tuple_iterator", data := .fields #[.ref t, .int 0 0] } : Obj) = o
  have hz : (s.heap.push o).objs.size = s.heap.objs.size + 1 := Heap.size_push ..
  have h0 : (s.heap.push o).get? s.heap.objs.size = some o := Heap.get?_push_size _ (by rw [← ho]; rfl)
  show _ ∧ _
  rw [hz]
  have he : IsEnum ((s.heap.push o).push { cls := .type "enumerate", data := .fields #[.none, .bool false, .ref s.heap.objs.size, rawInt 0, .none, .none] }) (s.heap.objs.size + 1) s.heap.objs.size 0 .none := by
    have q := Heap.get?_push_size (s.heap.push o) (o := { cls := .type "enumerate", data := .fields #[.none, .bool false, .ref s.heap.objs.size, rawInt 0, .none, .none] }) rfl
    rwa [hz] at q
  refine ⟨⟨_, he, rfl⟩, h _ he ⟨o, Heap.get?_push_of_some _ h0, by rw [← ho], by rw [← ho]; rfl⟩ fun b u e => Heap.get?_push_of_some _ (Heap.get?_push_of_some _ e)⟩
/-- the tuple at a, each item in a new pair -/
def IteT (K : PySem.W.Frag) (a : Addr) (xs : List V) : It :=
  ⟨fun i H => SqT K H a xs ∧ i < xs.length, fun i H v H' => ∃ T x, v = .ref T ∧ H T = none ∧ H' = upd H T (.tup [.int (i : Nat), x]) ∧ xs[i]? = some x, fun i H => SqT K H a xs ∧ i = xs.length⟩
theorem turn_enumT {P : Program} {w : World} {K : PySem.W.Frag} {elts : List Expr} {kk : Nat} {tpos : Pos} (a e it : Addr) (xs : List V) (its : List Value) (hl : xs.length = its.length) (rv : Vals xs its) (nei : e ≠ it) (nai : a ≠ it) (nae : a ≠ e) :
    Turn P w K (.Tuple elts kk tpos) (IteT K a xs) [e, it] e (fun i h => (∃ old, IsEnum h e it ((i : Nat) : Int) old) ∧ h.IsTupleIter it a i) where
  mem := by simp
  obj := fun i h st b hb => by
    obtain ⟨⟨old, he⟩, ⟨o, ho, hc, hd⟩⟩ := st
    have e' : b = e ∨ b = it := by simpa using hb
    rcases e' with z | z
    · rw [z]; exact ⟨_, he, fun v q => nomatch q⟩
    · rw [z]; exact ⟨o, ho, fun v q => by rw [hd] at q; cases q⟩
  keep := fun i h h' st k => let ⟨⟨old, he⟩, hi⟩ := st; ⟨⟨old, k e (by simp) _ he⟩, hi.at fun o q => k it (by simp) o q⟩
  item := by
    intro X hP hw hK hc i pins s σ H E I hf st hg
    subst hP hw hK
    obtain ⟨⟨old, he⟩, hit⟩ := st
    obtain ⟨hq, hi⟩ := hg
    obtain ⟨its2, rv2, p, hz⟩ := I.tuple hq
    have hlen2 := rv2.length
    have hel : e < s.heap.objs.size := Heap.lt_size he
    have hil : it < s.heap.objs.size := by obtain ⟨_, q, _⟩ := hit; exact Heap.lt_size q
    refine wpAny_pyNext_enum_itemC (Draws.tuple (A := X.A.in1) (show X.A.in1.handled = none from I.ok.hd hc) it a nai its2.toArray) he ⟨hit, p⟩ (by rw [List.size_toArray, ← hlen2]; exact hi) nei (by simp [nei, Ne.symm nae]) fun x h' tk hPx ho hst' hT hsz hk => ?_
    obtain ⟨y, hy, ry⟩ := Vals.getU rv2 (i := i) (u := x) (by simpa using hPx)
    refine ⟨_, rfl, wpAny_letOwnedTupleGo_enum (s := { s with heap := h', toks := tk + 1 }) ho fun h'' he' sb => ?_⟩
    have hT2 : h''.get? s.heap.objs.size = some { cls := .type "tuple", data := .seq #[.int i tk, x] } := (sb.2 _ (Nat.ne_of_gt hel)).trans hT
    have new : ObjOk X.prog X.w (upd H s.heap.objs.size (.tup [.int (i : Nat), y])) h'' s.heap.objs.size (.tup [.int (i : Nat), y]) :=
      ⟨by show 2 ≤ sizeLine; decide, [.int i tk, x], .cons ⟨_, rfl⟩ (.cons ry .nil), ⟨_, hT2, rfl, _, rfl⟩⟩
    have I1 : Inv X pins σ (upd H s.heap.objs.size (.tup [.int (i : Nat), y])) { s with heap := h'', toks := tk + 1 } :=
      I.turnedNew (ch := [e, it]) (fun b ob hb q => (sb.2 b (fun z => hb (by simp [z]))).trans (hk b ob (fun z => hb (by simp [z])) (fun z => hb (by simp [z])) q)) hf (Nat.le_refl _) new
    refine ⟨.ref s.heap.objs.size, _, I1, rfl, ⟨_, y, rfl, I.hok.fresh (Nat.le_refl _), rfl, hy⟩, ⟨⟨x, ?_⟩, hst'.1.at fun o q => (sb.2 it (Ne.symm nei)).trans q⟩, fun b hb => ?_⟩
    · have e1 : ((i + 1 : Nat) : Int) = (i : Int) + 1 := by omega
      rw [e1]; exact he'
    · have hb' : b < s.heap.objs.size := by
        have e' : b = e ∨ b = it := by simpa using hb
        rcases e' with z | z
        · rw [z]; exact hel
        · rw [z]; exact hil
      rw [upd_ne (Nat.ne_of_lt hb')]
      exact (hf b hb).1
  done := by
    intro X hP hw hK hc i pins s σ H E I hf st hg
    subst hP hw hK
    obtain ⟨⟨old, he⟩, hit⟩ := st
    obtain ⟨hq, hi⟩ := hg
    obtain ⟨its2, rv2, p, hz⟩ := I.tuple hq
    have hlen2 := rv2.length
    obtain ⟨f0, f1, f2, f3, f4, f5⟩ := hf it (by simp)
    have hsz : its2.toArray.size = i := by rw [List.size_toArray, ← hlen2]; exact hi.symm
    exact wpAny_pyNext_enum_endD (Draws.tuple (A := X.A.in1) (show X.A.in1.handled = none from I.ok.hd hc) it a nai its2.toArray) he ⟨by rw [hsz]; exact hit, p⟩ fun h' eb => ⟨rfl, I.turned (t' := s.toks) (fun b o hb q => eb b o hb q) f0 f1 f3 f4 f5⟩
  self := fun A i s Q E st h => let ⟨⟨_, he⟩, _⟩ := st; wpAny_pyIter_enum he h
def iEnumT (K : PySem.W.Frag) (ta : TA) : TI := fun σ H R => ta σ H fun vs H1 => ∃ a xs, vs = [.ref a] ∧ ((SqL K H1 a xs ∧ R (Ite K a) H1) ∨ (SqT K H1 a xs ∧ H1 a ≠ none ∧ R (IteT K a xs) H1))
theorem pi_enumT {X : Cx} {e : Expr} {ta : TA} {p pos tpos : Pos} {elts : List Expr} {kk : Nat} (hg : Gl X "enumerate") (hm : X.mg "enumerate" = none) (ha : PA X [e] ta) (hs : starEach [e] X.env = [(false, eval e X.env)] := by rfl) :
    PI X (.Tuple elts kk tpos) (.Call (.Name "enumerate" p) [e] [] pos) (iEnumT X.K ta) := by
  refine ⟨fun pins s σ H R I h => ?_⟩
  refine Call_ (ld_blt I hg hm boot_enumerate (PyProof.Rows.callWith_type1 (thn (ha.run pos pins s σ H _ I h) fun us s1 ⟨vs, H1, I1, r1, q1⟩ => ?_) hs rfl))
  obtain ⟨a, xs, ex, hq⟩ := q1
  subst ex
  rw [Vals.ref1 r1]
  have fp : ∀ b ∈ [s1.heap.objs.size + 1, s1.heap.objs.size], FpOk X pins H1 b := fun b hb => by
    have e' : b = s1.heap.objs.size + 1 ∨ b = s1.heap.objs.size := by simpa using hb
    have hle : s1.heap.objs.size ≤ b := by
      rcases e' with z | z
      · rw [z]; exact Nat.le_add_right _ _
      · rw [z]; exact Nat.le_refl _
    exact I1.fpOk hle (I1.hok.fresh hle)
  rcases hq with ⟨hq, q⟩ | ⟨hq, na, q⟩
  · obtain ⟨its, rv, p', hz⟩ := I1.list hq
    refine call_enumerate_list p'.isList fun h' he hit hsz hk => wpAny_pyIter_enum he ?_
    have I2 : Inv X pins σ H1 { s1 with heap := h' } := I1.kept (t' := s1.toks) hk
    exact ⟨s1.heap.objs.size + 1, _, _, _, H1, rfl, I2, turn_enum a (s1.heap.objs.size + 1) s1.heap.objs.size, ⟨⟨.none, he⟩, hit, Nat.succ_ne_self _⟩, fp, q⟩
  · obtain ⟨its, rv, p', hz⟩ := I1.tuple hq
    have hlt : a < s1.heap.objs.size := by obtain ⟨_, z, _⟩ := p'; exact Heap.lt_size z
    refine enum_tup p' fun h' he hit hk => wpAny_pyIter_enum he ?_
    have I2 : Inv X pins σ H1 { s1 with heap := h' } := I1.kept (t' := s1.toks) hk
    exact ⟨s1.heap.objs.size + 1, _, _, _, H1, rfl, I2, turn_enumT a (s1.heap.objs.size + 1) s1.heap.objs.size xs its rv.length rv (Nat.succ_ne_self _) (Nat.ne_of_lt hlt) (Nat.ne_of_lt (Nat.lt_succ_of_lt hlt)), ⟨⟨.none, he⟩, hit⟩, fp, q⟩
section
variable {K : PySem.W.Frag} {B : Hp} {a b : Addr} {vs : List V} {ds es : List PyData}
theorem walkD_enumT (h : B a = some (.tup vs)) (d : DDs K B vs ds) : WalkD K B (IteT K a vs) (enumD ds) := by
  have hl : (enumD ds).length = ds.length := by simp [enumD]
  refine ⟨fun i H hi s => ⟨SqT.of (s _ _ h), by rw [hl] at hi; rw [d.length]; exact hi⟩, fun H s => ⟨SqT.of (s _ _ h), by rw [hl, d.length]⟩, fun i H x H' e he s y => ?_⟩
  obtain ⟨T, v, rfl, n, rfl, y⟩ := y
  obtain ⟨x, hx, rfl⟩ := enumD_at he
  obtain ⟨v', hv, hd⟩ := d.get hx
  rw [y] at hv
  cases hv
  exact .tup n (.cons (.int _) (.cons hd .nil))
end
def enum1D : List PyData → Option (List PyData)
  | [.list xs] => some (enumD xs)
  | [.tuple xs] => some (enumD xs)
  | _ => none
section
variable {X : Cx} {e : Expr} {fa : AM} {p pos tpos : Pos} {elts : List Expr} {kk : Nat}
theorem di_enum (hg : Gl X "enumerate") (hm : X.mg "enumerate" = none) (ha : DA X [e] fa) (hs : starEach [e] X.env = [(false, eval e X.env)] := by rfl) :
    DI X (.Tuple elts kk tpos) (.Call (.Name "enumerate" p) [e] [] pos) (iApp enum1D fa) := PI.imp (pi_enumT hg hm ha hs) fun σ H R ⟨F, B, pa, ρ, ds, ρ', S, e, k⟩ => by
  obtain ⟨⟨xs, ρ1⟩, e1, e⟩ := bind_some e
  obtain ⟨ys, e2, e⟩ := map_some e
  cases e
  refine ⟨F, B, pa, ρ, xs, _, S, e1, fun vs B1 H1 S1 s1 d1 => ?_⟩
  change enum1D xs = some _ at e2
  unfold enum1D at e2
  split at e2
  · cases e2
    obtain ⟨v, rfl, h⟩ := one_of d1
    cases h with
    | lst h1 g1 => exact ⟨_, _, rfl, .inl ⟨SqL.of (S1.sb _ _ h1), k _ B1 H1 S1 s1 (walkD_enum h1 g1)⟩⟩
  · cases e2
    obtain ⟨v, rfl, h⟩ := one_of d1
    cases h with
    | tup h1 g1 => exact ⟨_, _, rfl, .inr ⟨SqT.of (S1.sb _ _ h1), by rw [S1.sb _ _ h1]; simp, k _ B1 H1 S1 s1 (walkD_enumT h1 g1)⟩⟩
  · cases e2
end
end DL
end PDL16
section PDL17
/-! Own dicts with tuples as keys. -/
namespace DL
open PySem PySem.Spec PyProof.Rows L2
variable [TC : TabsC]

def keyOf1 : PyData → Option Key
  | .int i => some (.inl i)
  | .str x => some (.inr x)
  | _ => none
def keysOf : List PyData → Option (List Key)
  | [] => some []
  | d :: ds => (keyOf1 d).bind fun k => (keysOf ds).map fun ks => k :: ks
def keyOfT : PyData → Option (List Key)
  | .tuple ds => keysOf ds
  | _ => none
theorem keyOf1_eq {d : PyData} {k : Key} (h : keyOf1 d = some k) : d = keyD k := by
  cases d <;> simp [keyOf1] at h <;> subst h <;> rfl
theorem keysOf_eq : ∀ {ds : List PyData} {ks : List Key}, keysOf ds = some ks → ds = ks.map keyD
  | [], ks, h => by cases h; rfl
  | d :: ds, ks, h => by
    obtain ⟨k, e1, h⟩ := bind_some h
    obtain ⟨js, e2, h⟩ := map_some h
    subst h
    rw [keyOf1_eq e1, keysOf_eq e2, List.map_cons]
theorem keyOf1_keyD (k : Key) : keyOf1 (keyD k) = some k := by cases k <;> rfl
theorem keysOf_map : ∀ ks : List Key, keysOf (ks.map keyD) = some ks
  | [] => rfl
  | k :: ks => by
    rw [List.map_cons, keysOf, keyOf1_keyD, Option.bind_some, keysOf_map ks, Option.map_some]
theorem keyOfT_keyT (ks : List Key) : keyOfT (keyT ks) = some ks := keysOf_map ks
theorem keyOfT_eq {d : PyData} {ks : List Key} (h : keyOfT d = some ks) : d = keyT ks := by
  cases d with
  | tuple ds => exact congrArg PyData.tuple (keysOf_eq h)
  | none => cases h
  | bool _ => cases h
  | int _ => cases h
  | str _ => cases h
  | list _ => cases h
  | dict _ => cases h
theorem DDs.keys {K : PySem.W.Frag} {B : Hp} : ∀ {ks : List Key} {vs : List V}, DDs K B vs (ks.map keyD) → vs = ks.map kV
  | [], _, h => by cases h; rfl
  | k :: ks, _, h => by
    cases h with
    | cons h1 h2 =>
      rw [DDs.keys h2]
      cases k with
      | inl i => cases h1; rfl
      | inr x => cases h1; rfl
def lookD (kvs : List (PyData × PyData)) (ks : List Key) : Option PyData := (kvs.find? fun p => decide (keyOfT p.1 = some ks)).map (·.2)
theorem look_val {K : PySem.W.Frag} {B : Hp} {k : List Key} {js : List (List Key × V)} {kvs : List (PyData × PyData)} (h : Paired (fun p q => keyT p.1 = q.1 ∧ DD K B p.2 q.2) js kvs) : (lookD kvs k = none → valV js k = none) ∧ ∀ d, lookD kvs k = some d → ∃ v, valV js k = some v ∧ DD K B v d := by
  induction h with
  | nil => exact ⟨fun _ => rfl, fun d e => by cases e⟩
  | @cons p q ps qs h t ih =>
    have e1 : keyOfT q.1 = some p.1 := by rw [← h.1]; exact keyOfT_keyT _
    by_cases hk : p.1 = k
    · have e2 : lookD (q :: qs) k = some q.2 := by simp [lookD, List.find?_cons, e1, hk]
      rw [e2, valV_pos hk]
      refine ⟨fun z => ?_, fun d e => ?_⟩
      · cases z
      · cases e
        exact ⟨_, rfl, h.2⟩
    · have e2 : lookD (q :: qs) k = lookD qs k := by simp [lookD, List.find?_cons, e1, hk]
      rw [e2, valV_neg hk]
      exact ih
theorem paired_snoc {α β : Type} {R : α → β → Prop} {as : List α} {bs : List β} {a : α} {b : β} (h : Paired R as bs) (r : R a b) : Paired R (as ++ [a]) (bs ++ [b]) := by
  induction h with
  | nil => exact .cons r .nil
  | cons h t ih => exact .cons h ih
theorem paired_len {α β : Type} {R : α → β → Prop} {as : List α} {bs : List β} (h : Paired R as bs) : as.length = bs.length := by
  induction h with
  | nil => rfl
  | cons h t ih => simp [ih]
section
variable {K : PySem.W.Frag} {F B B' H H' : Hp} {pa : Nat → Option Addr} {σ : L2.St} {ρ : Rho} {v : V} {vs : List V}
theorem TabsH.dict {H : Hp} {a : Addr} {t : Bool} {kvs : List (PyData × PyData)} {K : PySem.W.Frag} {B : Hp} {o' : HO} (tb : TabsH H) (h : DictR K B H a t kvs) : TabsH (upd H a o') := by
  cases t with
  | false =>
    obtain ⟨ks, h, _⟩ := h
    exact tb.dK h
  | true =>
    obtain ⟨ks, h, _⟩ := h
    exact tb.dT h
theorem TabF.dict {F0 B0 H : Hp} {a : Addr} {t : Bool} {kvs : List (PyData × PyData)} {K : PySem.W.Frag} {B : Hp} {o' : HO} (x : TabF F0 B0 H) (h : DictR K B H a t kvs) : TabF F0 B0 (upd H a o') := ⟨x.t.dict h, x.b, x.f⟩
/-- a slot's own dict has changed, all else stands -/
theorem StR.redict (S : StR K F B pa σ H ρ) {i : Nat} {t : Bool} {kvs kvs' : List (PyData × PyData)} {a : Addr} {o : HO} (e : ρ[i]? = some (.k t kvs)) (ha : σ[i]? = some (some (V.ref a))) (hd : DictR K B (upd H a o) a t kvs') : StR K F B pa σ (upd H a o) (ρ.set i (.k t kvs')) := by
  obtain ⟨b, h1, h2, h3, h4⟩ := S.sl i _ e
  rw [ha] at h1
  cases h1
  have ca : CellAt ρ σ i a := ⟨_, e, rfl, ha⟩
  have hl : i < ρ.length := (List.getElem?_eq_some_iff.mp e).1
  refine ⟨by simp [S.len], same_off S.sb h2, same_off S.sf h3, S.tb.dict h4, S.fb, fun j s es => ?_, fun j k b c1 c2 => ?_⟩
  · by_cases hj : j = i
    · subst hj
      rw [List.getElem?_set_self hl] at es
      cases es
      exact ⟨a, ha, h2, h3, hd⟩
    · rw [List.getElem?_set_ne (Ne.symm hj)] at es
      refine (S.sl j s es).keep (Same.refl _) fun b c z => ?_
      have cb : CellAt ρ σ j b := ⟨s, es, c, z⟩
      exact ⟨(S.cellB cb).1, upd_ne fun q => hj (S.ds j i a (by rw [← q]; exact cb) ca)⟩
  · have back : ∀ {j b}, CellAt (ρ.set i (.k t kvs')) σ j b → CellAt ρ σ j b := fun {j b} c => by
      rcases c.set with ⟨hj, _, z⟩ | ⟨_, c⟩
      · subst hj
        rw [ha] at z
        cases z
        exact ca
      · exact c
    exact S.ds j k b (back c1) (back c2)
/-- a new dict in slot i -/
theorem StR.storeK (S : StR K F B pa σ H ρ) {a : Addr} {o : HO} (i : Nat) (t : Bool) (n : H a = none) (hd : DictR K B (upd H a o) a t []) : StR K F B pa (σ.set i (some (.ref a))) (upd H a o) (ρ.set i (.k t [])) := by
  have S1 := S.new (o := o) n
  have at' : ∀ {j : Nat} {s : Sl}, (ρ.set i (.k t []))[j]? = some s → (j = i ∧ s = .k t [] ∧ (σ.set i (some (V.ref a)))[j]? = some (some (V.ref a))) ∨ (j ≠ i ∧ ρ[j]? = some s ∧ (σ.set i (some (V.ref a)))[j]? = σ[j]?) := fun {j s} e => by
    by_cases hj : j = i
    · subst hj
      have hl : j < ρ.length := by
        obtain ⟨hl, _⟩ := List.getElem?_eq_some_iff.mp e
        simpa using hl
      rw [List.getElem?_set_self hl] at e
      cases e
      exact .inl ⟨rfl, rfl, List.getElem?_set_self (by rw [← S.len]; exact hl)⟩
    · rw [List.getElem?_set_ne (Ne.symm hj)] at e
      exact .inr ⟨hj, e, List.getElem?_set_ne (Ne.symm hj)⟩
  have cell : ∀ {j : Nat} {b : Addr}, CellAt (ρ.set i (.k t [])) (σ.set i (some (V.ref a))) j b → (j = i ∧ b = a) ∨ (j ≠ i ∧ CellAt ρ σ j b) := fun {j b} ⟨s, e, hc, z⟩ => by
    rcases at' e with ⟨hj, hs, e2⟩ | ⟨hj, e1, e2⟩
    · rw [e2] at z
      cases z
      exact .inl ⟨hj, rfl⟩
    · rw [e2] at z
      exact .inr ⟨hj, s, e1, hc, z⟩
  refine ⟨by simp [S.len], S1.sb, S1.sf, S1.tb, S1.fb, fun j s e => ?_, fun j k b c1 c2 => ?_⟩
  · rcases at' e with ⟨hj, hs, e2⟩ | ⟨hj, e1, e2⟩
    · subst hs
      exact ⟨a, e2, S.noB n, S.noF n, hd⟩
    · have w := S1.sl j s e1
      cases s with
      | u => trivial
      | d x => obtain ⟨u, h1, h2⟩ := w; exact ⟨u, e2.trans h1, h2⟩
      | l xs => obtain ⟨b, ws, h1, h2⟩ := w; exact ⟨b, ws, e2.trans h1, h2⟩
      | p xs => obtain ⟨b, ws, h0, h1, h2⟩ := w; exact ⟨b, ws, h0, e2.trans h1, h2⟩
      | k t kvs => obtain ⟨b, h1, h2⟩ := w; exact ⟨b, e2.trans h1, h2⟩
  · rcases cell c1 with ⟨h1, h2⟩ | ⟨h1, h2⟩
    · rcases cell c2 with ⟨g1, _⟩ | ⟨_, g2⟩
      · rw [h1, g1]
      · exact absurd (by rw [h2] at g2; exact g2) (S.noC n k)
    · rcases cell c2 with ⟨_, g2⟩ | ⟨_, g2⟩
      · exact absurd (by rw [g2] at h2; exact h2) (S.noC n j)
      · exact S.ds j k b h2 g2
end
section
variable {X : Cx} {pos : Pos} {e : Expr} {f : EM} {i : Nat}
/-- a, b = e, {} -/
def sParNew (i j : Nat) (f : EM) : SM := fun ρ => (f ρ).map fun a => .nx ((a.2.set i (.d a.1.data)).set j (.k true []))
theorem ds_parNew {i j : Nat} {x y : Str} {a : Expr} {px py pt pd : Pos} {kt k2 pt2} (hc : X.calm = true) (hN : X.N.Nodup) (hi : X.N[i]? = some x) (hj : X.N[j]? = some y) (hij : i ≠ j)
    (hx : X.env.scope.names.lookup x = some .local) (hy : X.env.scope.names.lookup y = some .local) (ha : DE X a f)
    (hw : swappedStores [.Tuple [.Name x px, .Name y py] kt pt] (.Tuple [a, .Dict [] [] pd] k2 pt2) X.env = pure (some [x, y]) := by rfl)
    (hs : swapsWithSole [.Tuple [.Name x px, .Name y py] kt pt] (.Tuple [a, .Dict [] [] pd] k2 pt2) pos.line X.env = pure false := by rfl)
    (h1 : starEach [a, .Dict [] [] pd] X.env = (false, eval a X.env) :: starEach [.Dict [] [] pd] X.env := by rfl) (h2 : starEach [.Dict [] [] pd] X.env = (false, eval (.Dict [] [] pd) X.env) :: starEach [] X.env := by rfl) :
    DS X (.Assign [.Tuple [.Name x px, .Name y py] kt pt] (.Tuple [a, .Dict [] [] pd] k2 pt2) pos) (sParNew i j f) := PS.imp (ps_par hc hN hi hj hij hx hy (pa_cons ha (pa_cons pe_dnewT pa_nil h2) h1) hw hs) fun D σ H ⟨F, B, pa, ρ, out, S, e, k⟩ => by
  obtain ⟨⟨r1, ρ1⟩, e1, e⟩ := map_some e
  cases e
  refine tD_take S e1 fun v B1 H1 S1 s1 d1 p n => ⟨_, _, rfl, ?_⟩
  have S2 := S1.store (r := .d r1.data) d1 i
  exact k _ B1 _ (S2.storeK j true n ⟨[], upd_same, .nil⟩) s1
/-- d[t], t a tuple -/
def kvsOf : Sl → Option (List (PyData × PyData))
  | .k true kvs => some kvs
  | _ => none
def eDGet (i : Nat) (f : EM) : EM := fun ρ => ((ρ[i]?).bind kvsOf).bind fun _ => (f ρ).bind fun a => (a.2[i]?).bind fun s => (kvsOf s).bind fun kvs => (keyOfT a.1.data).bind fun ks => (lookD kvs ks).map fun d => (.d d, a.2)
theorem kvsOf_eq {s : Sl} {kvs : List (PyData × PyData)} (h : kvsOf s = some kvs) : s = .k true kvs := by
  unfold kvsOf at h
  split at h
  · cases h; rfl
  · cases h
theorem de_dget {x : Str} {p : Pos} (hu : X.A.units + 64 < cLine) (ho : PE X (.Name x p) (tVar i)) (hi : DE X e f) (hs : NoSl e := by intro _ _; rfl) : DE X (.Subscript (.Name x p) e pos) (eDGet i f) := PE.imp (pe_dget (by omega) ho hi hs) fun σ H Q ⟨F, B, pa, ρ, r, ρ', S, e, k⟩ => by
  obtain ⟨kv0, e0, e⟩ := bind_some e
  obtain ⟨s0, e00, hs0⟩ := bind_some e0
  obtain ⟨⟨r1, ρ1⟩, e1, e⟩ := bind_some e
  obtain ⟨s, es, e⟩ := bind_some e
  obtain ⟨kvs, hk, e⟩ := bind_some e
  obtain ⟨ks, ek, e⟩ := bind_some e
  obtain ⟨d, el, e⟩ := map_some e
  cases e
  have hs0' := kvsOf_eq hs0
  have hk' := kvsOf_eq hk
  subst hs0' hk'
  obtain ⟨a, ha, _⟩ := S.sl i _ e00
  refine ⟨V.ref a, ha, ?_⟩
  refine tD_take S e1 fun v B1 H1 S1 s1 d1 => ?_
  have d1 : DD X.K B1 v r1.data := d1
  have ek : keyOfT r1.data = some ks := ek
  rw [keyOfT_eq ek] at d1
  obtain ⟨a', ha', _, _, js, hj, hp⟩ := S1.sl i _ es
  rw [ha] at ha'
  cases ha'
  obtain ⟨w, hw, hd⟩ := (look_val hp).2 d el
  cases d1 with
  | tup h1 h2 =>
    rw [h2.keys] at h1
    exact ⟨a, w, rfl, by rw [← hw]; exact DGet.t hj (S1.sb _ _ h1), k w B1 H1 S1 s1 hd⟩
/-- t not in d -/
def tDNot (i : Nat) (f : EM) : TM := fun ρ => (f ρ).bind fun a => (a.2[i]?).bind fun s => (kvsOf s).bind fun kvs => (keyOfT a.1.data).map fun ks => (!(lookD kvs ks).isSome, a.2)
theorem dt_dnot {x : Str} {p : Pos} (hu : X.A.units + 64 < cLine) (hi : DE X e f) (ho : PE X (.Name x p) (tVar i)) (hb : behindInMarks .NotIn (.Name x p) = false := by rfl) : DT X (.Compare e [.NotIn] [.Name x p] pos) (tDNot i f) := PT.imp (pt_cmp (pc_dnotin (by omega) hi ho) hb) fun σ H Q ⟨F, B, pa, ρ, b, ρ', S, e, k⟩ => by
  obtain ⟨⟨r1, ρ1⟩, e1, e⟩ := bind_some e
  obtain ⟨s, es, e⟩ := bind_some e
  obtain ⟨kvs, hk, e⟩ := bind_some e
  obtain ⟨ks, ek, e⟩ := map_some e
  cases e
  have hk' := kvsOf_eq hk
  subst hk'
  refine tD_take S e1 fun v B1 H1 S1 s1 d1 => ?_
  have d1 : DD X.K B1 v r1.data := d1
  have ek : keyOfT r1.data = some ks := ek
  rw [keyOfT_eq ek] at d1
  obtain ⟨a, ha, _, _, js, hj, hp⟩ := S1.sl i _ es
  cases d1 with
  | tup h1 h2 =>
    rw [h2.keys] at h1
    refine ⟨V.ref a, ha, a, _, rfl, DGet.t hj (S1.sb _ _ h1), _, rfl, ?_⟩
    have e2 : (valV js ks).isSome = (lookD kvs ks).isSome := by
      cases q : lookD kvs ks with
      | none => rw [(look_val hp).1 q]; rfl
      | some d => obtain ⟨w, hw, _⟩ := (look_val hp).2 d q; rw [hw]; rfl
    rw [e2]
    exact k B1 H1 S1 s1
/-- d[t] = e, t not there as yet -/
def sDPut (i : Nat) (f g : EM) : SM := fun ρ => (g ρ).bind fun b => ((b.2[i]?).bind kvsOf).bind fun _ => (f b.2).bind fun a => (a.2[i]?).bind fun s => (kvsOf s).bind fun kvs => (keyOfT a.1.data).bind fun ks => if lookD kvs ks = none ∧ kvs.length < sizeLine then some (.nx (a.2.set i (.k true (kvs ++ [(keyT ks, b.1.data)])))) else none
theorem ds_dput {x : Str} {p pos' : Pos} {value : Expr} {g : EM} (hu : X.A.units + 64 < cLine) (ho : PE X (.Name x p) (tVar i)) (hi : DE X e f) (hv : DE X value g) (hs : swapsWith value (some (.Subscript (.Name x p) e pos')) pos.line X.env = pure false := by rfl) :
    DS X (.Assign [.Subscript (.Name x p) e pos'] value pos) (sDPut i f g) := PS.imp (ps_dput (by omega) ho hi hv hs) fun D σ H ⟨F, B, pa, ρ, out, S, e, k⟩ => by
  obtain ⟨⟨r0, ρ0⟩, e0, e⟩ := bind_some e
  obtain ⟨kv0, e00, e⟩ := bind_some e
  obtain ⟨s0, e01, hs0⟩ := bind_some e00
  obtain ⟨⟨r1, ρ1⟩, e1, e⟩ := bind_some e
  obtain ⟨s, es, e⟩ := bind_some e
  obtain ⟨kvs, hk, e⟩ := bind_some e
  obtain ⟨ks, ek, e⟩ := bind_some e
  split at e
  · rename_i hz
    cases e
    have hs0' := kvsOf_eq hs0
    have hk' := kvsOf_eq hk
    subst hs0' hk'
    refine tD_take S e0 fun u B0 H0 S0 s0 d0 => ?_
    obtain ⟨a, ha, _⟩ := S0.sl i _ e01
    refine ⟨V.ref a, ha, ?_⟩
    refine tD_take S0 e1 fun v B1 H1 S1 s1 d1 => ?_
    have d1 : DD X.K B1 v r1.data := d1
    have d0 : DD X.K B0 u r0.data := d0
    have ek : keyOfT r1.data = some ks := ek
    rw [keyOfT_eq ek] at d1
    obtain ⟨a', ha', _, _, js, hj, hp⟩ := S1.sl i _ es
    rw [ha] at ha'
    cases ha'
    cases d1 with
    | tup h1 h2 =>
      rw [h2.keys] at h1
      refine ⟨a, _, rfl, DPut.t hj (S1.sb _ _ h1) (by rw [paired_len hp]; exact hz.2), ?_⟩
      rw [putK_new _ ((look_val hp).1 hz.1)]
      exact k σ B1 _ (S1.redict es ha ⟨_, upd_same, paired_snoc hp ⟨rfl, d0.up s1⟩⟩) (s0.trans s1)
  · cases e
end
end DL
end PDL17
section PDL18
/-! f(x, y): two own lists are handed on. -/
namespace DL
open PySem PySem.Spec PyProof.Rows L2
variable [TC : TabsC]

section
open Classical
variable {K : PySem.W.Frag} {F B B' H H' : Hp} {pa : Nat → Option Addr} {σ : L2.St} {ρ : Rho} {v : V} {vs : List V}
theorem StR.relist2 (S : StR K F B pa σ H ρ) {i i2 : Nat} {s s2 : Sl} {xs xs2 ys ys2 : List PyData} {a a2 : Addr} {ws ws2 : List V} (hne : i ≠ i2) (e : ρ[i]? = some s) (hs : listOf s = some xs) (ha : σ[i]? = some (some (V.ref a))) (e2 : ρ[i2]? = some s2) (hs2 : listOf s2 = some xs2) (ha2 : σ[i2]? = some (some (V.ref a2)))
    (sb : Same B B') (bh : Same B' H') (sf : Same F H') (tb : TabF F B' H') (fb : ∀ q, F q ≠ none → B' q = none) (hB : B' a = none) (hH : H' a = some (.lst ws)) (hd : DDs K B' ws ys) (hB2 : B' a2 = none) (hH2 : H' a2 = some (.lst ws2)) (hd2 : DDs K B' ws2 ys2)
    (oth : ∀ j b, j ≠ i → j ≠ i2 → CellAt ρ σ j b → B' b = none ∧ H' b = H b) : StR K F B' pa σ H' ((ρ.set i (withList ys s)).set i2 (withList ys2 s2)) := by
  obtain ⟨b, ws0, h1, h2, h3, h4, h5, h6⟩ := listOf_at S e hs
  rw [ha] at h1
  cases h1
  obtain ⟨b2, ws02, g1, g2, g3, g4, g5, g6⟩ := listOf_at S e2 hs2
  rw [ha2] at g1
  cases g1
  have hl : i < ρ.length := (List.getElem?_eq_some_iff.mp e).1
  have hl2 : i2 < ρ.length := (List.getElem?_eq_some_iff.mp e2).1
  have mk : ∀ {j : Nat} {t : Sl} {zs us : List PyData} {q : Addr} {ks : List V}, ρ[j]? = some t → listOf t = some zs → σ[j]? = some (some (V.ref q)) → B' q = none → F q = none → H' q = some (.lst ks) → DDs K B' ks us → SlR K F B' pa σ H' j (withList us t) := fun {j t zs us q ks} et ht hq k1 k2 k3 k4 => by
    have w := S.sl j t et
    cases t with
    | l zs => exact ⟨q, ks, hq, k1, k2, k3, k4⟩
    | p zs =>
      obtain ⟨c, _, h0, hc, _⟩ := w
      rw [hq] at hc
      cases hc
      exact ⟨q, ks, h0, hq, k1, k2, k3, k4⟩
    | u => cases ht
    | d _ => cases ht
    | k _ _ => cases ht
  refine ⟨by simp [S.len], bh, sf, tb, fb, fun j t et => ?_, fun j k b c1 c2 => ?_⟩
  · by_cases hj2 : j = i2
    · subst hj2
      rw [List.getElem?_set_self (by simpa using hl2)] at et
      cases et
      exact mk e2 hs2 ha2 hB2 g4 hH2 hd2
    · rw [List.getElem?_set_ne (Ne.symm hj2)] at et
      by_cases hj : j = i
      · subst hj
        rw [List.getElem?_set_self hl] at et
        cases et
        exact mk e hs ha hB h4 hH hd
      · rw [List.getElem?_set_ne (Ne.symm hj)] at et
        exact (S.sl j t et).keep sb fun b c z => oth j b hj hj2 ⟨t, et, c, z⟩
  · have back : ∀ {j b}, CellAt ((ρ.set i (withList ys s)).set i2 (withList ys2 s2)) σ j b → CellAt ρ σ j b := fun {j b} c => by
      rcases c.set with ⟨hj, _, z⟩ | ⟨_, c⟩
      · subst hj
        rw [ha2] at z
        cases z
        exact g2
      · rcases c.set with ⟨hj, _, z⟩ | ⟨_, c⟩
        · subst hj
          rw [ha] at z
          cases z
          exact h2
        · exact c
    exact S.ds j k b (back c1) (back c2)
noncomputable def ownB (ρ : Rho) (σ : L2.St) (H : Hp) (i j : Nat) : Hp := fun q => if ∃ k, CellAt ρ σ k q ∧ k ≠ i ∧ k ≠ j then H q else none
theorem ownB_le {i j : Nat} : Same (ownB ρ σ H i j) H := fun q o e => by
  unfold ownB at e
  split at e
  · exact e
  · cases e
theorem ownB_cell {i j : Nat} {q : Addr} (h : ownB ρ σ H i j q ≠ none) : ∃ k, CellAt ρ σ k q ∧ k ≠ i ∧ k ≠ j := by
  unfold ownB at h
  split at h
  · assumption
  · exact absurd rfl h
theorem ownB_at {i j k : Nat} {q : Addr} (c : CellAt ρ σ k q) (n : k ≠ i) (m : k ≠ j) : ownB ρ σ H i j q = H q := by
  unfold ownB
  rw [if_pos ⟨k, c, n, m⟩]
abbrev pa2 (a b : Addr) : Nat → Option Addr := fun j => if j = 0 then some a else if j = 1 then some b else none
theorem StR.callPP (S : StR K F B pa σ H ρ) {i j : Nat} {s t : Sl} {xs ys : List PyData} {a b : Addr} (hij : i ≠ j) (e : ρ[i]? = some s) (hs : listOf s = some xs) (ha : σ[i]? = some (some (V.ref a))) (e2 : ρ[j]? = some t) (ht : listOf t = some ys) (hb : σ[j]? = some (some (V.ref b))) :
    StR K (plusH F (ownB ρ σ H i j)) B (pa2 a b) ([V.ref a, V.ref b].map some) H [.p xs, .p ys] := by
  obtain ⟨a', ws0, h1, h2, h3, h4, h5, h6⟩ := listOf_at S e hs
  rw [ha] at h1
  cases h1
  obtain ⟨b', ws1, g1, g2, g3, g4, g5, g6⟩ := listOf_at S e2 ht
  rw [hb] at g1
  cases g1
  have nA : ∀ {k : Nat} {q : Addr}, CellAt ρ σ k q → (k = i ∨ k = j) → ownB ρ σ H i j q = none := fun {k q} c hk => Classical.byContradiction fun z => by
    obtain ⟨m, cm, n1, n2⟩ := ownB_cell z
    have := S.ds m k q cm c
    subst this
    rcases hk with hk | hk
    · exact n1 hk
    · exact n2 hk
  refine ⟨rfl, S.sb, plus_le S.sf ownB_le, ⟨S.tb.t, S.tb.b, S.tb.f.plus fun b ps z => (ownB_cell (by rw [z]; simp)).elim fun i c => S.noT c.1 ps (ownB_le b _ z)⟩, fun q hq => ?_, fun k u et => ?_, fun k m c c1 c2 => ?_⟩
  · by_cases hF : F q = none
    · obtain ⟨k, c, _⟩ := ownB_cell (fun z => hq (plus_none.mpr ⟨hF, z⟩))
      exact (S.cellB c).1
    · exact S.fb q hF
  · match k, et with
    | 0, et =>
      cases et
      exact ⟨a, ws0, rfl, rfl, h3, plus_none.mpr ⟨h4, nA h2 (.inl rfl)⟩, h5, h6⟩
    | 1, et =>
      cases et
      exact ⟨b, ws1, rfl, rfl, g3, plus_none.mpr ⟨g4, nA g2 (.inr rfl)⟩, g5, g6⟩
    | k + 2, et => cases et
  · obtain ⟨_, et, _, z⟩ := c1
    obtain ⟨_, et2, _, z2⟩ := c2
    have two : ∀ {k : Nat} {c : Addr}, ([V.ref a, V.ref b].map some)[k]? = some (some (V.ref c)) → (k = 0 ∧ c = a) ∨ (k = 1 ∧ c = b) := fun {k c} z => by
      match k, z with
      | 0, z => cases z; exact .inl ⟨rfl, rfl⟩
      | 1, z => cases z; exact .inr ⟨rfl, rfl⟩
      | k + 2, z => cases z
    have ne : a ≠ b := fun z => hij (S.ds i j a h2 (by rw [z]; exact g2))
    rcases two z with ⟨z1, z3⟩ | ⟨z1, z3⟩ <;> rcases two z2 with ⟨z4, z5⟩ | ⟨z4, z5⟩
    · rw [z1, z4]
    · exact absurd (z3.symm.trans z5) ne
    · exact absurd (z5.symm.trans z3) ne
    · rw [z1, z4]
end
def eCallPP (n : Nat) (G : GM) (i j : Nat) : EM := fun ρ => (ρ[i]?).bind fun s => (listOf s).bind fun xs => (ρ[j]?).bind fun t => (listOf t).bind fun ys => if i ≠ j ∧ n = 2 then
    (G [.p xs, .p ys]).bind fun b => (pOf b.2[0]?).bind fun xs' => (pOf b.2[1]?).map fun ys' => (b.1, (ρ.set i (withList xs' s)).set j (withList ys' t))
  else none
theorem tCallPP_of {K : PySem.W.Frag} {n i j : Nat} {G : GM} {E : XK} : ∀ σ H Q, tD K (eCallPP n G i j) σ H Q → tCall (spG K n G) [] E (tCons (tVar i) (tCons (tVar j) tNil)) σ H Q := fun σ H Q ⟨F', B, pa, ρ, r, ρ', S, e, k⟩ => by
  obtain ⟨s, es, e⟩ := bind_some e
  obtain ⟨xs, hs, e⟩ := bind_some e
  obtain ⟨t, et, e⟩ := bind_some e
  obtain ⟨ys, ht, e⟩ := bind_some e
  split at e
  · rename_i hn
    obtain ⟨hij, hn⟩ := hn
    obtain ⟨⟨r1, ρ2⟩, e2, e⟩ := bind_some e
    obtain ⟨xs', h0, e⟩ := bind_some e
    obtain ⟨ys', h1, e⟩ := map_some e
    cases e
    obtain ⟨a, wa, ha, ca, _⟩ := listOf_at S es hs
    obtain ⟨b, wb, hb, cb, _⟩ := listOf_at S et ht
    refine ⟨V.ref a, ha, V.ref b, hb, ?_⟩
    show spG K n G ([V.ref a, V.ref b] ++ []) H Q E
    rw [List.append_nil]
    refine ⟨_, B, _, _, _, ρ2, by simp [hn], S.callPP hij es hs ha et ht hb, fun m c z => ?_, e2, fun v B2 H2 S2 s2 q2 => ?_⟩
    · match m, z with
      | 0, z => cases z; rfl
      | 1, z => cases z; rfl
      | m + 2, z => cases z
    · obtain ⟨c0, w0, i0, i1, i2, i3, i4, i5⟩ := S2.sl 0 _ (pOf_eq h0)
      obtain ⟨c1, w1, j0, j1, j2, j3, j4, j5⟩ := S2.sl 1 _ (pOf_eq h1)
      cases i0
      cases j0
      have dis : ∀ q, ownB ρ σ H i j q ≠ none → F' q = none := fun q h => by
        obtain ⟨k, c, _⟩ := ownB_cell h
        exact (S.cellB c).2.1
      have S3 : StR K F' B2 pa σ H2 ((ρ.set i (withList xs' s)).set j (withList ys' t)) := by
        refine S.relist2 hij es hs ha et ht hb s2 S2.sb (plus_same.trans S2.sf) ⟨S2.tb.t, S2.tb.b, S.tb.f⟩ (fun q hq => S2.fb q fun z => hq (plus_none.mp z).1) i2 i4 i5 j2 j4 j5 fun m c h1 h2 cm => ?_
        have own := ownB_at (H := H) cm h1 h2
        have hne := (S.cellB cm).2.2
        refine ⟨S2.fb c fun z => hne (by rw [← own]; exact (plus_none.mp z).2), ?_⟩
        cases z : H c with
        | none => exact absurd z hne
        | some o => exact S2.sf c o (plus_right dis c o (own.trans z))
      refine k v B2 H2 S3 s2 ?_
      cases r1 with
      | d x => exact q2
      | l zs =>
        obtain ⟨c, ws, k1, k2, k3, k4, k5, k6⟩ := q2
        refine ⟨c, ws, k1, k2, (plus_none.mp k3).1, k4, k5, fun m cm => ?_⟩
        have back : CellAt ρ σ m c := by
          rcases cm.set with ⟨hj, _, z⟩ | ⟨_, cm⟩
          · subst hj
            rw [hb] at z
            cases z
            exact cb
          · rcases cm.set with ⟨hj, _, z⟩ | ⟨_, cm⟩
            · subst hj
              rw [ha] at z
              cases z
              exact ca
            · exact cm
        by_cases hm : m = i
        · subst hm
          obtain ⟨_, _, _, z⟩ := back
          rw [ha] at z
          cases z
          exact k6 0 ⟨_, pOf_eq h0, rfl, rfl⟩
        · by_cases hm2 : m = j
          · subst hm2
            obtain ⟨_, _, _, z⟩ := back
            rw [hb] at z
            cases z
            exact k6 1 ⟨_, pOf_eq h1, rfl, rfl⟩
          · have z := (plus_none.mp k3).2
            rw [ownB_at back hm hm2] at z
            exact (S.cellB back).2.2 z
  · cases e
section
variable {X : Cx} {CX : CXT} {k n i j : Nat} {f : Addr} {fd : FuncData} {ps ks : List Str} {E : XK} {x y z : Str} {p py pz pos : Pos} {G : GM}
theorem de_callPP (F : FnG X.prog X.w X.K X.mg X.base CX k f fd ps (spG X.K n G)) (hgu : X.A.guards = some []) (hr : Room k X.A) (hg : Gl X x) (hm : X.mg x = some (.ref f)) (hk : PySem.W.keepIn X.K (.ref f) = true) (hb : L2.Binds X.K fd ps []) (hx : Passes CX X E) (hp : PE X (.Name y py) (tVar i)) (hp2 : PE X (.Name z pz) (tVar j))
    (hdb : (x == ("__debug__" : Str)) = false := by decide) (he : starEach [.Name y py, .Name z pz] X.env = (false, eval (.Name y py) X.env) :: starEach [.Name z pz] X.env := by rfl) (he2 : starEach [.Name z pz] X.env = (false, eval (.Name z pz) X.env) :: starEach [] X.env := by rfl) (hpl : (backTo pos (starEach [.Name z pz] X.env)).any (·.1) = false := by rfl) :
    DE X (.Call (.Name x p) [.Name y py, .Name z pz] [] pos) (eCallPP n G i j) := PE.imp (peG_call F hgu hr hg hm hk hb .nil hx (pa_cons hp (pa_cons hp2 pa_nil he2) he) hdb he hpl) tCallPP_of
end
end DL
end PDL18
section PDL19
/-! Defs of the text that may be called. -/
namespace DL
open PySem PySem.Spec PyProof.Rows L2
variable [TC : TabsC]

/-- the def named x stands behind the top: its text st, its parameters ps -/
structure Def (K : PySem.W.Frag) (mg : Str → Option Value) (x : Str) (st : Stmt) (ps : List Str) : Prop where
  ex : ∃ (f : Addr) (fd : FuncData), Fun K x x st f fd ∧ mg x = some (.ref f) ∧ L2.Binds K fd ps [] ∧ ∀ (ks : List Str) (ix : List Nat), (∀ (kV doc pm : Value) (an : Option Addr) (cdv ct : Value) (ws : List Value), ws.length = ks.length → bindArgs (PySem.W.fnOf x x (defArgs st) (defBody st) (defScope st) .none kV doc pm an cdv ct) ⟨[], ks.zip ws⟩ = pure (ps.zip (perm ix ws))) → KB K fd ps ks ix
theorem Def.mk' {K : PySem.W.Frag} {mg : Str → Option Value} {x : Str} {st : Stmt} {ps : List Str} {f : Addr} {oc : Value} {od an : Option Addr} {osl : Array (Option Value)} {kV doc pm cdv ct : Value} (hm : mg x = some (.ref f)) (l : K.lookup f = some ⟨oc, od, .func (PySem.W.fnOf x x (defArgs st) (defBody st) (defScope st) .none kV doc pm an cdv ct), osl⟩)
    (c : PySem.W.codeIn K cdv x = true) (k : PySem.W.keepIn K (.ref f) = true) (b : ∀ (kV doc pm : Value) (an : Option Addr) (cdv ct : Value) (us : List Value), us.length = ps.length → bindArgs (PySem.W.fnOf x x (defArgs st) (defBody st) (defScope st) .none kV doc pm an cdv ct) ⟨us, []⟩ = pure (ps.zip us)) : Def K mg x st ps :=
  ⟨f, _, fun_mk l c k, hm, (fun_mk l c k).binds b, fun ks ix h => .all fun ws hl => h _ _ _ _ _ _ ws hl⟩
theorem def_mk {K : PySem.W.Frag} {h : Heap} {mg : Str → Option Value} {x : Str} {st : Stmt} {ps : List Str} {f : Addr} {oc : Value} {od an : Option Addr} {osl : Array (Option Value)} {kV doc pm cdv ct : Value} (X : K.In h) (G : h.Ns mainGlobals mg) (a : PySem.W.nsIn K mainGlobals x = some (some (.ref f)))
    (l : K.lookup f = some ⟨oc, od, .func (PySem.W.fnOf x x (defArgs st) (defBody st) (defScope st) .none kV doc pm an cdv ct), osl⟩) (c : PySem.W.codeIn K cdv x = true) (k : PySem.W.keepIn K (.ref f) = true)
    (b : ∀ (kV doc pm : Value) (an : Option Addr) (cdv ct : Value) (us : List Value), us.length = ps.length → bindArgs (PySem.W.fnOf x x (defArgs st) (defBody st) (defScope st) .none kV doc pm an cdv ct) ⟨us, []⟩ = pure (ps.zip us)) : Def K mg x st ps := Def.mk' (PySem.W.mg_of X G a) l c k b
theorem lu0 {u n : Nat} (h : u + 66 < n) : u < n := by omega
theorem lu64 {u n : Nat} (h : u + 66 < n) : u + 64 < n := by omega
theorem lu65 {u n : Nat} (h : u + 66 < n) : u + 65 < n := by omega
/-- it may be called: at k calls' room it does G -/
structure Callee (P : Program) (w : World) (K : PySem.W.Frag) (mg : Str → Option Value) (base : Heap) (k : Nat) (x : Str) (st : Stmt) (ps : List Str) (n : Nat) (G : GM) : Prop where
  ex : ∃ (f : Addr) (fd : FuncData), FnG P w K mg base CX0 k f fd ps (spG K n G) ∧ mg x = some (.ref f) ∧ PySem.W.keepIn K (.ref f) = true ∧ L2.Binds K fd ps [] ∧ ∀ (ks : List Str) (ix : List Nat), (∀ (kV doc pm : Value) (an : Option Addr) (cdv ct : Value) (ws : List Value), ws.length = ks.length → bindArgs (PySem.W.fnOf x x (defArgs st) (defBody st) (defScope st) .none kV doc pm an cdv ct) ⟨[], ks.zip ws⟩ = pure (ps.zip (perm ix ws))) → KB K fd ps ks ix
abbrev CxD (P : Program) (w : World) (K : PySem.W.Frag) (mg : Str → Option Value) (base : Heap) (N : List Str) (x : Str) (st : Stmt) (f : Addr) (cdv : Value) (A : Around) (outer : List Env) (s : Shared) (H : Hp) (E : XK) : Cx := (cxOf CX0 P w K mg base N x (defScope st) f cdv A outer s H E).nox
theorem callee {P : Program} {w : World} {K : PySem.W.Frag} {mg : Str → Option Value} {base : Heap} {k : Nat} {x : Str} {st : Stmt} {N ps : List Str} {m : Nat} {g : SM} (D : Def K mg x st ps) (S : FnScope N ps (defScope st)) (hm : N.length = ps.length + m)
    (body : ∀ (f : Addr) (cdv : Value) (A : Around) (outer : List Env) (s : Shared) (H : Hp) (E : XK), A.guards = some [] → Room k (CxD P w K mg base N x st f cdv A outer s H E).A → (CxD P w K mg base N x st f cdv A outer s H E).A.units + 66 < cLine → DSs (CxD P w K mg base N x st f cdv A outer s H E) (defBody st) g) :
    Callee P w K mg base (k + 1) x st ps ps.length (ofBody ps.length m g) := by
  obtain ⟨f, fd, F, hmg, hb, hk⟩ := D.ex
  exact ⟨f, fd, fn_data F S hm fun cdv A outer s H E hg hr => body f cdv A outer s H E hg hr (by have := hr.un; show (A.deeper (envOfC x (defScope st) s.heap.objs.size f cdv)).units + 66 < cLine; omega), hmg, F.kp, hb, hk⟩
section
variable {X : Cx} {k n i j : Nat} {ps ks : List Str} {x y z : Str} {st : Stmt} {p py pz pos : Pos} {e : Expr} {es : List Expr} {fa fk : AM} {G : GM} {kws : List Keyword}
theorem de_fn (C : Callee X.prog X.w X.K X.mg X.base k x st ps n G) (hgu : X.A.guards = some []) (hr : Room k X.A) (hg : Gl X x) (ha : DA X (e :: es) fa)
    (hdb : (x == ("__debug__" : Str)) = false := by decide) (he : starEach (e :: es) X.env = (false, eval e X.env) :: starEach es X.env := by rfl) (hpl : (backTo pos (starEach es X.env)).any (·.1) = false := by rfl) :
    DE X (.Call (.Name x p) (e :: es) [] pos) (eCall n G fa) := by
  obtain ⟨f, fd, F, hm, hk, hb, _⟩ := C.ex
  exact de_call (E := E0) F hgu hr hg hm hk hb pass0 ha hdb he hpl
theorem de_fnP (C : Callee X.prog X.w X.K X.mg X.base k x st ps n G) (hgu : X.A.guards = some []) (hr : Room k X.A) (hg : Gl X x) (hp : PE X (.Name y py) (tVar i)) (ha : DA X es fa)
    (hdb : (x == ("__debug__" : Str)) = false := by decide) (he : starEach (.Name y py :: es) X.env = (false, eval (.Name y py) X.env) :: starEach es X.env := by rfl) (hpl : (backTo pos (starEach es X.env)).any (·.1) = false := by rfl) :
    DE X (.Call (.Name x p) (.Name y py :: es) [] pos) (eCallP n G i fa) := by
  obtain ⟨f, fd, F, hm, hk, hb, _⟩ := C.ex
  exact de_callP (E := E0) F hgu hr hg hm hk hb pass0 hp ha hdb he hpl
theorem de_fnPP (C : Callee X.prog X.w X.K X.mg X.base k x st ps n G) (hgu : X.A.guards = some []) (hr : Room k X.A) (hg : Gl X x) (hp : PE X (.Name y py) (tVar i)) (hp2 : PE X (.Name z pz) (tVar j))
    (hdb : (x == ("__debug__" : Str)) = false := by decide) (he : starEach [.Name y py, .Name z pz] X.env = (false, eval (.Name y py) X.env) :: starEach [.Name z pz] X.env := by rfl) (he2 : starEach [.Name z pz] X.env = (false, eval (.Name z pz) X.env) :: starEach [] X.env := by rfl) (hpl : (backTo pos (starEach [.Name z pz] X.env)).any (·.1) = false := by rfl) :
    DE X (.Call (.Name x p) [.Name y py, .Name z pz] [] pos) (eCallPP n G i j) := by
  obtain ⟨f, fd, F, hm, hk, hb, _⟩ := C.ex
  exact de_callPP (E := E0) F hgu hr hg hm hk hb pass0 hp hp2 hdb he he2 hpl
theorem de_fnK {ix : List Nat} (C : Callee X.prog X.w X.K X.mg X.base k x st ps n G) (hgu : X.A.guards = some []) (hr : Room k X.A) (hg : Gl X x)
    (hix : ∀ (kV doc pm : Value) (an : Option Addr) (cdv ct : Value) (ws : List Value), ws.length = ks.length → bindArgs (PySem.W.fnOf x x (defArgs st) (defBody st) (defScope st) .none kV doc pm an cdv ct) ⟨[], ks.zip ws⟩ = pure (ps.zip (perm ix ws))) (hl : ks.length = n) (ha : DK X kws fk)
    (hall : (backToKw pos (keywordEach kws X.env)).all (·.1.isSome) = true := by rfl) (hks : (backToKw pos (keywordEach kws X.env)).filterMap (·.1) = ks := by rfl)
    (hdb : (x == ("__debug__" : Str)) = false := by decide) (hpl : ((backTo pos (starEach [] X.env)).any (·.1) || (backToKw pos (keywordEach kws X.env)).any (·.1.isNone)) = false := by rfl) :
    DE X (.Call (.Name x p) [] kws pos) (eCallK n ix G fk) := by
  obtain ⟨f, fd, F, hm, hk, hb, hkb⟩ := C.ex
  exact de_callK (E := E0) F hgu hr hg hm hk (hkb ks ix hix) hl pass0 ha hall hks hdb hpl
end
section
variable {X : Cx}
theorem bb_isinstance : bootBuiltins "isinstance" = some (.builtin "isinstance") := by decide +kernel
theorem bb_len : bootBuiltins "len" = some (.builtin "len") := by decide +kernel
theorem bb_all : bootBuiltins "all" = some (.builtin "all") := by decide +kernel
theorem bb_any : bootBuiltins "any" = some (.builtin "any") := by decide +kernel
theorem bb_max : bootBuiltins "max" = some (.builtin "max") := by decide +kernel
theorem bb_min : bootBuiltins "min" = some (.builtin "min") := by decide +kernel
theorem bb_sum : bootBuiltins "sum" = some (.builtin "sum") := by decide +kernel
theorem bb_abs : bootBuiltins "abs" = some (.builtin "abs") := by decide +kernel
theorem bb_divmod : bootBuiltins "divmod" = some (.builtin "divmod") := by decide +kernel
theorem bb_sorted : bootBuiltins "sorted" = some (.builtin "sorted") := by decide +kernel
theorem bb_repr : bootBuiltins "repr" = some (.builtin "repr") := by decide +kernel
theorem bb_int : bootBuiltins "int" = some (.type "int") := by decide +kernel
theorem bb_bool : bootBuiltins "bool" = some (.type "bool") := by decide +kernel
theorem bb_str : bootBuiltins "str" = some (.type "str") := by decide +kernel
theorem bb_list : bootBuiltins "list" = some (.type "list") := by decide +kernel
theorem bb_tuple : bootBuiltins "tuple" = some (.type "tuple") := by decide +kernel
theorem bb_set : bootBuiltins "set" = some (.type "set") := by decide +kernel
theorem bb_dict : bootBuiltins "dict" = some (.type "dict") := by decide +kernel
theorem de_globE {x : Str} {i : Int} {pos : Pos} (hg : Gl X x) (hm : ∃ t, X.mg x = some (.int i t)) (hd : (x == ("__debug__" : Str)) = false := by decide) : DE X (.Name x pos) (eK (.int i)) := by
  obtain ⟨t, hm⟩ := hm
  exact de_globI hg hm hd
/-! methods of a list -/
section
variable {y : Str} {e : Expr} {es : List Expr} {fa : AM} {py apos cpos : Pos} {i : Nat}
theorem de_append (hp : PE X (.Name y py) (tVar i)) (ha : DA X [e] fa)
    (hcall : ((backTo cpos (starEach [e] X.env)).all (!·.1) && (backToKw cpos (keywordEach [] X.env)).all (·.1.isSome) && decide (([e] : List Expr).length + ([] : List Keyword).length + (if ([] : List Keyword).isEmpty = true then 0 else 1) < 30)) = true := by rfl)
    (hbase : attributeBase (.Name y py) "append" X.env (eval (.Name y py) X.env) = eval (.Name y py) X.env := by rfl) (hline : (apos.endLine == cpos.line) = true := by rfl) (he : starEach [e] X.env = (false, eval e X.env) :: starEach [] X.env := by rfl) :
    DE X (.Call (.Attribute (.Name y py) "append" apos) [e] [] cpos) (eMeth opAppend i fa) := de_meth PySem.F.plainAttrs_list PySem.F.slot_list_append PySem.F.type_list_append md_append hp ha hbase hcall hline he rfl
theorem de_extend (hp : PE X (.Name y py) (tVar i)) (ha : DA X [e] fa)
    (hcall : ((backTo cpos (starEach [e] X.env)).all (!·.1) && (backToKw cpos (keywordEach [] X.env)).all (·.1.isSome) && decide (([e] : List Expr).length + ([] : List Keyword).length + (if ([] : List Keyword).isEmpty = true then 0 else 1) < 30)) = true := by rfl)
    (hbase : attributeBase (.Name y py) "extend" X.env (eval (.Name y py) X.env) = eval (.Name y py) X.env := by rfl) (hline : (apos.endLine == cpos.line) = true := by rfl) (he : starEach [e] X.env = (false, eval e X.env) :: starEach [] X.env := by rfl) :
    DE X (.Call (.Attribute (.Name y py) "extend" apos) [e] [] cpos) (eMeth opExtend i fa) := de_meth PySem.F.plainAttrs_list PySem.F.slot_list_extend PySem.F.type_list_extend md_extend hp ha hbase hcall hline he rfl
theorem de_pop0 (hp : PE X (.Name y py) (tVar i))
    (hbase : attributeBase (.Name y py) "pop" X.env (eval (.Name y py) X.env) = eval (.Name y py) X.env := by rfl) (hline : (apos.endLine == cpos.line) = true := by rfl) :
    DE X (.Call (.Attribute (.Name y py) "pop" apos) [] [] cpos) (eMeth opPop i aNil) := de_meth0 PySem.F.plainAttrs_list PySem.F.slot_list_pop PySem.F.type_list_pop md_pop hp hbase hline
end
end
end DL
end PDL19
section PDL20
/-! The end: _law_pot, law, the law's head. -/
namespace DL
open PySem PySem.Spec PyProof.Rows L2
variable [TC : TabsC]

section
variable {P : Program} {w : World} {K : PySem.W.Frag} {mg mb : Str → Option Value} {k : Nat} {fa a : Addr} {fd : FuncData} {x : Str} {sp : Sp} {s : Shared} {vs : List Value} {ns : List Int}
/-- the call from outside, H tracking the script or nothing -/
theorem outer_call {H : Hp} (KX : K.In s.heap) (hm : s.heap.Ns mainGlobals mg) (hb : s.heap.Ns builtinsNs mb) (hbb : ∀ y : Str, y ≠ "__name__" → mb y = bootBuiltins y) (nolim : s.heap.NoLimit) (nogen : s.gens = #[])
    (ha : s.heap.get? a = some { cls := .type "list", data := .seq vs.toArray }) (hr : Room k callerA) (F : ∀ base : Heap, K.In base → base.Ns mainGlobals mg → FnG P w K mg base CX0 k fa fd [x] sp) (bind : ∀ (t : Shared) (u : Value), BindsTo t fd ⟨[u], []⟩ [(x, u)])
    (onl : Only H) (hS : sp [.ref a] H (fun v _ => v = .bl true) E0) (hok : HOk P w H s.heap) (onlyA : ∀ b, H b ≠ none → b = a) (hK : H a ≠ none → K.lookup a = none) :
    codeAny (model P w) callerA (.call (.ref fa) ⟨[.ref a], []⟩) (fun r t => r = .ok (.ret (.bool true)) ∧ OldK s.heap t.heap ∧ t.os = s.os ∧ AllBare t.gens) s := by
  -- other objects than the script are not tracked
  have free : ∀ b, b ≠ a → H b = none := fun b n => Classical.byContradiction fun z => n (onlyA b z)
  have isA : ∀ {b : Addr} {o : Obj}, s.heap.get? b = some o → (∀ ys n, o.data ≠ .seq ys n) → H b = none := fun {b o} e d => free b fun z => by
    subst z
    rw [ha] at e
    cases e
    exact d _ _ rfl
  have hid : ∀ {b : Addr} {o : Obj}, s.heap.get? b = some o → H b = none → (hidT s.heap H).get? b = some o := fun e n => hidT_get e n
  have space : ∀ {b : Addr} {m : Str → Option Value}, s.heap.Ns b m → (hidT s.heap H).Ns b m := fun {b m} ⟨o, es, ep, e, d, r⟩ => ⟨o, es, ep, hid e (isA e fun ys n z => by rw [d] at z; cases z), d, r⟩
  have kin : K.In (hidT s.heap H) := fun b o e => hid (KX b o e) (Classical.byContradiction fun z => by
    have ea := onlyA b z
    subst ea
    rw [hK z] at e
    cases e)
  obtain ⟨mc, l1, l2⟩ := nolim
  have md : Mod K mg (hidT s.heap H) := ⟨kin, space hm, ⟨mb, space hb, hbb⟩, mc, space l1, l2⟩
  have e0 : Env0 P w K mg (hidT s.heap H) callerA [] s H := ⟨rfl, md, fun b o e => of_hidT e, Nat.le_of_eq (hidT_size _ _), trivial, fun b hb => absurd (show b ∈ ([] : List Addr) from hb) (by simp), hok, .of_eq nogen⟩
  refine codeAny_mono ((F _ kin (space hm)).run callerA [] s H ⟨[.ref a], []⟩ [.ref a] [.ref a] _ E0 rfl hr e0 (bind s (.ref a)) (.cons rfl .nil) hS) fun r t h => ?_
  match r, h with
  | .error _, h => exact h.elim
  | .ok .next, h => exact h.elim
  | .ok .brk, h => exact h.elim
  | .ok .cont, h => exact h.elim
  | .ok (.ret u), h =>
    obtain ⟨v, H', os, bare, un, ok', rv, e⟩ := h
    change v = .bl true at e
    subst e
    cases (show u = Value.bool true from rv)
    refine ⟨rfl, OldK.of_keep fun b o e => ?_, os, bare⟩
    rcases onl b with z | ⟨ob, xs, z⟩
    · exact un.keep b o e z (by intro q; exact absurd (show b ∈ ([] : List Addr) from q) (by simp)) (by simp)
    · obtain ⟨e1, _⟩ := hok b _ z
      obtain ⟨e2, _⟩ := ok' b _ (un.frzs b ob _ z)
      rw [e] at e1
      cases e1
      exact e2
/-- THE HEAD -/
theorem headG {l : PySem.W.OpenLaw} {n k : Nat} {q : Program} {loose : List Str} {XP : (Str → Option Value) → Heap → Prop} {YP : World → Heap → Prop} {d : DefRec} {K : Params → PySem.W.Frag} {sp : PySem.W.Frag → Sp} {x : Str} (hn : l.most = some n) (hn2 : n ≤ sizeLine) (hdf : d.params.defaults = []) (hr : Room k callerA)
    (hY : ∀ (w : World) (h : Heap), YP w h → (K w.params).In h)
    (F : ∀ (w : World) (mg : Str → Option Value) (fa : Addr) (h : Heap), (K w.params).In h → h.Ns mainGlobals mg → mg d.name = some (.ref fa) →
      ∃ fd : FuncData, (∀ (s : Shared) (u : Value), BindsTo s fd ⟨[u], []⟩ [(x, u)]) ∧ ∀ base : Heap, (K w.params).In base → base.Ns mainGlobals mg → FnG l.prog w (K w.params) mg base CX0 k fa fd [x] (sp (K w.params)))
    (hsp : ∀ (K : PySem.W.Frag) (H : Hp) (a : Addr) (ns : List Int), ns.length ≤ n → SqL K H a (ns.map V.int) → sp K [.ref a] H (fun v _ => v = .bl true) E0) :
    PySem.W.WalkO q loose XP YP l.row.toRowW d [] (fun f vs => PySem.call f vs) := by
  refine Att.attach_call hn hdf fun w s₀ s₁ mg mb fa o pm cd doc a vs ns G Y ho hd hcd hmg hobj hints hlen hg => ?_
  have KX := hY w _ Y
  obtain ⟨fd, hb, hF⟩ := F w mg fa _ KX G.T.g hmg
  have rv := vals_ints hints
  have lenV := hints.length
  have hz : ns.length ≤ sizeLine := Nat.le_trans hlen hn2
  cases hk : (K w.params).lookup a with
  | some o =>
    have e := KX a o hk
    rw [hobj] at e
    cases e
    exact outer_call (H := fun _ => none) KX G.T.g G.T.b G.T.builtins G.T.nolimit hg hobj hr hF hb (fun _ => .inl rfl) (hsp _ _ a ns hlen (.inr ⟨_, vs.toArray, _, hk, rfl, rfl, rfl, by rw [List.size_toArray, lenV]; exact hz, by simpa using rv⟩))
      (fun b u z => nomatch (show (none : Option HO) = some u from z)) (fun b z => absurd rfl z) fun z => absurd rfl z
  | none =>
    let H : Hp := fun b => if b = a then some (.frz { cls := .type "list", data := .seq vs.toArray } (.lst (ns.map V.int))) else none
    have hH : ∀ b, b ≠ a → H b = none := fun b n => if_neg n
    have hA : H a = some (.frz { cls := .type "list", data := .seq vs.toArray } (.lst (ns.map V.int))) := if_pos rfl
    refine outer_call (H := H) KX G.T.g G.T.b G.T.builtins G.T.nolimit hg hobj hr hF hb (fun b => ?_) (hsp _ _ a ns hlen (.inl (.inr ⟨_, hA⟩))) (fun b u z => ?_) (fun b z => Classical.byContradiction fun n => z (hH b n)) fun _ => hk
    · by_cases e : b = a
      · subst e
        exact .inr ⟨_, _, hA⟩
      · exact .inl (hH b e)
    · by_cases e : b = a
      · subst e
        rw [hA] at z
        cases z
        exact ⟨hobj, by rw [List.length_map]; exact hz, vs, _, rv, hobj⟩
      · rw [hH b e] at z
        cases z
end
end DL
end PDL20
section PDL21
/-! What the mirrors give: W o P, it gives something of which P holds. -/
namespace DL
open PySem PySem.Spec PyProof.Rows L2
instance dfltTabs : TabsC := ⟨[]⟩

def W {α : Type} (o : Option α) (P : α → Prop) : Prop := ∃ a, o = some a ∧ P a
section
variable {α β : Type}
@[simp] theorem W_some {a : α} {P : α → Prop} : W (some a) P ↔ P a := ⟨fun ⟨_, e, h⟩ => Option.some.inj e ▸ h, fun h => ⟨a, rfl, h⟩⟩
@[simp] theorem W_none {P : α → Prop} : W none P ↔ False := ⟨fun ⟨_, e, _⟩ => (nomatch e), False.elim⟩
@[simp] theorem W_bind {o : Option α} {k : α → Option β} {P : β → Prop} : W (o.bind k) P ↔ W o fun a => W (k a) P := by
  cases o with
  | none => simp
  | some a => simp
@[simp] theorem W_map {o : Option α} {k : α → β} {P : β → Prop} : W (o.map k) P ↔ W o fun a => P (k a) := by
  cases o with
  | none => simp
  | some a => simp
@[simp] theorem W_ite {c : Prop} [Decidable c] {a b : Option α} {P : α → Prop} : W (if c then a else b) P ↔ if c then W a P else W b P := by
  by_cases h : c <;> simp [h]
theorem W.mono {o : Option α} {P Q : α → Prop} (h : W o P) (i : ∀ a, P a → Q a) : W o Q := let ⟨a, e, p⟩ := h; ⟨a, e, i a p⟩
theorem W.of {o : Option α} {a : α} {P : α → Prop} (e : o = some a) (h : P a) : W o P := ⟨a, e, h⟩
theorem W_eq {o : Option α} {a : α} : W o (· = a) ↔ o = some a := ⟨fun ⟨_, e, h⟩ => by rw [e, h], fun e => ⟨a, e, rfl⟩⟩
end
theorem nr {α : Sort _} {a b : α} (h : a = b) : a = b := h
@[simp high] theorem x_obs {α β : Type} {a : α} {f : α → Option β} : (some a).bind f = f a := nr rfl
@[simp high] theorem x_oms {α β : Type} {a : α} {f : α → β} : (some a).map f = some (f a) := nr rfl
@[simp] theorem x_data_d (x : PyData) : (Rs.d x).data = x := nr rfl
@[simp] theorem x_data_l (x : List PyData) : (Rs.l x).data = .list x := nr rfl
@[simp] theorem x_sl_d (x : PyData) : (Rs.d x).sl = .d x := nr rfl
@[simp] theorem x_sl_l (x : List PyData) : (Rs.l x).sl = .l x := nr rfl
section
variable (ρ : Rho) (i j l n m : Nat) (f g h : EM) (fa : AM) (t u : TM) (a b : SM) (d : PyData) (G G' : PyData → PyData → Option Rs) (GL : List PyData → Option Rs) (C : GM)
@[simp] theorem x_eK : eK d ρ = some (.d d, ρ) := nr rfl
@[simp] theorem x_eNod : eNod ρ = some (.d (.dict []), ρ) := nr rfl
@[simp] theorem x_eVar : eVar i ρ = (match ρ[i]? with
  | some (.d x) => some (.d x, ρ)
  | some (.l xs) => some (.d (.list xs), ρ.set i (.d (.list xs)))
  | _ => none) := nr rfl
@[simp] theorem x_eMove : eMove i ρ = (match ρ[i]? with
  | some (.d x) => some (.d x, ρ)
  | some (.l xs) => some (.l xs, ρ.set i .u)
  | _ => none) := nr rfl
@[simp] theorem x_eBin : eBin G f g ρ = (f ρ).bind fun a => (g a.2).bind fun b => (G a.1.data b.1.data).map fun r => (r, b.2) := nr rfl
@[simp] theorem x_aNil : aNil ρ = some ([], ρ) := nr rfl
@[simp] theorem x_aCons : aCons f fa ρ = (f ρ).bind fun a => (fa a.2).map fun b => (a.1.data :: b.1, b.2) := nr rfl
@[simp] theorem x_eApp : eApp GL fa ρ = (fa ρ).bind fun a => (GL a.1).map fun r => (r, a.2) := nr rfl
@[simp] theorem x_eIsi (n : String) : eIsi n f ρ = (f ρ).bind fun a => (isiD n a.1.data).map fun b => (.d (.bool b), a.2) := nr rfl
@[simp] theorem x_eIsi2 (n m : String) : eIsi2 n m f ρ = (f ρ).bind fun a => (isiD n a.1.data).bind fun b => (isiD m a.1.data).map fun c => (.d (.bool (b || c)), a.2) := nr rfl
@[simp] theorem x_tVal : tVal f ρ = (f ρ).bind fun a => (boolOf a.1.data).map fun b => (b, a.2) := nr rfl
@[simp] theorem x_boolOf (b : Bool) : boolOf (.bool b) = some b := nr rfl
@[simp] theorem x_intOf (b : Int) : intOf (.int b) = some b := nr rfl
@[simp] theorem x_itemsL (xs : List PyData) : itemsOf (.list xs) = some xs := nr rfl
@[simp] theorem x_itemsT (xs : List PyData) : itemsOf (.tuple xs) = some xs := nr rfl
@[simp] theorem x_tAnd2 : tAnd2 t u ρ = (t ρ).bind fun a => if a.1 = true then u a.2 else some (false, a.2) := nr rfl
@[simp] theorem x_tOr2 : tOr2 t u ρ = (t ρ).bind fun a => if a.1 = true then some (true, a.2) else u a.2 := nr rfl
@[simp] theorem x_tNot2 : tNot2 t ρ = (t ρ).map fun a => (!a.1, a.2) := nr rfl
@[simp] theorem x_tAll : tAll ρ = some (true, ρ) := nr rfl
@[simp] theorem x_eAnd : eAnd f g ρ = (f ρ).bind fun a => match a.1.data with
  | .bool true => g a.2
  | .bool false => some (.d (.bool false), a.2)
  | _ => none := nr rfl
@[simp] theorem x_eOr : eOr f g ρ = (f ρ).bind fun a => match a.1.data with
  | .bool false => g a.2
  | .bool true => some (.d (.bool true), a.2)
  | _ => none := nr rfl
@[simp] theorem x_eNot : eNot f ρ = (f ρ).bind fun a => match a.1.data with
  | .bool b => some (.d (.bool (!b)), a.2)
  | _ => none := nr rfl
@[simp] theorem x_eNeg : eNeg f ρ = (f ρ).bind fun a => match a.1.data with
  | .int i => some (.d (.int (-i)), a.2)
  | _ => none := nr rfl
@[simp] theorem x_eIf : eIf t f g ρ = (t ρ).bind fun a => if a.1 = true then f a.2 else g a.2 := nr rfl
@[simp] theorem x_look : look f ρ = (f (ρ.map lookSl)).bind fun a => match a.1 with
  | .d x => if scalarD x = true then some (.d x, ρ) else none
  | _ => none := nr rfl
@[simp] theorem x_lookT : lookT t ρ = (t (ρ.map lookSl)).map fun a => (a.1, ρ) := nr rfl
@[simp] theorem x_lookSl_d : lookSl (.d d) = .d d := nr rfl
@[simp] theorem x_lookSl_l (xs : List PyData) : lookSl (.l xs) = .d (.list xs) := nr rfl
@[simp] theorem x_lookSl_p (xs : List PyData) : lookSl (.p xs) = .d (.list xs) := nr rfl
@[simp] theorem x_lookSl_u : lookSl .u = .u := nr rfl
@[simp] theorem x_lookSl_k (t : Bool) (k : List (PyData × PyData)) : lookSl (.k t k) = .u := nr rfl
@[simp] theorem x_scalar_n : scalarD .none = true := nr rfl
@[simp] theorem x_scalar_b (b : Bool) : scalarD (.bool b) = true := nr rfl
@[simp] theorem x_scalar_i (b : Int) : scalarD (.int b) = true := nr rfl
@[simp] theorem x_scalar_s (b : Str) : scalarD (.str b) = true := nr rfl
@[simp] theorem x_eChain : eChain G G' f g h ρ = (f ρ).bind fun a => (g a.2).bind fun b => (G a.1.data b.1.data).bind fun
  | .d (.bool true) => (h b.2).bind fun c => (G' b.1.data c.1.data).map fun r => (r, c.2)
  | .d (.bool false) => some (.d (.bool false), b.2)
  | _ => none := nr rfl
@[simp] theorem x_eCall : eCall n C fa ρ = (fa ρ).bind fun a => if a.1.length = n then (C (a.1.map .d)).map fun b => (b.1, a.2) else none := nr rfl
@[simp] theorem x_eCallK (ix : List Nat) : eCallK n ix C fa ρ = (fa ρ).bind fun a => if a.1.length = n ∧ (perm ix a.1).length = n then (C ((perm ix a.1).map .d)).map fun b => (b.1, a.2) else none := nr rfl
@[simp] theorem x_listOf_l (xs : List PyData) : listOf (.l xs) = some xs := nr rfl
@[simp] theorem x_listOf_p (xs : List PyData) : listOf (.p xs) = some xs := nr rfl
@[simp] theorem x_with_l (xs ys : List PyData) : withList xs (.l ys) = .l xs := nr rfl
@[simp] theorem x_with_p (xs ys : List PyData) : withList xs (.p ys) = .p xs := nr rfl
@[simp] theorem x_pOf (xs : List PyData) : pOf (some (.p xs)) = some xs := nr rfl
@[simp] theorem x_eIxN : eIxN i g ρ = ((ρ[i]?).bind listOf).bind fun _ => (g ρ).bind fun b => (b.2[i]?).bind fun s => (listOf s).bind fun xs => match b.1.data with
  | .int j => (atI xs j).map fun d => (.d d, b.2)
  | _ => none := nr rfl
@[simp] theorem x_eIxA : eIxA i g ρ = (match (ρ[i]?).bind listOf with
  | some _ => eIxN i g ρ
  | none => eBin gIx (eVar i) g ρ) := nr rfl
@[simp] theorem x_listOf_d : listOf (.d d) = none := nr rfl
@[simp] theorem x_oNone : oNone ρ = some (none, ρ) := nr rfl
@[simp] theorem x_oSome : oSome f ρ = (f ρ).bind fun a => (intOf a.1.data).map fun i => (some i, a.2) := nr rfl
@[simp] theorem x_eCut (o o' : OM) : eCut f o o' ρ = (f ρ).bind fun a => (o a.2).bind fun b => (o' b.2).bind fun c => (gCut a.1.data b.1 c.1).map fun r => (r, c.2) := nr rfl
@[simp] theorem x_gCutL (xs : List PyData) (p q : Option Int) : gCut (.list xs) p q = some (.l (cutD xs p q)) := nr rfl
@[simp] theorem x_gCutT (xs : List PyData) (p q : Option Int) : gCut (.tuple xs) p q = some (.d (.tuple (cutD xs p q))) := nr rfl
@[simp] theorem x_eRevL : eRevL f ρ = (f ρ).bind fun a => (match a.1.data with
  | .list xs => some (.l xs.reverse)
  | _ => none : Option Rs).map fun r => (r, a.2) := nr rfl
@[simp] theorem x_eRevT : eRevT f ρ = (f ρ).bind fun a => (match a.1.data with
  | .tuple xs => some (.d (.tuple xs.reverse))
  | _ => none : Option Rs).map fun r => (r, a.2) := nr rfl
@[simp] theorem x_eMeth (op : LM) : eMeth op i fa ρ = ((ρ[i]?).bind listOf).bind fun _ => (fa ρ).bind fun a => (a.2[i]?).bind fun s => (listOf s).bind fun xs => (op xs a.1).map fun b => (.d b.1, a.2.set i (withList b.2 s)) := nr rfl
@[simp] theorem x_append (xs : List PyData) (d : PyData) : opAppend xs [d] = if xs.length < sizeLine then some (.none, xs ++ [d]) else none := nr rfl
@[simp] theorem x_eListR1 : eListR1 f ρ = (f ρ).bind fun a => (intOf a.1.data).bind fun n => if rgOkB 0 n = true then some (.l (rngD 0 1 (n - 0).toNat), a.2) else none := nr rfl
@[simp] theorem x_eSortSet : eSortSet f ρ = (f ρ).bind fun a => (gSortSet a.1.data).map fun r => (r, a.2) := nr rfl
@[simp] theorem x_iSeq : iSeq f ρ = (f ρ).bind fun a => (itemsOf a.1.data).map fun xs => (xs, a.2) := nr rfl
@[simp] theorem x_iApp (gg : List PyData → Option (List PyData)) : iApp gg fa ρ = (fa ρ).bind fun a => (gg a.1).map fun xs => (xs, a.2) := nr rfl
@[simp] theorem x_gdName (r : Rs) : gdName i r ρ = some (ρ.set i r.sl) := nr rfl
@[simp] theorem x_gdNil : gdNil [] ρ = some ρ := nr rfl
@[simp] theorem x_gdCons (g : GD) (hh : GDs) (d : PyData) (ds : List PyData) : gdCons g hh (d :: ds) ρ = (g (.d d) ρ).bind (hh ds) := nr rfl
@[simp] theorem x_gdTup (hh : GDs) (ds : List PyData) : gdTup n hh (.d (.tuple ds)) ρ = if ds.length = n then hh ds ρ else none := nr rfl
theorem x_sSeq : sSeq a b ρ = (a ρ).bind fun
  | .nx ρ1 => b ρ1
  | o => some o := by
  unfold sSeq
  rfl
@[simp] theorem x_sNil : sNil ρ = some (.nx ρ) := nr rfl
@[simp] theorem x_sSet : sSet i f ρ = (f ρ).map fun a => .nx (a.2.set i a.1.sl) := nr rfl
@[simp] theorem x_sExpr : sExpr f ρ = (f ρ).map fun a => .nx a.2 := nr rfl
@[simp] theorem x_sRet : sRet f ρ = (f ρ).map fun a => .ret a.1 a.2 := nr rfl
@[simp] theorem x_sIf : sIf t a b ρ = (t ρ).bind fun c => if c.1 = true then a c.2 else b c.2 := nr rfl
@[simp] theorem x_sAsgD (gd : GD) : sAsgD gd f ρ = (f ρ).bind fun a => (gd (.d a.1.data) a.2).map .nx := nr rfl
@[simp] theorem x_sPar : sPar i j f g ρ = (f ρ).bind fun a => (g a.2).map fun b => .nx ((b.2.set i a.1.sl).set j b.1.sl) := nr rfl
@[simp] theorem x_sPar3 : sPar3 i j l fa ρ = (fa ρ).bind fun a => match a.1 with
  | [x, y, z] => some (.nx (((a.2.set i (.d x)).set j (.d y)).set l (.d z)))
  | _ => none := nr rfl
@[simp] theorem x_sParNew : sParNew i j f ρ = (f ρ).map fun a => .nx ((a.2.set i (.d a.1.data)).set j (.k true [])) := nr rfl
end
@[simp] theorem x_addI (i j : Int) : gAdd (.int i) (.int j) = some (.d (.int (i + j))) := nr rfl
@[simp] theorem x_subI (i j : Int) : DL.gSub (.int i) (.int j) = some (.d (.int (i - j))) := nr rfl
@[simp] theorem x_ltI (i j : Int) : gLt (.int i) (.int j) = some (.d (.bool (decide (i < j)))) := nr rfl
@[simp] theorem x_leI (i j : Int) : gLe (.int i) (.int j) = some (.d (.bool (decide (i ≤ j)))) := nr rfl
@[simp] theorem x_gtI (i j : Int) : gGt (.int i) (.int j) = some (.d (.bool (decide (j < i)))) := nr rfl
@[simp] theorem x_geI (i j : Int) : gGe (.int i) (.int j) = some (.d (.bool (decide (j ≤ i)))) := nr rfl
@[simp] theorem x_andI (i j : Int) : gAnd (.int i) (.int j) = some (.d (.int (Builtin.bitAnd i j))) := nr rfl
@[simp] theorem x_lenL (xs : List PyData) : gLen [.list xs] = some (.d (.int xs.length)) := nr rfl
@[simp] theorem x_lenT (xs : List PyData) : gLen [.tuple xs] = some (.d (.int xs.length)) := nr rfl
@[simp] theorem x_ixL (xs : List PyData) (i : Int) : gIx (.list xs) (.int i) = (atI xs i).map Rs.d := nr rfl
@[simp] theorem x_ixT (xs : List PyData) (i : Int) : gIx (.tuple xs) (.int i) = (atI xs i).map Rs.d := nr rfl
@[simp] theorem x_max2 (i j : Int) : gMax [.int i, .int j] = some (.d (.int (if j > i then j else i))) := nr rfl
@[simp] theorem x_min2 (i j : Int) : gMin [.int i, .int j] = some (.d (.int (if j < i then j else i))) := nr rfl
@[simp] theorem x_isN (d : PyData) (neg : Bool) : gIsB neg d .none = some (.d (.bool (xor neg (isNone d)))) := by cases d <;> rfl
@[simp] theorem x_isB (b c neg : Bool) : gIsB neg (.bool b) (.bool c) = some (.d (.bool (xor neg (b == c)))) := nr rfl
@[simp] theorem x_none_n : isNone .none = true := rfl
@[simp] theorem x_none_b (b : Bool) : isNone (.bool b) = false := rfl
@[simp] theorem x_none_i (b : Int) : isNone (.int b) = false := rfl
@[simp] theorem x_none_s (b : Str) : isNone (.str b) = false := rfl
@[simp] theorem x_none_l (b : List PyData) : isNone (.list b) = false := rfl
@[simp] theorem x_none_t (b : List PyData) : isNone (.tuple b) = false := rfl
@[simp] theorem x_at0 {α : Type} (x : α) (xs : List α) : atI (x :: xs) 0 = some x := by simp [atI, ixN]
theorem atI_nat {α : Type} (xs : List α) (i : Nat) : atI xs (i : Int) = xs[i]? := by
  unfold atI ixN
  rw [if_pos (by omega)]
  by_cases h : i < xs.length
  · rw [if_pos (by omega)]
    simp
  · rw [if_neg (by omega)]
    simp
    omega
@[simp] theorem x_at1 {α : Type} (x y : α) (xs : List α) : atI (x :: y :: xs) 1 = some y := by
  have := atI_nat (x :: y :: xs) 1
  simpa using this
@[simp] theorem x_at2 {α : Type} (x y z : α) (xs : List α) : atI (x :: y :: z :: xs) 2 = some z := by
  have := atI_nat (x :: y :: z :: xs) 2
  simpa using this
@[simp] theorem x_at3 {α : Type} (x y z u : α) (xs : List α) : atI (x :: y :: z :: u :: xs) 3 = some u := by
  have := atI_nat (x :: y :: z :: u :: xs) 3
  simpa using this
@[simp] theorem x_at4 {α : Type} (x y z u v : α) (xs : List α) : atI (x :: y :: z :: u :: v :: xs) 4 = some v := by
  have := atI_nat (x :: y :: z :: u :: v :: xs) 4
  simpa using this
/-- a statement, then the others -/
def SeqK (b : SM) (P : Out → Prop) : Out → Prop
  | .nx ρ => W (b ρ) P
  | o => P o
theorem SeqK.nx {b : SM} {P : Out → Prop} {ρ : Rho} (h : W (b ρ) P) : SeqK b P (.nx ρ) := h
theorem SeqK.ret {b : SM} {P : Out → Prop} {ρ : Rho} {r : Rs} (h : P (.ret r ρ)) : SeqK b P (.ret r ρ) := h
theorem W_seq {a b : SM} {ρ : Rho} {P : Out → Prop} (h : W (a ρ) (SeqK b P)) : W (sSeq a b ρ) P := by
  rw [x_sSeq, W_bind]
  refine h.mono fun o ho => ?_
  cases o with
  | nx ρ' => exact ho
  | ret r ρ' => exact ⟨_, rfl, ho⟩
  | bk ρ' => exact ⟨_, rfl, ho⟩
  | ct ρ' => exact ⟨_, rfl, ho⟩
theorem W_last {a : SM} {ρ : Rho} {P : Out → Prop} (h : W (a ρ) P) : W (sSeq a sNil ρ) P := W_seq (h.mono fun o ho => by
  cases o with
  | nx ρ' => exact ⟨_, rfl, ho⟩
  | ret r ρ' => exact ho
  | bk ρ' => exact ho
  | ct ρ' => exact ho)
/-- a def's body -/
def BodyK (n : Nat) (P : Rs × Rho → Prop) : Out → Prop
  | .ret r ρ => W (endOf n r ρ) P
  | .nx ρ => W (endOf n (.d .none) ρ) P
  | _ => False
theorem W_body {n m : Nat} {g : SM} {ρ : Rho} {P : Rs × Rho → Prop} (h : W (g (ρ ++ List.replicate m .u)) (BodyK n P)) : W (ofBody n m g ρ) P := by
  unfold ofBody
  rw [W_bind]
  refine h.mono fun o ho => ?_
  cases o with
  | nx ρ' => exact ho
  | ret r ρ' => exact ho
  | bk ρ' => exact ho.elim
  | ct ρ' => exact ho.elim
theorem BodyK.ret {n : Nat} {P : Rs × Rho → Prop} {r : Rs} {ρ : Rho} (hl : n ≤ ρ.length) (h : P (r, (ρ.take n).map keepP)) : BodyK n P (.ret r ρ) := ⟨_, if_pos hl, h⟩
theorem BodyK.nx {n : Nat} {P : Rs × Rho → Prop} {ρ : Rho} (hl : n ≤ ρ.length) (h : P (.d .none, (ρ.take n).map keepP)) : BodyK n P (.nx ρ) := ⟨_, if_pos hl, h⟩
@[simp] theorem x_gTup {ds : List PyData} (h : ds.length ≤ 1000) : DL.gTup ds = some (.d (.tuple ds)) := if_pos (Nat.le_trans h (by rw [sizeLine_eq]; omega))
@[simp] theorem x_gLst {ds : List PyData} (h : ds.length ≤ 1000) : DL.gLst ds = some (.l ds) := if_pos (Nat.le_trans h (by rw [sizeLine_eq]; omega))
/-! ### what is walked -/
theorem comp_map {α : Type} {is : List Nat} {gd : GD} {t : TM} {f : EM} {ρ0 : Rho} (enc : α → PyData) (p : α → Bool) (h : α → PyData) : ∀ (xs : List α) (acc : List PyData), (∀ x ∈ xs, W (gd (.d (enc x)) ρ0) fun ρ1 => W (t ρ1) fun b => b.1 = p x ∧ wipeR b.2 is = ρ0 ∧ (p x = true → W (f b.2) fun a => a.1.data = h x ∧ wipeR a.2 is = ρ0)) →
    acc.length + xs.length ≤ sizeLine → compRun is gd t f (xs.map enc) acc ρ0 = some (acc ++ (xs.filter p).map h, ρ0)
  | [], acc, _, _ => by simp [compRun]
  | x :: xs, acc, H, hz => by
    obtain ⟨ρ1, e1, ⟨b, ρ2⟩, e2, e3, e4, e5⟩ := H x List.mem_cons_self
    simp only [List.length_cons] at hz
    have ih := fun acc' hz' => comp_map enc p h xs acc' (fun y hy => H y (List.mem_cons_of_mem _ hy)) hz'
    simp only at e3 e4
    cases hp : p x with
    | false =>
      rw [hp] at e3
      simp only [List.map_cons, compRun, e1, Option.bind_some, e2, e3, Bool.false_eq_true, if_false, e4, List.filter_cons, hp]
      exact ih acc (by omega)
    | true =>
      rw [hp] at e3
      obtain ⟨⟨r, ρ3⟩, e6, e7, e8⟩ := e5 hp
      simp only at e7 e8 e6
      simp only [List.map_cons, compRun, e1, Option.bind_some, e2, e3, if_true, e6, e8, e7, List.filter_cons, hp]
      rw [if_pos (by omega), ih _ (by simp; omega)]
      simp
theorem eComp_map {α : Type} {is : List Nat} {fi : AM} {gd : GD} {t : TM} {f : EM} {ρ ρ' : Rho} (enc : α → PyData) (p : α → Bool) (h : α → PyData) (xs : List α) (e : fi ρ = some (xs.map enc, ρ'))
    (H : ∀ x ∈ xs, W (gd (.d (enc x)) (wipeR ρ' is)) fun ρ1 => W (t ρ1) fun b => b.1 = p x ∧ wipeR b.2 is = wipeR ρ' is ∧ (p x = true → W (f b.2) fun a => a.1.data = h x ∧ wipeR a.2 is = wipeR ρ' is))
    (hz : xs.length ≤ sizeLine) : eComp is fi gd t f ρ = some (.l ((xs.filter p).map h), wipeR ρ' is) := by
  unfold eComp
  rw [e, Option.bind_some, comp_map enc p h xs [] H (by simpa using hz)]
  simp
@[simp] theorem x_wipeR_nil (ρ : Rho) : wipeR ρ [] = ρ := nr rfl
@[simp] theorem x_wipeR_cons (ρ : Rho) (v : Nat) (vs : List Nat) : wipeR ρ (v :: vs) = (wipeR ρ vs).set v .u := nr rfl
theorem for_gen {α : Type} {gd : GD} {g : SM} (enc : α → PyData) (Inv : Nat → Rho → Prop) (R : Nat → Rs → Rho → Prop) : ∀ (xs : List α) (k : Nat) (ρ : Rho), Inv k ρ → (∀ i x, xs[i]? = some x → ∀ ρ, Inv (k + i) ρ → W (gd (.d (enc x)) ρ) fun ρ1 => W (g ρ1) fun
      | .nx ρ2 => Inv (k + i + 1) ρ2
      | .ct ρ2 => Inv (k + i + 1) ρ2
      | .ret r ρ2 => R (k + i) r ρ2
      | .bk _ => False) →
    W (forRun gd g (xs.map enc) ρ) fun o => (∃ ρ', o = .nx ρ' ∧ Inv (k + xs.length) ρ') ∨ ∃ i r ρ', i < xs.length ∧ o = .ret r ρ' ∧ R (k + i) r ρ'
  | [], k, ρ, h0, _ => ⟨_, rfl, .inl ⟨ρ, rfl, h0⟩⟩
  | x :: xs, k, ρ, h0, hs => by
    obtain ⟨ρ1, e1, o, e2, e3⟩ := hs 0 x rfl ρ h0
    have go : ∀ ρ2, Inv (k + 1) ρ2 → W (forRun gd g (xs.map enc) ρ2) fun o => (∃ ρ', o = .nx ρ' ∧ Inv (k + (x :: xs).length) ρ') ∨ ∃ i r ρ', i < (x :: xs).length ∧ o = .ret r ρ' ∧ R (k + i) r ρ' := fun ρ2 h2 => by
      refine (for_gen enc Inv R xs (k + 1) ρ2 h2 fun i y hy ρ3 h3 => ?_).mono fun o ho => ?_
      · have := hs (i + 1) y (by simpa using hy) ρ3 (by rw [show k + (i + 1) = k + 1 + i by omega]; exact h3)
        rw [show k + (i + 1) = k + 1 + i by omega] at this
        exact this
      · rcases ho with ⟨ρ', h4, h5⟩ | ⟨i, r, ρ', h4, h5, h6⟩
        · exact .inl ⟨ρ', h4, by rw [List.length_cons, show k + (xs.length + 1) = k + 1 + xs.length by omega]; exact h5⟩
        · exact .inr ⟨i + 1, r, ρ', by rw [List.length_cons]; omega, h5, by rw [show k + (i + 1) = k + 1 + i by omega]; exact h6⟩
    rw [List.map_cons]
    unfold forRun
    rw [e1, Option.bind_some, e2, Option.bind_some]
    cases o with
    | nx ρ2 => exact go ρ2 e3
    | ct ρ2 => exact go ρ2 e3
    | bk ρ2 => exact e3.elim
    | ret r ρ2 => exact ⟨_, rfl, .inr ⟨0, r, ρ2, by simp, rfl, e3⟩⟩
/-- a loop without a return -/
theorem for_nx {α : Type} {gd : GD} {g : SM} (enc : α → PyData) (Inv : Nat → Rho → Prop) {xs : List α} {ρ : Rho} (h0 : Inv 0 ρ) (hs : ∀ i x, xs[i]? = some x → ∀ ρ, Inv i ρ → W (gd (.d (enc x)) ρ) fun ρ1 => W (g ρ1) fun
      | .nx ρ2 => Inv (i + 1) ρ2
      | _ => False) : W (forRun gd g (xs.map enc) ρ) fun o => ∃ ρ', o = .nx ρ' ∧ Inv xs.length ρ' := by
  refine (for_gen enc Inv (fun _ _ _ => False) xs 0 ρ h0 fun i x hx ρ h => ?_).mono fun o ho => ?_
  · refine (hs i x hx ρ (by simpa using h)).mono fun ρ1 h1 => h1.mono fun o ho => ?_
    cases o with
    | nx ρ2 => simpa using ho
    | ct ρ2 => exact ho.elim
    | bk ρ2 => exact ho.elim
    | ret r ρ2 => exact ho.elim
  · rcases ho with ⟨ρ', h4, h5⟩ | ⟨i, r, ρ', h4, h5, h6⟩
    · exact ⟨ρ', h4, by simpa using h5⟩
    · exact h6.elim
theorem while_run {t : TM} {g : SM} (Inv : Nat → Rho → Prop) (Post : Rho → Prop) (hs : ∀ n ρ, Inv n ρ → W (t ρ) fun b => if b.1 = true then W (g b.2) fun
      | .nx ρ2 => ∃ m, m < n ∧ Inv m ρ2
      | _ => False
    else Post b.2) : ∀ n ρ, Inv n ρ → W (sWhile t g ρ) fun o => ∃ ρ', o = .nx ρ' ∧ Post ρ' := by
  have key : ∀ n ρ, Inv n ρ → ∃ ρ', whileN t g (n + 1) ρ = some (.nx ρ') ∧ Post ρ' := by
    intro n
    induction n using Nat.strongRecOn with
    | ind n ih =>
      intro ρ h
      obtain ⟨⟨b, ρ1⟩, e1, h1⟩ := hs n ρ h
      unfold whileN
      rw [e1, Option.bind_some]
      cases b with
      | false =>
        simp only [Bool.false_eq_true, if_false] at h1 ⊢
        exact ⟨ρ1, rfl, h1⟩
      | true =>
        simp only [if_true] at h1 ⊢
        obtain ⟨o, e2, h2⟩ := h1
        rw [e2, Option.bind_some]
        cases o with
        | nx ρ2 =>
          obtain ⟨m, hm, h3⟩ := h2
          obtain ⟨ρ', e4, h4⟩ := ih m hm ρ2 h3
          exact ⟨ρ', whileN_le e4 (by omega), h4⟩
        | ct ρ2 => exact h2.elim
        | bk ρ2 => exact h2.elim
        | ret r ρ2 => exact h2.elim
  intro n ρ h
  obtain ⟨ρ', e, hp⟩ := key n ρ h
  exact ⟨_, sWhile_of e, ρ', rfl, hp⟩
theorem comp_W {is : List Nat} {gd : GD} {t : TM} {f : EM} (Inv : Nat → List PyData → Rho → Prop) : ∀ (ds : List PyData) (k : Nat) (acc : List PyData) (ρ : Rho), Inv k acc ρ → (∀ i d, ds[i]? = some d → ∀ acc ρ, Inv (k + i) acc ρ → W (gd (.d d) ρ) fun ρ1 => W (t ρ1) fun b => if b.1 = true then W (f b.2) fun a => acc.length < sizeLine ∧ Inv (k + i + 1) (acc ++ [a.1.data]) (wipeR a.2 is) else Inv (k + i + 1) acc (wipeR b.2 is)) →
    W (compRun is gd t f ds acc ρ) fun x => Inv (k + ds.length) x.1 x.2
  | [], k, acc, ρ, h0, _ => ⟨_, rfl, h0⟩
  | d :: ds, k, acc, ρ, h0, hs => by
    obtain ⟨ρ1, e1, ⟨b, ρ2⟩, e2, h1⟩ := hs 0 d rfl acc ρ h0
    have go : ∀ acc' ρ', Inv (k + 1) acc' ρ' → W (compRun is gd t f ds acc' ρ') fun x => Inv (k + (d :: ds).length) x.1 x.2 := fun acc' ρ' h => by
      have := comp_W (is := is) (gd := gd) (t := t) (f := f) Inv ds (k + 1) acc' ρ' h fun i y hy acc ρ h3 => ?_
      · rw [show k + (d :: ds).length = k + 1 + ds.length by rw [List.length_cons]; omega]
        exact this
      · have := hs (i + 1) y (by simpa using hy) acc ρ (by rw [show k + (i + 1) = k + 1 + i by omega]; exact h3)
        rw [show k + (i + 1) = k + 1 + i by omega] at this
        exact this
    unfold compRun
    rw [e1, Option.bind_some, e2, Option.bind_some]
    cases b with
    | false =>
      simp only [Bool.false_eq_true, if_false] at h1 ⊢
      exact go _ _ h1
    | true =>
      simp only [if_true] at h1 ⊢
      obtain ⟨⟨r, ρ3⟩, e3, h2, h3⟩ := h1
      rw [e3, Option.bind_some, if_pos h2]
      exact go _ _ h3
theorem x_range1 {n : Int} (h0 : 0 ≤ n) (h : n ≤ 100000) : range1D [.int n] = some (rngD 0 1 n.toNat) := by
  unfold range1D small62
  simp only [Bool.and_eq_true, decide_eq_true_eq]
  rw [if_pos (by omega)]
@[simp] theorem x_rngD_len (a c : Int) (n : Nat) : (rngD a c n).length = n := rngD_len
theorem rngD_get {a c : Int} {n i : Nat} {d : PyData} (h : (rngD a c n)[i]? = some d) : i < n ∧ d = .int (a + i * c) := by
  refine ⟨?_, rngD_at h⟩
  have := (List.getElem?_eq_some_iff.mp h).1
  simpa using this
end DL
end PDL21
section PDL22
/-! More of what mirrors give: types, sequences, equality. -/
namespace DL
open PySem PySem.Spec PyProof.Rows L2

def isIntD : PyData → Bool
  | .int _ => true
  | _ => false
def isBoolD : PyData → Bool
  | .bool _ => true
  | _ => false
def isStrD : PyData → Bool
  | .str _ => true
  | _ => false
def isTupD : PyData → Bool
  | .tuple _ => true
  | _ => false
def isLstD : PyData → Bool
  | .list _ => true
  | _ => false
@[simp] theorem x_isi_int (d : PyData) : isiD "int" d = some (isIntD d || isBoolD d) := by
  cases d <;> (first | (show kitB _ _ = some true; decide +kernel) | (show kitB _ _ = some false; decide +kernel))
@[simp] theorem x_isi_bool (d : PyData) : isiD "bool" d = some (isBoolD d) := by
  cases d <;> (first | (show kitB _ _ = some true; decide +kernel) | (show kitB _ _ = some false; decide +kernel))
@[simp] theorem x_isi_str (d : PyData) : isiD "str" d = some (isStrD d) := by
  cases d <;> (first | (show kitB _ _ = some true; decide +kernel) | (show kitB _ _ = some false; decide +kernel))
@[simp] theorem x_isi_tup (d : PyData) : isiD "tuple" d = some (isTupD d) := by
  cases d <;> (first | (show kitB _ _ = some true; decide +kernel) | (show kitB _ _ = some false; decide +kernel))
@[simp] theorem x_isi_lst (d : PyData) : isiD "list" d = some (isLstD d) := by
  cases d <;> (first | (show kitB _ _ = some true; decide +kernel) | (show kitB _ _ = some false; decide +kernel))
@[simp] theorem x_isInt (i : Int) : isIntD (.int i) = true := rfl
@[simp] theorem x_isTup (i : List PyData) : isTupD (.tuple i) = true := rfl
@[simp] theorem x_isTupL (i : List PyData) : isTupD (.list i) = false := rfl
@[simp] theorem x_isLst (i : List PyData) : isLstD (.list i) = true := rfl
@[simp] theorem x_isLstT (i : List PyData) : isLstD (.tuple i) = false := rfl
@[simp] theorem x_isStr (i : Str) : isStrD (.str i) = true := rfl
@[simp] theorem x_isBoolI (i : Int) : isBoolD (.int i) = false := rfl
theorem isTup_ex {d : PyData} (h : isTupD d = true) : ∃ xs, d = .tuple xs := by
  cases d <;> first | exact ⟨_, rfl⟩ | cases h
theorem isInt_ex {d : PyData} (h : isIntD d = true) : ∃ i, d = .int i := by
  cases d <;> first | exact ⟨_, rfl⟩ | cases h
/-! ### data that may be compared -/
theorem depthAll_le {n : Nat} : ∀ {xs : List PyData}, (∀ x ∈ xs, x.depth ≤ n) → PyData.depthAll xs ≤ n
  | [], _ => by simp [PyData.depthAll]
  | x :: xs, h => by
    have h1 := h x List.mem_cons_self
    have h2 := depthAll_le fun y hy => h y (List.mem_cons_of_mem _ hy)
    simp only [PyData.depthAll]
    omega
theorem canAll {xs : List PyData} (h : ∀ x ∈ xs, x.canLay0 = true) : PyData.canLayAll0 xs = true := by
  induction xs with
  | nil => rfl
  | cons x xs ih =>
    simp only [PyData.canLayAll0, h x List.mem_cons_self, Bool.true_and]
    exact ih fun y hy => h y (List.mem_cons_of_mem _ hy)
theorem shapedL {xs : List PyData} (h : ∀ x ∈ xs, x.canLay0 = true ∧ x.depth ≤ 63) : SeqAt.shaped (.list xs) = true := by
  have h1 := canAll fun x hx => (h x hx).1
  have h2 := depthAll_le fun x hx => (h x hx).2
  exact Bool.and_eq_true_iff.mpr ⟨by simpa only [PyData.canLay0] using h1, decide_eq_true (by simp only [PyData.depth]; omega)⟩
theorem shapedT {xs : List PyData} (h : ∀ x ∈ xs, x.canLay0 = true ∧ x.depth ≤ 63) : SeqAt.shaped (.tuple xs) = true := by
  have h1 := canAll fun x hx => (h x hx).1
  have h2 := depthAll_le fun x hx => (h x hx).2
  exact Bool.and_eq_true_iff.mpr ⟨by simpa only [PyData.canLay0] using h1, decide_eq_true (by simp only [PyData.depth]; omega)⟩
theorem lay_ints (ns : List Int) : ∀ x ∈ ns.map PyData.int, x.canLay0 = true ∧ x.depth ≤ 0 := fun x hx => by
  obtain ⟨n, _, rfl⟩ := List.mem_map.mp hx
  exact ⟨rfl, by simp [PyData.depth]⟩
@[simp] theorem x_shaped_i (i : Int) : SeqAt.shaped (.int i) = true := by
  exact Bool.and_eq_true_iff.mpr ⟨rfl, decide_eq_true (by simp [PyData.depth])⟩
@[simp] theorem x_shaped_b (i : Bool) : SeqAt.shaped (.bool i) = true := by
  exact Bool.and_eq_true_iff.mpr ⟨rfl, decide_eq_true (by simp [PyData.depth])⟩
@[simp] theorem x_shaped_n : SeqAt.shaped .none = true := rfl
theorem shaped_ints (ns : List Int) : SeqAt.shaped (.list (ns.map .int)) = true := shapedL fun x hx => ⟨(lay_ints ns x hx).1, Nat.le_trans (lay_ints ns x hx).2 (by omega)⟩
@[simp] theorem x_eqI (i j : Int) : gEq (.int i) (.int j) = some (.d (.bool (decide (i = j)))) := by
  unfold gEq
  rw [if_pos (by simp)]
  by_cases h : i = j <;> simp [PyData.eqv, h]
@[simp] theorem x_neI (i j : Int) : gNe (.int i) (.int j) = some (.d (.bool (!decide (i = j)))) := by
  unfold gNe
  rw [if_pos (by simp)]
  by_cases h : i = j <;> simp [PyData.eqv, h]
@[simp] theorem x_neB (i j : Bool) : gNe (.bool i) (.bool j) = some (.d (.bool (xor i j))) := by
  unfold gNe
  rw [if_pos (by simp)]
  cases i <;> cases j <;> rfl
theorem eqv_nilL (xs : List PyData) : PyData.eqv (.list xs) (.list []) = xs.isEmpty := by
  cases xs <;> simp [PyData.eqv, PyData.eqvAll]
theorem ne_nil {xs : List PyData} (h : SeqAt.shaped (.list xs) = true) : gNe (.list xs) (.list []) = some (.d (.bool (!xs.isEmpty))) := by
  unfold gNe
  rw [if_pos (by rw [h]; rfl), eqv_nilL]
theorem eq_nil {xs : List PyData} (h : SeqAt.shaped (.list xs) = true) : gEq (.list xs) (.list []) = some (.d (.bool xs.isEmpty)) := by
  unfold gEq
  rw [if_pos (by rw [h]; rfl), eqv_nilL]
theorem eqvAll_ints : ∀ ns ms : List Int, PyData.eqvAll (ns.map .int) (ms.map .int) = decide (ns = ms)
  | [], [] => rfl
  | [], m :: ms => rfl
  | n :: ns, [] => rfl
  | n :: ns, m :: ms => by
    simp only [List.map_cons, PyData.eqvAll, PyData.eqv, eqvAll_ints ns ms]
    by_cases h : n = m <;> simp [h]
theorem eq_ints (ns ms : List Int) : gEq (.list (ns.map .int)) (.list (ms.map .int)) = some (.d (.bool (decide (ns = ms)))) := by
  unfold gEq
  rw [if_pos (by rw [shaped_ints, shaped_ints]; rfl)]
  simp only [PyData.eqv, eqvAll_ints]
theorem ne_ints (ns ms : List Int) : gNe (.list (ns.map .int)) (.list (ms.map .int)) = some (.d (.bool (!decide (ns = ms)))) := by
  unfold gNe
  rw [if_pos (by rw [shaped_ints, shaped_ints]; rfl)]
  simp only [PyData.eqv, eqvAll_ints]
/-- x in ints -/
theorem in_ints (neg : Bool) (n : Int) (ns : List Int) : gIn neg (.int n) (.tuple (ns.map .int)) = some (.d (.bool (xor neg (decide (n ∈ ns))))) := by
  unfold gIn
  simp only [x_itemsT, Option.bind_some]
  rw [if_pos (by rw [canAll fun x hx => (lay_ints ns x hx).1]; simp)]
  congr 4
  rw [Bool.eq_iff_iff, List.any_eq_true, decide_eq_true_eq]
  constructor
  · rintro ⟨x, hx, he⟩
    obtain ⟨m, hm, rfl⟩ := List.mem_map.mp hx
    have : m = n := by simpa [PyData.eqv] using he
    rw [← this]; exact hm
  · intro h
    exact ⟨.int n, List.mem_map.mpr ⟨n, h, rfl⟩, by simp [PyData.eqv]⟩
@[simp] theorem x_all (bs : List Bool) : gAll [.list (bs.map .bool)] = some (.d (.bool (bs.all id))) := by
  simp [gAll, boolsOf_map]
@[simp] theorem x_any (bs : List Bool) : gAny [.list (bs.map .bool)] = some (.d (.bool (bs.any id))) := by
  simp [gAny, boolsOf_map]
@[simp] theorem x_sum (ns : List Int) : gSum [.list (ns.map .int)] = some (.d (.int ns.sum)) := by
  simp [gSum, intsOf_map]
theorem sorted_L (ns : List Int) : gSorted [.list (ns.map .int)] = some (.l ((isort ns).map .int)) := by
  simp [gSorted, intsOf_map]
theorem sorted_T (ns : List Int) : gSorted [.tuple (ns.map .int)] = some (.l ((isort ns).map .int)) := by
  simp [gSorted, intsOf_map]
/-- min of ints -/
def minI (n : Int) (ns : List Int) : Int := ns.foldl min n
theorem alike_ints (ns : List Int) : alikeB (ns.map .int) = true := by
  unfold alikeB
  simp [PySem.W.alike]
theorem min_L (n : Int) (ns : List Int) : gMin [.list ((n :: ns).map .int)] = some (.d (.int (minI n ns))) := by
  unfold gMin
  have h := depthAll_le fun x hx => (lay_ints (n :: ns) x hx).2
  simp only [List.map_cons]
  rw [if_pos, PySem.W.minD_ints]
  · rfl
  · rw [Bool.and_eq_true, Bool.and_eq_true]
    refine ⟨⟨alike_ints (n :: ns), rfl⟩, decide_eq_true ?_⟩
    simp only [List.map_cons] at h
    omega
theorem minI_le (n : Int) : ∀ ns : List Int, minI n ns ≤ n ∧ ∀ x ∈ ns, minI n ns ≤ x := by
  intro ns
  unfold minI
  induction ns generalizing n with
  | nil => simp
  | cons m ns ih =>
    obtain ⟨h1, h2⟩ := ih (min n m)
    simp only [List.foldl_cons]
    refine ⟨by omega, fun x hx => ?_⟩
    rcases List.mem_cons.mp hx with rfl | hx
    · omega
    · exact h2 x hx
theorem minI_mem (n : Int) : ∀ ns : List Int, minI n ns ∈ n :: ns := by
  intro ns
  unfold minI
  induction ns generalizing n with
  | nil => simp
  | cons m ns ih =>
    simp only [List.foldl_cons]
    rcases List.mem_cons.mp (ih (min n m)) with h | h
    · rw [h]
      by_cases c : n ≤ m
      · rw [Int.min_eq_left c]; simp
      · rw [Int.min_eq_right (by omega)]; simp
    · exact List.mem_cons_of_mem _ (List.mem_cons_of_mem _ h)
theorem boolsOf_mapM {α : Type} (q : α → Bool) : ∀ xs : List α, boolsOf (xs.map fun x => PyData.bool (q x)) = some (xs.map q)
  | [] => rfl
  | x :: xs => by
    show (boolsOf (xs.map fun x => PyData.bool (q x))).map (q x :: ·) = _
    rw [boolsOf_mapM q xs]
    rfl
theorem all_M {α : Type} (xs : List α) (q : α → Bool) : gAll [.list (xs.map fun x => PyData.bool (q x))] = some (.d (.bool (xs.all q))) := by
  simp [gAll, boolsOf_mapM, List.all_map, Function.comp_def]
theorem any_M {α : Type} (xs : List α) (q : α → Bool) : gAny [.list (xs.map fun x => PyData.bool (q x))] = some (.d (.bool (xs.any q))) := by
  simp [gAny, boolsOf_mapM, List.any_map, Function.comp_def]
/-- a comprehension with a test -/
theorem W_comp {α : Type} {is : List Nat} {fi : AM} {gd : GD} {t : TM} {f : EM} {ρ ρ' : Rho} {P : Rs × Rho → Prop} (enc : α → PyData) (p : α → Bool) (h : α → PyData) (xs : List α) (e : fi ρ = some (xs.map enc, ρ'))
    (H : ∀ x ∈ xs, W (gd (.d (enc x)) (wipeR ρ' is)) fun ρ1 => W (t ρ1) fun b => b.1 = p x ∧ wipeR b.2 is = wipeR ρ' is ∧ (p x = true → W (f b.2) fun a => a.1.data = h x ∧ wipeR a.2 is = wipeR ρ' is))
    (hz : xs.length ≤ 10000) (k : P (.l ((xs.filter p).map h), wipeR ρ' is)) : W (eComp is fi gd t f ρ) P := by
  rw [eComp_map enc p h xs e H (Nat.le_trans hz (by rw [sizeLine_eq]; omega))]
  exact ⟨_, rfl, k⟩
/-- .. without one -/
theorem W_compA {α : Type} {is : List Nat} {fi : AM} {gd : GD} {f : EM} {ρ ρ' : Rho} {P : Rs × Rho → Prop} (enc : α → PyData) (h : α → PyData) (xs : List α) (e : fi ρ = some (xs.map enc, ρ'))
    (H : ∀ x ∈ xs, W (gd (.d (enc x)) (wipeR ρ' is)) fun ρ1 => wipeR ρ1 is = wipeR ρ' is ∧ W (f ρ1) fun a => a.1.data = h x ∧ wipeR a.2 is = wipeR ρ' is)
    (hz : xs.length ≤ 10000) (k : P (.l (xs.map h), wipeR ρ' is)) : W (eComp is fi gd tAll f ρ) P := by
  refine W_comp enc (fun _ => true) h xs e (fun x hx => (H x hx).mono fun ρ1 ⟨h1, h2⟩ => ?_) hz (by rw [List.filter_eq_self.mpr (fun _ _ => rfl)]; exact k)
  exact ⟨_, rfl, rfl, h1, fun _ => h2⟩
/-- .. whose turns change more than the block's own slots -/
theorem W_compI {is : List Nat} {fi : AM} {gd : GD} {t : TM} {f : EM} {ρ ρ' : Rho} {P : Rs × Rho → Prop} (Inv : Nat → List PyData → Rho → Prop) (ds : List PyData) (e : fi ρ = some (ds, ρ')) (h0 : Inv 0 [] (wipeR ρ' is))
    (hs : ∀ i d, ds[i]? = some d → ∀ acc ρ, Inv i acc ρ → W (gd (.d d) ρ) fun ρ1 => W (t ρ1) fun b => if b.1 = true then W (f b.2) fun a => acc.length < sizeLine ∧ Inv (i + 1) (acc ++ [a.1.data]) (wipeR a.2 is) else Inv (i + 1) acc (wipeR b.2 is))
    (k : ∀ acc ρ, Inv ds.length acc ρ → P (.l acc, ρ)) : W (eComp is fi gd t f ρ) P := by
  unfold eComp
  rw [e, x_obs, W_map]
  refine (comp_W Inv ds 0 [] (wipeR ρ' is) h0 fun i d hd acc ρ h => ?_).mono fun x h => ?_
  · rw [Nat.zero_add] at h ⊢
    exact hs i d hd acc ρ h
  · rw [Nat.zero_add] at h
    exact k _ _ h
theorem cut1 (xs : List PyData) : DL.cutD xs (some 1) none = xs.drop 1 := by
  unfold DL.cutD HT.sIx
  simp
  cases xs <;> simp
end DL
end PDL22
section PDL23
/-! Small trees: what repr and == ask of data. -/
namespace DL
open PySem PySem.Spec PyProof.Rows L2

theorem so_append {a b : Str} (h : PyData.strOk a = true) (h' : PyData.strOk b = true) : PyData.strOk (a ++ b) = true := by
  show (a.cps ++ b.cps).all _ = true
  rw [Array.all_append, Bool.and_eq_true]
  exact ⟨h, h'⟩
theorem so_ofString (s : String) : PyData.strOk (Str.ofString s) = true := by
  rw [Str.ofString_eq_toList]
  show (List.toArray _).all _ = true
  rw [List.all_toArray, List.all_eq_true]
  intro c hc
  obtain ⟨x, _, rfl⟩ := List.mem_map.mp hc
  rw [decide_eq_true_eq]
  have := x.valid
  rcases this with h | h
  · have : x.toNat < 0xd800 := h
    omega
  · exact h.2
theorem so_textFrom : ∀ (ts : List Str) (k : Nat) (acc : Str), PyData.strOk acc = true → (∀ t ∈ ts, PyData.strOk t = true) → PyData.strOk (textFrom k acc ts) = true
  | [], _, acc, h, _ => h
  | t :: ts, k, acc, h, ht => so_textFrom ts (k + 1) _ (so_append (so_append h (so_ofString _)) (ht t List.mem_cons_self)) fun x hx => ht x (List.mem_cons_of_mem _ hx)
theorem so_listText {ts : List Str} (ht : ∀ t ∈ ts, PyData.strOk t = true) : PyData.strOk (listText ts) = true := so_append (so_textFrom ts 0 _ (so_ofString _) ht) (so_ofString _)
theorem so_join : ∀ ts : List Str, (∀ t ∈ ts, PyData.strOk t = true) → PyData.strOk (Str.join ", " ts) = true
  | [], _ => by decide +kernel
  | [x], h => h x (by simp)
  | x :: y :: r, h => so_append (so_append (h x (by simp)) (so_ofString _)) (so_join (y :: r) fun t ht => h t (List.mem_cons_of_mem _ ht))
theorem so_tupleText {ts : List Str} (ht : ∀ t ∈ ts, PyData.strOk t = true) : PyData.strOk (tupleText ts) = true := so_append (so_append (so_ofString _) (so_join ts ht)) (so_ofString _)
/-- small data: of depth at most n, of weight at most w -/
structure Fit (n w : Nat) (d : PyData) : Prop where
  can : d.canLay0 = true
  dep : d.depth ≤ n
  wt : d.weight ≤ w
  sh : d.showable = true
  nod : d.hasDict = false
  lv : d.intsShort 13 = true
  so : PyData.strOk d.shown = true
section
variable {n w : Nat} {d : PyData}
theorem Fit.up (h : Fit n w d) {n' w' : Nat} (hn : n ≤ n') (hw : w ≤ w') : Fit n' w' d := ⟨h.can, Nat.le_trans h.dep hn, Nat.le_trans h.wt hw, h.sh, h.nod, h.lv, h.so⟩
theorem Fit.int {i : Int} (h : i.natAbs < 10 ^ 12) : Fit 0 41 (.int i) := by
  have h40 : (10 : Nat) ^ 12 ≤ 2 ^ 40 := by decide
  have hl : i ≠ 0 → i.natAbs.log2 < 40 := fun z => (Nat.log2_lt (by omega)).mpr (by omega)
  refine ⟨rfl, by simp [PyData.depth], ?_, ?_, rfl, ?_, so_ofString _⟩
  · simp only [PyData.weight, beq_iff_eq]
    split
    · omega
    · rename_i z
      have := hl z
      omega
  · simp only [PyData.showable, decide_eq_true_eq]
    by_cases z : i = 0
    · subst z; decide
    · have := hl z
      omega
  · simp only [PyData.intsShort, decide_eq_true_eq]
    exact PyData.shown_int_le h
theorem Fit.bool (b : Bool) : Fit 0 0 (.bool b) := ⟨rfl, by simp [PyData.depth], by simp [PyData.weight], rfl, rfl, rfl, by cases b <;> exact so_ofString _⟩
theorem Fit.none : Fit 0 0 .none := ⟨rfl, by simp [PyData.depth], by simp [PyData.weight], rfl, rfl, rfl, so_ofString _⟩
theorem Fit.str {x : Str} {w : Nat} (h : PyData.strOk x = true) (h2 : PyData.strOk (reprText x) = true) (hw : x.cps.size ≤ w) : Fit 0 w (.str x) := ⟨h, by simp [PyData.depth], by simpa [PyData.weight] using hw, rfl, rfl, rfl, h2⟩
theorem shownAll_mem : ∀ {xs : List PyData} {t : Str}, t ∈ PyData.shownAll xs → ∃ x ∈ xs, t = x.shown
  | [], _, h => by cases h
  | x :: xs, t, h => by
    simp only [PyData.shownAll, List.mem_cons] at h
    rcases h with rfl | h
    · exact ⟨x, by simp, rfl⟩
    · obtain ⟨y, h1, h2⟩ := shownAll_mem h
      exact ⟨y, by simp [h1], h2⟩
theorem weightAll_le : ∀ {xs : List PyData}, (∀ x ∈ xs, x.weight ≤ w) → PyData.weightAll xs ≤ xs.length * (w + 1)
  | [], _ => by simp [PyData.weightAll]
  | x :: xs, h => by
    have h1 := h x List.mem_cons_self
    have h2 := weightAll_le fun y hy => h y (List.mem_cons_of_mem _ hy)
    simp only [PyData.weightAll, List.length_cons, Nat.add_mul]
    omega
theorem all_show : ∀ {xs : List PyData}, (∀ x ∈ xs, Fit n w x) → PyData.showableAll xs = true ∧ PyData.hasDictAll xs = false ∧ PyData.intsShortAll 13 xs = true
  | [], _ => ⟨rfl, rfl, rfl⟩
  | x :: xs, h => by
    have h1 := h x List.mem_cons_self
    obtain ⟨a, b, c⟩ := all_show fun y hy => h y (List.mem_cons_of_mem _ hy)
    simp [PyData.showableAll, PyData.hasDictAll, PyData.intsShortAll, h1.sh, h1.nod, h1.lv, a, b, c]
theorem Fit.list {xs : List PyData} {k : Nat} (h : ∀ x ∈ xs, Fit n w x) (hk : xs.length ≤ k) : Fit (n + 1) (k * (w + 1)) (.list xs) := by
  obtain ⟨a, b, c⟩ := all_show h
  have h1 := canAll fun x hx => (h x hx).can
  have h2 := depthAll_le fun x hx => (h x hx).dep
  have h3 := weightAll_le fun x hx => (h x hx).wt
  have h4 : xs.length * (w + 1) ≤ k * (w + 1) := Nat.mul_le_mul_right _ hk
  refine ⟨by simpa only [PyData.canLay0] using h1, by simp only [PyData.depth]; omega, by simp only [PyData.weight]; omega, by simpa only [PyData.showable] using a, by simpa only [PyData.hasDict] using b, by simpa only [PyData.intsShort] using c, ?_⟩
  show PyData.strOk (listText (PyData.shownAll xs)) = true
  exact so_listText fun t ht => by
    obtain ⟨x, hx, rfl⟩ := shownAll_mem ht
    exact (h x hx).so
theorem Fit.tup {xs : List PyData} {k : Nat} (h : ∀ x ∈ xs, Fit n w x) (hk : xs.length ≤ k) : Fit (n + 1) (k * (w + 1)) (.tuple xs) := by
  obtain ⟨a, b, c⟩ := all_show h
  have h1 := canAll fun x hx => (h x hx).can
  have h2 := depthAll_le fun x hx => (h x hx).dep
  have h3 := weightAll_le fun x hx => (h x hx).wt
  have h4 : xs.length * (w + 1) ≤ k * (w + 1) := Nat.mul_le_mul_right _ hk
  refine ⟨by simpa only [PyData.canLay0] using h1, by simp only [PyData.depth]; omega, by simp only [PyData.weight]; omega, by simpa only [PyData.showable] using a, by simpa only [PyData.hasDict] using b, by simpa only [PyData.intsShort] using c, ?_⟩
  show PyData.strOk (tupleText (PyData.shownAll xs)) = true
  exact so_tupleText fun t ht => by
    obtain ⟨x, hx, rfl⟩ := shownAll_mem ht
    exact (h x hx).so
theorem Fit.shaped (h : Fit n w d) (hn : n ≤ 63) : SeqAt.shaped d = true := Bool.and_eq_true_iff.mpr ⟨h.can, decide_eq_true (by have := h.dep; omega)⟩
theorem Fit.reprOk (h : Fit n w d) (hn : n ≤ 60) (hw : w ≤ 1000000) : reprOk d = true := by
  have e : (2 : Nat) ^ 20 = 1048576 := by decide
  have hw2 : d.weight ≤ 2 ^ 20 := by
    have := h.wt
    omega
  have h1 := PyData.shown_fits (B := 13) (by omega) (by omega) (PyData.leavesShort_of_canLay0 13 d h.can h.lv) hw2
  have hp : plainD d = true := by
    have := h.nod
    cases d <;> first | (simp [PyData.hasDict] at this; done) | (simp [plainD, this])
  have := h.dep
  show (d.showable && plainD d && decide (d.depth ≤ 60) && decide (d.shown.length ≤ sizeLine)) = true
  rw [h.sh, hp, decide_eq_true (show d.depth ≤ 60 by omega), decide_eq_true h1]
  rfl
theorem Fit.repr (h : Fit n w d) (hn : n ≤ 60 := by omega) (hw : w ≤ 1000000 := by omega) : gRepr [d] = some (.d (.str d.shown)) := by
  have e := h.reprOk hn hw
  show (if DL.reprOk d = true then some (Rs.d (PyData.str d.shown)) else Option.none) = _
  rw [if_pos e]
theorem shaped_str {x : Str} (h : PyData.strOk x = true) : SeqAt.shaped (.str x) = true := Bool.and_eq_true_iff.mpr ⟨h, decide_eq_true (by simp [PyData.depth])⟩
theorem ne_self {x : Str} (h : PyData.strOk x = true) : gNe (.str x) (.str x) = some (.d (.bool false)) := by
  unfold gNe
  rw [if_pos (by rw [shaped_str h]; rfl)]
  simp [PyData.eqv]
theorem eq_self {x : Str} (h : PyData.strOk x = true) : gEq (.str x) (.str x) = some (.d (.bool true)) := by
  unfold gEq
  rw [if_pos (by rw [shaped_str h]; rfl)]
  simp [PyData.eqv]
end
end DL
end PDL23
section PDL24
set_option maxHeartbeats 1000000
/-! try with several clauses "except C as e", each exception caught by one of them. -/
namespace DL
open PySem PySem.Spec PyProof.Rows L2

/-- a clause: the class that it names, what its suite does -/
abbrev Clz := Value × (Addr → Value → Option Addr → TS)
/-- the ends of a suite whose name goes at the end -/
def gone (i : Nat) (D : Ends) : Ends := { nx := fun σ H => D.nx (σ.set i none) H, rt := D.rt, bk := fun σ H => D.bk (σ.set i none) H, ct := fun σ H => D.ct (σ.set i none) H }
/-- what the clauses want of an exception -/
def wCl (K : PySem.W.Frag) (i : Nat) (D : Ends) : List Clz → WX
  | [] => fun _ _ _ _ => False
  | q :: r => fun cls d σ H => ∃ b, PySem.W.exmOne K cls q.1 = some b ∧ (b = true → ∀ a, H a = none → q.2 a cls d (gone i D) (σ.set i (some (.ref a))) H) ∧ (b = false → wCl K i D r cls d σ H)
inductive ClOk (X : Cx) (n : Str) : List ExceptHandler → List Clz → Prop
  | nil : ClOk X n [] []
  | cons {x : Str} {q : Clz} {s1 : Stmt} {ss : List Stmt} {px ph : Pos} {hs : List ExceptHandler} {l : List Clz} : Names X x q.1 →
      (∀ (a : Addr) (ob : Obj) (cls : Value) (d : Option Addr) (pn : List (Addr × Obj)), Zc cls d ob → (∃ vs, ob.data = .fields vs) → PSs (X.suite a ((a, ob) :: pn)) (s1 :: ss) (q.2 a cls d)) → ClOk X n hs l →
      ClOk X n (.ExceptHandler (some (.Name x px)) (some n) (s1 :: ss) ph :: hs) (q :: l)
section
variable {X : Cx} {n : Str} {i : Nat} {body : List Stmt} {h0 : ExceptHandler} {hs : List ExceptHandler} {l : List Clz} {pos : Pos} {tb : WX → TS}
/-- one clause after the other -/
theorem clauses_run (hN : X.N.Nodup) (hi : X.N[i]? = some n) (hl : X.env.kindOf n = some .local) {pins : List (Addr × Obj)} {D : Ends} {a : Addr} {ob : Obj} {ws : Array Value} {cls : Value} {d : Option Addr} {σ : L2.St} {H : Hp} {s : Shared}
    (nH : H a = none) (nL : a ≠ X.env.locals) (nF : a ∉ X.fs) (I : Inv X pins σ H s) (hget : s.heap.get? a = some ob) (hz : Zc cls d ob) (hd : ob.data = .fields ws)
    (again : ∀ (A : Around) (E : Value → Shared → Prop) (Q : Unit → Shared → Prop), (∀ s' ob' ws', s'.heap.get? a = some ob' → Zc cls d ob' → ob'.data = .fields ws' → Inv X pins σ H s' → Q () s') → wpAny (model X.prog X.w) A (setFlight (.ref a) none) Q E s) :
    ∀ {hs : List ExceptHandler} {l : List Clz}, ClOk X n hs l → wCl X.K i D l cls d σ H → wpAny (model X.prog X.w) X.A (handleBy (.ref a) X.env hs) (SP X pins D) X.xe s := by
  intro hs l ok
  have S := I.suite hget hd nH nL nF
  have ty : PySem.W.Looks (model X.prog X.w) s.heap (typeOf (.ref a)) cls := fun _ _ _ t kp q => wpAny_typeOf_ref (kp _ _ hget) (hz.1.symm ▸ q)
  induction ok with
  | nil => intro w; exact w.elim
  | @cons x q s1 ss px ph hs' l' nm run rest ih =>
    rintro ⟨b, eb, yes, no⟩
    refine wpAny_handleBy_cons (codeAny_handlers_test ?_) (by intro z; cases z)
    have meets := PySem.W.exm_one (M := model X.prog X.w) I.kIn ty eb
    have name : ∀ {Q E : Value → Shared → Prop}, Q q.1 s → wpAny (model X.prog X.w) (X.A.mark (some (.ref a))) (eval (.Name x px) X.env) Q E s := fun {Q E} z => by
      obtain ⟨g1, g2, g3⟩ := nm
      rcases g3 with g3 | ⟨g3, g4, g5⟩
      · exact ld_glob (X := X.suite a ((a, ob) :: (X.pn ++ pins))) S g1 g3 z g2
      · exact ld_blt (X := X.suite a ((a, ob) :: (X.pn ++ pins))) S g1 g3 g4 z g5 g2
    refine name (meets.here ?_)
    cases b with
    | false =>
      show wpAny (model X.prog X.w) X.A (handleBy (.ref a) X.env hs') _ _ s
      exact ih (no rfl)
    | true =>
      refine codeAny_handlers_suite_as (again _ _ _ fun t ob2 ws2 get2 z2 d2 I2 => ?_)
      have S2 := I2.suite get2 d2 nH nL nF
      refine store_ok (X := X.suite a ((a, ob2) :: (X.pn ++ pins))) (v := .ref a) S2 hN hi (.inl hl) rfl (fun t3 S3 => ?_) (.inr hl)
      refine wpAny_mono ((run a ob2 cls d (X.pn ++ pins) z2 ⟨ws2, d2⟩).run [] t3 _ H _ S3 (yes rfl a nH)) (fun fl t4 h4 => ?_) fun _ _ z => z.elim
      have fin : ∀ {σ4 : L2.St} {H4 : Hp} {Q : Shared → Prop}, Inv (X.suite a ((a, ob2) :: (X.pn ++ pins))) [] σ4 H4 t4 → (∀ t5, Inv X pins (σ4.set i none) H4 t5 → Q t5) → wpAny (model X.prog X.w) X.A (do bindName X.env n .none; unbindBehindTheSuite X.env n ph) (fun _ t5 => Q t5) X.xe t4 :=
        fun {σ4 H4 Q} J k => gone_ok (J.unsuite I.ok) hN hi hl k
      match fl, h4 with
      | .next, ⟨_, _, J, k⟩ => exact fin J fun t5 J5 => ⟨_, _, J5, k⟩
      | .brk, ⟨_, _, J, k⟩ => exact fin J fun t5 J5 => ⟨_, _, J5, k⟩
      | .cont, ⟨_, _, J, k⟩ => exact fin J fun t5 J5 => ⟨_, _, J5, k⟩
      | .ret u, ⟨_, _, _, J, r, k⟩ => exact fin J fun t5 J5 => ⟨_, _, _, J5, r, k⟩
/-- try: .. except C as e: .. except D as e: .. -/
theorem ps_tryA (he : X.stack = X.env :: X.outer) (hfr : X.env.frame = some X.env.locals) (hN : X.N.Nodup) (hi : X.N[i]? = some n) (hl : X.env.kindOf n = some .local)
    (hb : ∀ (W : WX) (pn : List (Addr × Obj)) (xe : Value → Shared → Prop), Takes (X.tr pn xe) W → PSs (X.tr pn xe) body (tb W))
    (ok : ClOk X n (h0 :: hs) l) : PS X (.Try body (h0 :: hs) [] [] pos) (fun D σ H => tb (wCl X.K i D l) D σ H) := by
  refine ⟨fun pins s σ H D I h => wpAny_Try_except ?_⟩
  have okX := I.ok
  have frames : X.A.frames = some (X.env :: X.outer) := okX.frames.trans (congrArg some he)
  let caught : Value → Shared → Prop := fun u t => wpAny (model X.prog X.w) X.A (noteFrame u X.env) (fun _ t2 => wpAny (model X.prog X.w) X.A (setFlight u none) (fun _ t3 => wpAny (model X.prog X.w) X.A (handleBy u X.env (h0 :: hs)) (SP X pins D) X.xe t3) X.xe t2) X.xe t
  refine wpAny_mono ((hb (wCl X.K i D l) (X.pn ++ pins) caught ?_).run [] s σ H D (I.toTry _) h) (fun fl t z => ?_) fun u t z => z
  · rintro u t ⟨a, B, sI, pins2, σ2, H2, cls, d, rfl, J0, nb, up, sky, na, os, ag, w⟩
    have J := J0.ofTry okX
    have sky2 : Sky B (X.env :: X.outer) a (Zc cls d) X.env.locals t.heap := he ▸ sky
    refine Sky.land Zc.steady frames hfr sky2 fun g fl up2 => ?_
    have J2 : Inv X pins σ2 H2 { t with heap := g } := J.landed nb fl.1 (up.trans up2) os ag
    obtain ⟨ob, ws, e1, e2, e3⟩ := fl.there
    have noFr : a ∉ frs (X.env :: X.outer) := fun m => by
      obtain ⟨_, o2, e4, e5⟩ := fl.2.2.1.mem m
      rw [e1] at e4
      cases e4
      exact e5 _ e3
    have nL : a ≠ X.env.locals := fun z => noFr (List.mem_filterMap.mpr ⟨X.env, List.mem_cons_self, hfr.trans (congrArg some z.symm)⟩)
    have nF : a ∉ X.fs := fun m => by
      obtain ⟨v, m1, m2⟩ := List.mem_filterMap.mp m
      exact noFr (List.mem_filterMap.mpr ⟨v, List.mem_cons_of_mem _ m1, m2⟩)
    refine clauses_run hN hi hl na nL nF J2 e1 e2 e3 (fun A E Q hQ => ?_) ok w
    refine HandSPX.lands_againZ fl fun g3 fl3 up3 => ?_
    obtain ⟨ob3, ws3, f1, f2, f3⟩ := fl3.there
    exact hQ _ ob3 ws3 f1 f2 f3 (J.landed nb fl3.1 ((up.trans up2).trans up3) os ag)
  · match fl, z with
    | .next, ⟨σ2, H2, J, q⟩ => exact wpAny_execs_nil ⟨σ2, H2, J.ofTry okX, q⟩
    | .brk, ⟨σ2, H2, J, q⟩ => exact ⟨σ2, H2, J.ofTry okX, q⟩
    | .cont, ⟨σ2, H2, J, q⟩ => exact ⟨σ2, H2, J.ofTry okX, q⟩
    | .ret u, ⟨v, σ2, H2, J, r, q⟩ => exact ⟨v, σ2, H2, J.ofTry okX, r, q⟩
end
end DL
end PDL24
section PDL25
set_option maxHeartbeats 1000000
/-! What raises: the class's name and the value that the exception holds. -/
namespace DL
open PySem PySem.Spec PyProof.Rows L2
variable [TC : TabsC]

abbrev XM := Rho → Option (Str × PyData)
/-- the data that stood still stand -/
def Kept (K : PySem.W.Frag) (F B' H' : Hp) : Prop := ∃ (pa : Nat → Option Addr) (σ : L2.St) (ρ : Rho), StR K F B' pa σ H' ρ
/-- what is wished of the exception: its class, its value -/
def XW (K : PySem.W.Frag) (mg : Str → Option Value) (F B : Hp) (c : Str) (d : PyData) (E : XK) : Prop := ∀ y C dx B' H', Kept K F B' H' → Same B B' → DD K B' y d → mg c = some (.ref C) → H' dx = some (.xd [("value", y)]) → E (.ref C) (some dx) H'
/-- a def that raises -/
def spX (K : PySem.W.Frag) (mg : Str → Option Value) (n : Nat) (R : XM) : Sp := fun vs H _ E => vs.length = n ∧ ∃ F B pa ρ c d, StR K F B pa (vs.map some) H ρ ∧ R ρ = some (c, d) ∧ XW K mg F B c d E
def tXE (K : PySem.W.Frag) (mg : Str → Option Value) (E : XK) (g : XM) : L2.St → Hp → Prop := fun σ H => ∃ F B pa ρ c d, StR K F B pa σ H ρ ∧ g ρ = some (c, d) ∧ XW K mg F B c d E
abbrev XE' (X : Cx) (E : XK) (e : Expr) (g : XM) : Prop := PE X e (fun σ H _ => tXE X.K X.mg E g σ H)
abbrev XA' (X : Cx) (E : XK) (es : List Expr) (g : XM) : Prop := PA X es (fun σ H _ => tXE X.K X.mg E g σ H)
abbrev XS' (X : Cx) (E : XK) (st : Stmt) (g : XM) : Prop := PS X st (fun _ σ H => tXE X.K X.mg E g σ H)
abbrev XSs' (X : Cx) (E : XK) (st : List Stmt) (g : XM) : Prop := PSs X st (fun _ σ H => tXE X.K X.mg E g σ H)
section
variable {K : PySem.W.Frag} {mg : Str → Option Value} {F B B1 H : Hp} {pa : Nat → Option Addr} {σ : L2.St} {ρ : Rho} {c : Str} {d : PyData} {E : XK} {vs : List V}
theorem XW.mono (h : XW K mg F B c d E) (s : Same B B1) : XW K mg F B1 c d E := fun y C dx B' H' k s' => h y C dx B' H' k (s.trans s')
end
section
variable {X : Cx} {E : XK} {e : Expr} {es rest a b : List Expr} {st : Stmt} {sts body els : List Stmt} {f : EM} {fa : AM} {t : TM} {g : XM} {h : SM} {x c : Str} {p pos pos' : Pos} {n k : Nat} {ps : List Str} {stx : Stmt}
theorem pss_no {sts : List Stmt} : PSs X sts (fun _ _ _ => False) := ⟨fun _ _ _ _ _ _ z => z.elim⟩
/-- the first statement raises -/
theorem xs_head (h1 : XS' X E st g) : XSs' X E (st :: sts) g := PSs.imp (pss_cons h1 (pss_no (sts := sts))) fun _ _ _ z => z
/-- a later one -/
def xSeq (h : SM) (g : XM) : XM := fun ρ => (h ρ).bind fun
  | .nx ρ1 => g ρ1
  | _ => none
theorem xs_tail (h1 : DS X st h) (h2 : XSs' X E sts g) : XSs' X E (st :: sts) (xSeq h g) := PSs.imp (pss_cons h1 h2) fun D σ H ⟨F, B, pa, ρ, c, d, S, e, k⟩ => by
  obtain ⟨o, e1, e2⟩ := bind_some e
  cases o with
  | nx ρ1 => exact ⟨F, B, pa, ρ, .nx ρ1, S, e1, fun σ' B' H' S' s => ⟨F, B', pa, ρ1, c, d, S', e2, k.mono s⟩⟩
  | ret r ρ1 => cases e2
  | bk ρ1 => cases e2
  | ct ρ1 => cases e2
theorem xs_expr (he : XE' X E e g) (hs : swapsWith e none pos.line X.env = pure false := by rfl) : XS' X E (.Expr e pos) g := PS.imp (ps_expr he hs) fun _ _ _ z => z
theorem xs_ret (he : XE' X E e g) : XS' X E (.Return (some e) pos) g := PS.imp (ps_ret he) fun _ _ _ z => z
theorem xs_set {i : Nat} {x : Str} {px : Pos} (hN : X.N.Nodup) (hi : X.N[i]? = some x) (hx : Loc X.env.scope x) (he : XE' X E e g) (hs : swapsWith e (some (.Name x px)) pos.line X.env = pure false := by rfl) (hf : X.fn x = true ∨ X.env.scope.names.lookup x = some .local := by first | exact .inl rfl | exact .inr rfl | assumption) :
    XS' X E (.Assign [.Name x px] e pos) g := PS.imp (ps_set hN hi hx he hs hf) fun _ _ _ z => z
/-- if t: .. that raises -/
def xIf (t : TM) (g : XM) : XM := fun ρ => (t ρ).bind fun b => if b.1 = true then g b.2 else none
theorem xs_if {ce : Expr} (hc : DT X ce t) (hb : XSs' X E body g) : XS' X E (.If ce body els pos) (xIf t g) := PS.imp (ps_if hc hb (pss_no (sts := els))) fun D σ H ⟨F, B, pa, ρ, c, d, S, e, k⟩ => by
  obtain ⟨⟨b, ρ1⟩, e1, e2⟩ := bind_some e
  refine ⟨F, B, pa, ρ, b, ρ1, S, e1, fun B' H' S' s => ?_⟩
  change (if b = true then g ρ1 else none) = some (c, d) at e2
  cases b with
  | false => cases e2
  | true => exact ⟨F, B', pa, ρ1, c, d, S', e2, k.mono s⟩
/-- arguments of which one raises -/
theorem xa_here (he : XE' X E e g) (hr : PA X es (fun _ _ _ => False)) (hs : starEach (e :: es) X.env = (false, eval e X.env) :: starEach es X.env := by rfl) : XA' X E (e :: es) g := PA.imp (pa_cons he hr hs) fun _ _ _ z => z
def xNext (f : EM) (g : XM) : XM := fun ρ => (f ρ).bind fun a => g a.2
theorem xa_next (he : DE X e f) (hr : XA' X E es g) (hs : starEach (e :: es) X.env = (false, eval e X.env) :: starEach es X.env := by rfl) : XA' X E (e :: es) (xNext f g) := PA.imp (pa_cons he hr hs) fun σ H Q ⟨F, B, pa, ρ, c, d, S, e, k⟩ => by
  obtain ⟨⟨r, ρ1⟩, e1, e2⟩ := bind_some e
  exact tD_take S e1 fun v B1 H1 S1 s1 d1 => ⟨F, B1, pa, ρ1, c, d, S1, e2, k.mono s1⟩
theorem pa_no0 : PA X [] (fun _ _ _ => False) := ⟨fun _ _ _ _ _ _ _ z => z.elim⟩
theorem pa_no {es : List Expr} : PA X es (fun _ _ _ => False) := ⟨fun _ _ _ _ _ _ _ z => z.elim⟩
/-- f(..), an argument of which raises -/
theorem xe_args {G : GM} (C : Callee X.prog X.w X.K X.mg X.base k x stx ps n G) (hgu : X.A.guards = some []) (hr : Room k X.A) (hg : Gl X x) (ha : XA' X E (e :: es) g)
    (hdb : (x == ("__debug__" : Str)) = false := by decide) (he : starEach (e :: es) X.env = (false, eval e X.env) :: starEach es X.env := by rfl) (hpl : (backTo pos (starEach es X.env)).any (·.1) = false := by rfl) :
    XE' X E (.Call (.Name x p) (e :: es) [] pos) g := by
  obtain ⟨f, fd, F, hm, hk, hb, _⟩ := C.ex
  exact PE.imp (peG_call (E := E0) F hgu hr hg hm hk hb .nil pass0 ha hdb he hpl) fun _ _ _ z => z
end
/-- it may be called, and raises -/
structure CalleeX (P : Program) (w : World) (K : PySem.W.Frag) (mg : Str → Option Value) (base : Heap) (k : Nat) (x : Str) (st : Stmt) (ps : List Str) (n : Nat) (R : XM) : Prop where
  ex : ∃ (f : Addr) (fd : FuncData), FnG P w K mg base (L2.CX P w) k f fd ps (spX K mg n R) ∧ mg x = some (.ref f) ∧ PySem.W.keepIn K (.ref f) = true ∧ L2.Binds K fd ps [] ∧ ∀ (ks : List Str) (ix : List Nat), (∀ (kV doc pm : Value) (an : Option Addr) (cdv ct : Value) (ws : List Value), ws.length = ks.length → bindArgs (PySem.W.fnOf x x (defArgs st) (defBody st) (defScope st) .none kV doc pm an cdv ct) ⟨[], ks.zip ws⟩ = pure (ps.zip (perm ix ws))) → KB K fd ps ks ix
abbrev CxX (P : Program) (w : World) (K : PySem.W.Frag) (mg : Str → Option Value) (base : Heap) (N : List Str) (x : Str) (st : Stmt) (f : Addr) (cdv : Value) (A : Around) (outer : List Env) (s : Shared) (H : Hp) (E : XK) : Cx := cxOf (L2.CX P w) P w K mg base N x (defScope st) f cdv A outer s H E
theorem calleeX {P : Program} {w : World} {K : PySem.W.Frag} {mg : Str → Option Value} {base : Heap} {k : Nat} {x : Str} {st : Stmt} {N ps : List Str} {m : Nat} {g : XM} (D : Def K mg x st ps) (S : FnScope N ps (defScope st)) (hm : N.length = ps.length + m)
    (body : ∀ (f : Addr) (cdv : Value) (A : Around) (outer : List Env) (s : Shared) (H : Hp) (E : XK), A.guards = some [] → Room k (CxX P w K mg base N x st f cdv A outer s H E).A → (CxX P w K mg base N x st f cdv A outer s H E).A.units + 66 < cLine → Takes (CxX P w K mg base N x st f cdv A outer s H E) (fun cls d _ H => E cls d H) → XSs' (CxX P w K mg base N x st f cdv A outer s H E) E (defBody st) g) :
    CalleeX P w K mg base (k + 1) x st ps ps.length (fun ρ => g (ρ ++ List.replicate m .u)) := by
  obtain ⟨f, fd, F, hmg, hb, hk⟩ := D.ex
  refine ⟨f, fd, fnG_of F S (fun vs H Q E h => h.1) fun cdv A outer s H vs Q E hgu hr h => ?_, hmg, F.kp, hb, hk⟩
  obtain ⟨hl, F', B, pa, ρ, c, d, S0, e, q⟩ := h
  have hun : (CxX P w K mg base N x st f cdv A outer s H E).A.units + 66 < cLine := by
    have := hr.un
    show (A.deeper (envOfC x (defScope st) s.heap.objs.size f cdv)).units + 66 < cLine
    omega
  exact ⟨_, body f cdv A outer s H E hgu hr hun (takes_of rfl rfl rfl rfl), F', B, pa, _, c, d, S0.start (N := N) (m := m) (by omega), e, q⟩
section
variable {X : Cx} {E : XK} {e : Expr} {es : List Expr} {fa : AM} {R : XM} {x : Str} {p pos : Pos} {n k : Nat} {ps : List Str} {stx : Stmt}
/-- f(..) that raises -/
def xCall (n : Nat) (R : XM) (fa : AM) : XM := fun ρ => (fa ρ).bind fun a => if a.1.length = n then R (a.1.map .d) else none
theorem kept_back {K : PySem.W.Frag} {mg : Str → Option Value} {F B H : Hp} {pa : Nat → Option Addr} {σ : L2.St} {ρ : Rho} {c : Str} {d : PyData} (S : StR K F B pa σ H ρ) (h : XW K mg F B c d E) : XW K mg (plusH F (ownA ρ σ H none)) B c d E := fun y C dx B' H' ⟨pa1, σ1, ρ1, S1⟩ s dy hm hx => h y C dx B' H' ⟨pa, σ, ρ, S.called S1 s⟩ s dy hm hx
theorem xe_call (C : CalleeX X.prog X.w X.K X.mg X.base k x stx ps n R) (tk : Takes X fun cls d _ H => E cls d H) (hgu : X.A.guards = some []) (hr : Room k X.A) (hg : Gl X x) (ha : DA X (e :: es) fa)
    (hdb : (x == ("__debug__" : Str)) = false := by decide) (he : starEach (e :: es) X.env = (false, eval e X.env) :: starEach es X.env := by rfl) (hpl : (backTo pos (starEach es X.env)).any (·.1) = false := by rfl) :
    XE' X E (.Call (.Name x p) (e :: es) [] pos) (xCall n R fa) := by
  obtain ⟨f, fd, F, hm, hk, hb, _⟩ := C.ex
  refine PE.imp (peG_call (E := E) F hgu hr hg hm hk hb .nil (passes_call tk fun _ _ _ _ z => z) ha hdb he hpl) fun σ H Q ⟨F', B, pa, ρ, c, d, S, e, q⟩ => ?_
  obtain ⟨⟨ds, ρ1⟩, e1, e2⟩ := bind_some e
  change (if ds.length = n then R (ds.map .d) else none) = some (c, d) at e2
  split at e2
  · rename_i hn
    refine ⟨F', B, pa, ρ, ds, ρ1, S, e1, fun vs B1 H1 S1 s1 d1 => ?_⟩
    show spX X.K X.mg n R (vs ++ []) H1 Q E
    rw [List.append_nil]
    exact ⟨by rw [d1.length]; exact hn, _, B1, _, _, c, d, S1.call d1, e2, kept_back S1 (q.mono s1)⟩
  · cases e2
end
end DL
end PDL25
section PDL26
set_option maxHeartbeats 1000000
/-! An own exception class whose __init__ keeps "value"; raise; the suite that tells what is raised. -/
namespace DL
open PySem PySem.Spec PyProof.Rows L2
variable [TC : TabsC]

/-- __init__(self, value): self.value = value -/
def spIni (K : PySem.W.Frag) : Sp := fun vs H Q _ => ∃ (a : Addr) (y : V) (C : Addr), vs = [.ref a, y] ∧ OexC K C ∧ PySem.W.findIn K (.ref C) "value" = some none ∧ H a = some (exo a C none) ∧
  ∀ dx, H dx = none → dx ≠ a → Q .non (upd (upd H dx (exd dx [("value", y)])) a (exo a C (some dx)))
/-- the class named x, at C -/
structure XCls (P : Program) (w : World) (K : PySem.W.Frag) (mg : Str → Option Value) (base : Heap) (x : Str) (C : Addr) : Prop where
  m : mg x = some (.ref C)
  o : OexC K C
  f : XfC K C
  i : L2.ExcC K C
  v : PySem.W.findIn K (.ref C) "value" = some none
  n : ∃ (fI : Addr) (fd : FuncData), PySem.W.findIn K (.ref C) "__init__" = some (some (.ref fI)) ∧ PySem.W.typeIn K (.ref fI) = some (.type "function") ∧ FnOk P w K mg base CX0 1 fI fd ["self", "value"] (spIni K) ∧ L2.Binds K fd ["self", "value"] []
section
variable {X : Cx} {E : XK} {e : Expr} {f : EM} {x : Str} {C : Addr} {p pos pos' : Pos}
theorem heap_made {H1 H2 : Hp} {a dx C : Addr} {y : V} (ha : H1 a = none) (hne : dx ≠ a) (e : H2 = upd (upd (upd H1 a (exo a C none)) dx (exd dx [("value", y)])) a (exo a C (some dx))) : upd (del H2 a) dx (.xd [("value", y)]) = upd H1 dx (.xd [("value", y)]) := by
  funext b
  by_cases h1 : b = dx
  · rw [h1, upd_same, upd_same]
  · rw [upd_ne h1, upd_ne h1]
    by_cases h2 : b = a
    · rw [h2, del_same, ha]
    · rw [del_ne h2, e, upd_ne h2, upd_ne h1, upd_ne h2]
def xRaise (c : Str) (f : EM) : XM := fun ρ => (f ρ).map fun a => (c, a.1.data)
/-- raise C(e) -/
theorem xs_raise (I : XCls X.prog X.w X.K X.mg X.base x C) (tk : Takes X fun cls d _ H => E cls d H) (hc : X.calm = true) (hr : Room 2 X.A) (hg : Gl X x) (he : DE X e f) (hdb : (x == ("__debug__" : Str)) = false := by decide)
    (hs : starEach [e] X.env = (false, eval e X.env) :: starEach [] X.env := by rfl) (hpl : (backTo pos (starEach [] X.env)).any (·.1) = false := by rfl) :
    XS' X E (.Raise (some (.Call (.Name x p) [e] [] pos)) none pos') (xRaise x f) := by
  obtain ⟨fI, fd, iC, tI, F1, hb⟩ := I.n
  refine PS.imp (ps_raise (W := fun cls d _ H => E cls d H) hc tk (pmk_oex (k := 1) I.o iC tI F1 hr hb .nil pass0 hg I.m (pa_cons he pa_nil hs) hdb hs hpl)) fun D σ H ⟨F, B, pa, ρ, c, d, S, e1, k⟩ => ?_
  obtain ⟨⟨r, ρ1⟩, e2, e3⟩ := map_some e1
  cases e3
  refine tD_take S e2 fun v B1 H1 S1 s1 d1 => ⟨by simp, fun a ha => ⟨a, v, C, rfl, I.o, I.v, upd_same, fun dx hdx hne => ⟨rfl, dx, [("value", v)], upd_same, ?_, ?_, ?_⟩⟩⟩
  · rw [upd_ne hne, upd_same]
  · rw [upd_ne hne] at hdx
    exact hdx
  · rw [upd_ne hne] at hdx
    rw [heap_made ha hne rfl]
    exact k v C dx B1 _ ⟨pa, σ, ρ1, S1.new hdx⟩ s1 d1 I.m upd_same
end
/-! ### the suite: n = (w, repr(e.value), isinstance(e, D)) -/
section
variable {X : Cx} {a : Addr} {ob : Obj} {cls : Value} {d : Option Addr} {pn : List (Addr × Obj)}
theorem call_isX {D : Addr} (C : L2.ExcC X.K D) (hz : Zc cls d ob) (hf : ∃ vs, ob.data = .fields vs) : CallR (X.suite a ((a, ob) :: pn)) (.builtin "isinstance") (fun xs H Q => ∃ (cv : V) (u : Value) (b : Bool) (fs : List (Str × V)) (dx : Addr), xs = [.ref a, cv] ∧ cls = .ref D ∧ d = some dx ∧ (∀ z, RelV cv z → z = u) ∧ PySem.W.kitOne X.K (.ref D) u = some b ∧ H dx = some (.xd fs) ∧ Q (.bl b) H) := by
  intro pins s σ H xs us Q I r h
  obtain ⟨cv, u, b, fs, dx, rfl, ec, ed, hcv, hk, hx, q⟩ := h
  match us, r with
  | [_, z], .cons rx (.cons rz .nil) =>
    cases rx
    cases hcv z rz
    have get : s.heap.get? a = some ob := (I.pin (a, ob) (List.mem_append.mpr (.inl List.mem_cons_self))).1
    obtain ⟨mA, hns, _⟩ : ObjOk X.prog X.w H s.heap dx (.xd fs) := I.hok dx _ hx
    obtain ⟨od, ho, _⟩ := lookIn_ns hns
    obtain ⟨ws, hv⟩ := hf
    have J : PySem.W.InstAt s.heap a ob D (some od) := ⟨get, hz.1.trans ec, by unfold PySem.W.notCls; rw [hv] <;> rfl, by rw [hz.2, ed]; exact ho⟩
    have hcl : (PySem.W.clsIn X.K D).isSome = true := by
      obtain ⟨cd, q, _⟩ := PySem.W.any_some C.hd
      rw [q]
      rfl
    exact PySem.W.kia_one (PySem.W.kitx_exc hcl C.hg C.hk C.hs C.ha C.hn C.ht C.hm) I.kIn J hk (fun z => nomatch z) fun tk => ⟨.bl b, H, I.kept (t' := tk) fun _ _ z => z, rfl, q⟩
/-- what the suite asks: the exception in slot i, its class at C, its value as data -/
def tSui (K : PySem.W.Frag) (C : Addr) (i j : Nat) (wd : Str) : Addr → Value → Option Addr → TS := fun a cls d D σ H => cls = .ref C ∧ ∃ (dx : Addr) (y : V) (B : Hp) (v : PyData), d = some dx ∧ σ[i]? = some (some (.ref a)) ∧ H dx = some (.xd [("value", y)]) ∧ Same B H ∧ DD K B y v ∧ reprOk v = true ∧
  ∀ q, H q = none → D.nx (σ.set j (some (.ref q))) (upd H q (.tup [.str wd, .str v.shown, .bl true]))
theorem suite_told {i j : Nat} {n ne CE : Str} {wd : Str} {C D : Addr} {k1 k2 : Nat} {pn1 p1 p2 p4 p5 p6 p7 p8 p9 p10 p11 : Pos} (hgu : X.A.guards = some []) (hu : X.A.units + 64 < cLine) (T : XfC X.K C) (TI : L2.ExcC X.K C) (hno : PySem.W.findIn X.K (.ref C) "value" = some none)
    (hk : PySem.W.kitOne X.K (.ref C) (.ref D) = some true) (hD : X.mg CE = some (.ref D)) (gD : Gl X CE) (gR : Gl X "repr") (mR : X.mg "repr" = none) (gI : Gl X "isinstance") (mI : X.mg "isinstance" = none)
    (hN : X.N.Nodup) (hj : X.N[j]? = some n) (hlj : Loc X.env.scope n) (hfj : X.fn n = true ∨ X.env.scope.names.lookup n = some .local) (hi : ∀ p, PE (X.suite a ((a, ob) :: pn)) (.Name ne p) (tVar i)) (hz : Zc cls d ob) (hf : ∃ vs, ob.data = .fields vs)
    (hdb : (CE == ("__debug__" : Str)) = false := by decide)
    (hb : attributeBase (.Name ne p4) "value" X.env (eval (.Name ne p4) X.env) = eval (.Name ne p4) X.env := by rfl)
    (hsw : swapsWith (.Tuple [.Constant (.str wd) k1 p1, .Call (.Name "repr" p2) [.Attribute (.Name ne p4) "value" p5] [] p6, .Call (.Name "isinstance" p7) [.Name ne p8, .Name CE p9] [] p10] k2 p11) (some (.Name n pn1)) pos.line X.env = pure false := by rfl) :
    PSs (X.suite a ((a, ob) :: pn)) [.Assign [.Name n pn1] (.Tuple [.Constant (.str wd) k1 p1, .Call (.Name "repr" p2) [.Attribute (.Name ne p4) "value" p5] [] p6, .Call (.Name "isinstance" p7) [.Name ne p8, .Name CE p9] [] p10] k2 p11) pos] (tSui X.K C i j wd a cls d) := by
  refine PSs.imp (pss_one (ps_set (X := X.suite a ((a, ob) :: pn)) hN hj hlj (pe_tup (pa_cons pe_str (pa_cons (pe_callB (dc_repr hgu hu) gR mR bb_repr (pa_cons (pe_xf T hno hz hf (hi p4) hb) pa_nil)) (pa_cons (pe_callB (call_isX TI hz hf) gI mI bb_isinstance (pa_cons (hi p8) (pa_cons (pe_glob (v := .ref D) gD hD rfl hdb) pa_nil))) pa_nil)))) hsw hfj)) ?_
  rintro D' σ H ⟨ec, dx, y, B, v, ed, hs, hx, sb, dy, hz2, k⟩
  refine ⟨.ref a, hs, rfl, ec, dx, _, y, ed, hx, rfl, B, [v], .d (.str v.shown), sb, .cons dy .nil, if_pos hz2, fun u H2 nw => ?_⟩
  cases nw with
  | old du =>
    cases du
    exact ⟨.ref a, hs, .ref D, .ref D, true, _, dx, rfl, ec, ed, (fun z e => e), hk, hx, by simp [sizeLine_eq], fun q nq => k q nq⟩
end
end DL
end PDL26
section PDL27
set_option maxHeartbeats 1000000
/-! def heard(call): found = None; try: call(); except C as e: found = (..); except D as e: found = (..); return found -/
namespace DL
open PySem PySem.Spec PyProof.Rows L2 LamX
variable [TC : TabsC]

theorem takes_len {X : Cx} {W : WX} (t : Takes X W) : Takes X fun cls d σ H => σ.length = X.N.length → W cls d σ H := fun u s' ⟨a, B, sI, pins, σ, H, cls, d, e, I, nb, up, sky, na, os, ag, w⟩ => t u s' ⟨a, B, sI, pins, σ, H, cls, d, e, I, nb, up, sky, na, os, ag, w I.len⟩
/-- what is heard of an exception: its class's word, its value as a text, True -/
def Ehd (K : PySem.W.Frag) (C1 C2 : Addr) (w1 w2 : Str) (Q : VK) : XK := fun cls d H => ∃ (C : Addr) (wd : Str), ((C = C1 ∧ wd = w1) ∨ (C = C2 ∧ wd = w2)) ∧ cls = .ref C ∧ ∃ (dx : Addr) (y : V) (B : Hp) (v : PyData), d = some dx ∧ H dx = some (.xd [("value", y)]) ∧ Same B H ∧ DD K B y v ∧ reprOk v = true ∧
  ∀ q, H q = none → Q (.ref q) (upd H q (.tup [.str wd, .str v.shown, .bl true]))
def TTh (K : PySem.W.Frag) (C1 C2 : Addr) (w1 w2 : Str) : (XK → Hp → VK → Prop) → Hp → VK → Prop := fun tl H Q => ∀ Q', tl (Ehd K C1 C2 w1 w2 Q) H Q'
section
variable {Z : Cx} {C1 C2 D f c' : Addr} {x1 x2 CE q w1 w2 cl nf ne : Str} {tl : XK → Hp → VK → Prop}
theorem heard_body {k0 k1 k2 k3 k4 : Nat} {p1 p2 p3 p4 p5 p6 p7 p8 a1 a2 a3 a4 a5 a6 a7 a8 a9 a10 a11 a12 a13 b1 b2 b3 b4 b5 b6 b7 b8 b9 b10 b11 b12 b13 : Pos} (he : Z.stack = Z.env :: Z.outer) (hfr : Z.env.frame = some Z.env.locals) (hN : Z.N = [cl, nf, ne]) (nd : Z.N.Nodup) (l1 : Z.env.scope.names.lookup nf = some .local) (l2 : Z.env.kindOf ne = some .local) (l2' : Z.env.scope.names.lookup ne = some .local)
    (n1 : Names Z x1 (.ref C1)) (n2 : Names Z x2 (.ref C2)) (hgu : Z.A.guards = some []) (hu : Z.A.units + 64 < cLine) (T1 : XfC Z.K C1) (T2 : XfC Z.K C2) (I1 : L2.ExcC Z.K C1) (I2 : L2.ExcC Z.K C2) (v1 : PySem.W.findIn Z.K (.ref C1) "value" = some none) (v2 : PySem.W.findIn Z.K (.ref C2) "value" = some none)
    (e11 : PySem.W.exmOne Z.K (.ref C1) (.ref C1) = some true) (e21 : PySem.W.exmOne Z.K (.ref C2) (.ref C1) = some false) (e22 : PySem.W.exmOne Z.K (.ref C2) (.ref C2) = some true) (i1 : PySem.W.kitOne Z.K (.ref C1) (.ref D) = some true) (i2 : PySem.W.kitOne Z.K (.ref C2) (.ref D) = some true)
    (hD : Z.mg CE = some (.ref D)) (gD : Gl Z CE) (gR : Gl Z "repr") (mR : Z.mg "repr" = none) (gI : Gl Z "isinstance") (mI : Z.mg "isinstance" = none) (hdb : (CE == ("__debug__" : Str)) = false) (hdf : (nf == ("__debug__" : Str)) = false) (hde : (ne == ("__debug__" : Str)) = false) (hcf : (nf == ("__classdict__" : Str)) = false) (hce : (ne == ("__classdict__" : Str)) = false)
    (s0 : swapsWith (.Constant .none k0 p1) (some (.Name nf p2)) p3.line Z.env = pure false) (sc : swapsWith (.Call (.Name cl p4) [] [] p5) none p6.line Z.env = pure false)
    (hb1 : attributeBase (.Name ne a4) "value" Z.env (eval (.Name ne a4) Z.env) = eval (.Name ne a4) Z.env) (hb2 : attributeBase (.Name ne b4) "value" Z.env (eval (.Name ne b4) Z.env) = eval (.Name ne b4) Z.env)
    (sw1 : swapsWith (.Tuple [.Constant (.str w1) k1 a1, .Call (.Name "repr" a2) [.Attribute (.Name ne a4) "value" a5] [] a6, .Call (.Name "isinstance" a7) [.Name ne a8, .Name CE a9] [] a10] k2 a11) (some (.Name nf a3)) a12.line Z.env = pure false)
    (sw2 : swapsWith (.Tuple [.Constant (.str w2) k3 b1, .Call (.Name "repr" b2) [.Attribute (.Name ne b4) "value" b5] [] b6, .Call (.Name "isinstance" b7) [.Name ne b8, .Name CE b9] [] b10] k4 b11) (some (.Name nf b3)) b12.line Z.env = pure false)
    {r1 r2 r3 : Pos}
    (act : ∀ (W : WX) (pn : List (Addr × Obj)) (xe : Value → Shared → Prop) (E : XK) (q1 q2 : Pos), Takes (Z.tr pn xe) W → (∀ cls d σ' H', E cls d H' → W cls d σ' H') → PE (Z.tr pn xe) (.Call (.Name cl q1) [] [] q2) (fun σZ HZ Q => σZ[0]? = some (some (.ref f)) ∧ HZ c' = some (CodeO c' q) ∧ tl E HZ Q)) :
    PSs Z [.Assign [.Name nf p2] (.Constant .none k0 p1) p3,
      .Try [.Expr (.Call (.Name cl p4) [] [] p5) p6] [.ExceptHandler (some (.Name x1 p7)) (some ne) [.Assign [.Name nf a3] (.Tuple [.Constant (.str w1) k1 a1, .Call (.Name "repr" a2) [.Attribute (.Name ne a4) "value" a5] [] a6, .Call (.Name "isinstance" a7) [.Name ne a8, .Name CE a9] [] a10] k2 a11) a12] a13,
        .ExceptHandler (some (.Name x2 p8)) (some ne) [.Assign [.Name nf b3] (.Tuple [.Constant (.str w2) k3 b1, .Call (.Name "repr" b2) [.Attribute (.Name ne b4) "value" b5] [] b6, .Call (.Name "isinstance" b7) [.Name ne b8, .Name CE b9] [] b10] k4 b11) b12] b13] [] [] r1,
      .Return (some (.Name nf r2)) r3]
      (fun D σ H => σ.length = 3 ∧ σ[0]? = some (some (.ref f)) ∧ H c' = some (CodeO c' q) ∧ TTh Z.K C1 C2 w1 w2 tl H D.rt) := by
  have g1 : Z.N[1]? = some nf := by rw [hN]; rfl
  have g2 : Z.N[2]? = some ne := by rw [hN]; rfl
  have loc1 : Loc Z.env.scope nf := .inl l1
  have ev : ∀ {a : Addr} {ob : Obj} {pn : List (Addr × Obj)} (p : Pos), PE (Z.suite a ((a, ob) :: pn)) (.Name ne p) (tVar 2) := fun {a ob pn} p => pe_var (X := Z.suite a ((a, ob) :: pn)) g2 (.inl l2') hde hce
  refine PSs.imp (pss_cons (ps_set nd g1 loc1 pe_non s0 (.inr l1)) (pss_cons (ps_tryA (i := 2) (l := [(.ref C1, tSui Z.K C1 2 1 w1), (.ref C2, tSui Z.K C2 2 1 w2)]) (tb := fun W D σ H => ∃ Ech : XK, (∀ cls d σ' H', Ech cls d H' → σ'.length = 3 → W cls d σ' H') ∧ σ[0]? = some (some (.ref f)) ∧ H c' = some (CodeO c' q) ∧ ∀ Q', tl Ech H Q')
    he hfr nd g2 l2 (fun W pn xe tk => ?_) (.cons n1 (fun a ob cls d pn hz hf => suite_told hgu hu T1 I1 v1 i1 hD gD gR mR gI mI nd g1 loc1 (.inr l1) (fun p => ev p) hz hf hdb hb1 sw1) (.cons n2 (fun a ob cls d pn hz hf => suite_told hgu hu T2 I2 v2 i2 hD gD gR mR gI mI nd g1 loc1 (.inr l1) (fun p => ev p) hz hf hdb hb2 sw2) .nil))) (pss_one (ps_ret (pe_var (i := 1) g1 (.inl l1) hdf hcf))))) ?_
  · refine ⟨fun pins s σ H D I h => ?_⟩
    obtain ⟨Ech, hW, h1, h2, h3⟩ := h
    have hp := act _ pn xe Ech p4 p5 (takes_len tk) fun cls d σ' H' z hl => hW cls d σ' H' z (by rw [hl]; show Z.N.length = 3; rw [hN]; rfl)
    have hq := pss_one (ps_expr (pos := p6) hp sc)
    exact hq.run pins s σ H D I ⟨h1, h2, h3 _⟩
  · rintro D' σ H ⟨hl, h0, hc, ht⟩
    have at0 : (σ.set 1 (some V.non))[0]? = some (some (.ref f)) := by rw [List.getElem?_set_ne (by decide)]; exact h0
    refine ⟨Ehd Z.K C1 C2 w1 w2 D'.rt, fun cls d σ' H' hE hl' => ?_, at0, hc, ht⟩
    obtain ⟨C, wd, hC, ec, dx, y, B, v, ed, hx, sb, dy, hr, k⟩ := hE
    have told : ∀ a, tSui Z.K C 2 1 wd a cls d (gone 2 { D' with nx := fun σ H => tRet (tVar 1) D' σ H }) (σ'.set 2 (some (.ref a))) H' := fun a => by
      refine ⟨ec, dx, y, B, v, ed, List.getElem?_set_self (by omega), hx, sb, dy, hr, fun p hp => ?_⟩
      refine ⟨.ref p, ?_, k p hp⟩
      rw [List.getElem?_set_ne (by decide), List.getElem?_set_self (by rw [List.length_set]; omega)]
    rcases hC with ⟨rfl, rfl⟩ | ⟨rfl, rfl⟩
    · subst ec
      exact ⟨true, e11, fun _ a _ => told a, fun z => by cases z⟩
    · subst ec
      exact ⟨false, e21, (fun z => by cases z), fun _ => ⟨true, e22, fun _ a _ => told a, fun z => by cases z⟩⟩
end
end DL
end PDL27
section PDL28
set_option maxHeartbeats 2000000
/-! heard(lambda: f(..)), where f(..) raises. -/
namespace DL
open PySem PySem.Spec PyProof.Rows L2 LamX
variable [TC : TabsC]

section
variable {X : Cx} {pins : List (Addr × Obj)} {s : Shared} {σ : L2.St} {H : Hp}
/-- call(), in the def that was handed the lambda, where no repr is under way -/
theorem pe_actG {Eg : XK} {Ng : List Str} {qg cl : Str} {sg scope : Scope} {g f c' : Addr} {cdg pm ctv : Value} {params : Arguments} {body : Expr} {k : Nat} {pn : List (Addr × Obj)} {xe : Value → Shared → Prop} {W : WX} {E : XK} {tb : TE} {p1 p2 : Pos} (I : Inv X pins σ H s) (hgu : X.A.guards = some []) (L : LamS X.env.scope scope)
    (made : s.heap.get? f = some (PySem.W.kla_obj "<lambda>" (X.env.qual ++ "<lambda>") params body scope (cloFrom X.env.cells scope.names []) pm c' ctv)) (nH : H f = none) (nF : f ∉ frs X.stack)
    (binds : bindArgs (PySem.W.kla_fn "<lambda>" (X.env.qual ++ "<lambda>") params body scope (cloFrom X.env.cells scope.names []) pm (.ref c') ctv) ⟨[], []⟩ = pure [])
    (tk : Takes ((cxOf C8.CX0 X.prog X.w X.K X.mg X.base Ng qg sg g cdg X.A X.stack s H Eg).tr pn xe) W) (hW : ∀ cls d σ' H', E cls d H' → W cls d σ' H') (hr : Room (k + 1) (X.A.deeper (envOfC qg sg s.heap.objs.size g cdg)))
    (run : ∀ (A : Around) (outer : List Env) (t : Shared) (J : Hp), A.guards = some [] → Room k (A.deeper (lamEnv X scope t.heap.objs.size f c')) → PE (lamCx X A outer t J E scope f c') body tb)
    (h0 : Ng[0]? = some cl) (vis : Vis sg cl) (d1 : (cl == ("__debug__" : Str)) = false) (d2 : (cl == ("__classdict__" : Str)) = false) :
    PE ((cxOf C8.CX0 X.prog X.w X.K X.mg X.base Ng qg sg g cdg X.A X.stack s H Eg).tr pn xe) (.Call (.Name cl p1) [] [] p2) (fun τ J Q => τ[0]? = some (some (.ref f)) ∧ J c' = some (CodeO c' (X.env.qual ++ "<lambda>")) ∧ tb σ J Q) := by
  obtain ⟨Z, hZ⟩ : ∃ Z : Cx, Z = (cxOf C8.CX0 X.prog X.w X.K X.mg X.base Ng qg sg g cdg X.A X.stack s H Eg).tr pn xe := ⟨_, rfl⟩
  refine ⟨fun pins2 t0 τ J Q IZ ⟨e0, e1, e2⟩ => ?_⟩
  have name := (pe_var (X := (cxOf C8.CX0 X.prog X.w X.K X.mg X.base Ng qg sg g cdg X.A X.stack s H Eg).tr pn xe) (pos := p1) (i := 0) h0 vis d1 d2).run pins2 t0 τ J (fun v J1 => v = .ref f ∧ J1 = J) IZ ⟨.ref f, e0, rfl, rfl⟩
  refine wpAny_Call_Name_kw (thn name ?_)
  rintro u t ⟨v, J1, I1, rv, rfl, rfl⟩
  cases (show u = Value.ref f from rv)
  have stands : t.heap.get? f = some (PySem.W.kla_obj "<lambda>" (X.env.qual ++ "<lambda>") params body scope (cloFrom X.env.cells scope.names []) pm c' ctv) := I1.base.keep f _ made nH nF fun z => nomatch (show f ∈ ([] : List Addr) from z)
  have un : Un (frs X.stack) [] H J1 s.heap t.heap := I1.base
  obtain ⟨⟨oc, us, tq, q1, q2, q3⟩, _, _⟩ := I1.hok c' _ e1
  refine PySem.W.callWith_F0 ⟨_, _, _, _, stands⟩ ?_
  have called : codeAny (model X.prog X.w) (X.A.deeper (envOfC qg sg s.heap.objs.size g cdg)) (.call (.ref f) ⟨[], []⟩) (CR (L2.CX X.prog X.w) (envOfC qg sg s.heap.objs.size g cdg :: X.stack) X.prog X.w J1 t Q E) t := by
    refine PySem.W.kla_callFunE hr.depth stands rfl L.co L.gen rfl ⟨c', oc, us, tq, rfl, q1, q2, q3⟩ ?_
    rw [binds]
    refine wpAny_pure (wpAny_newFunctionEnv (fun y m => (L.own y m).2) (fun y m => absurd m (by simp)) (fun h1 ns sb => ⟨I1.nolimit.fresh _ sb, ?_⟩) L.kind)
    have keep : ∀ b o, t.heap.get? b = some o → h1.get? b = some o := fun b o e => sb.extBut b o (Nat.ne_of_lt (Heap.lt_size e)) (Heap.get?_push_of_some _ e)
    have J0 := lam_start2 (E := E) (f := f) (c' := c') (tk := t.toks + ([] : List (Str × Value)).length) I L I1.env0 hr.hd un ns keep
    have body0 := run (X.A.deeper (envOfC qg sg s.heap.objs.size g cdg)) (envOfC qg sg s.heap.objs.size g cdg :: X.stack) t J1 hgu (hr.deeper _)
    show codeAny _ _ (.expr body (lamEnv X scope t.heap.objs.size f c')) _ _
    refine PySem.W.kla_codeExpr (wpAny_mono (body0.run [] _ _ J1 Q J0 e2) ?_ fun u t2 z => z)
    rintro v t2 ⟨w', J2, I2, r2, q⟩
    exact ⟨w', J2, I2.os, I2.bare, I2.base, I2.hok, r2, q⟩
  refine wpAny_call (codeAny_mono called fun r t2 z => ?_)
  match r, z with
  | .error u, z => exact passes_call tk hW pins2 τ J1 t u t2 I1 z
  | .ok (.ret u), z => exact I1.after z
  | .ok .next, z => exact z.elim
  | .ok .brk, z => exact z.elim
  | .ok .cont, z => exact z.elim
end
/-- the def that calls what it is handed: what comes of it -/
def GivesG (X : Cx) (Ng : List Str) (x : Str) (sg : Scope) (g : Addr) (cdg : Value) (bg : List Stmt) (cl : Str) (q : Str) (TT : (XK → Hp → VK → Prop) → Hp → VK → Prop) : Prop :=
  ∀ (f c' : Addr) (s : Shared) (H : Hp) (Q : VK) (tl : XK → Hp → VK → Prop), (cxOf C8.CX0 X.prog X.w X.K X.mg X.base Ng x sg g cdg X.A X.stack s H C8.E0).A.units + 66 < cLine →
    (∀ (V : WX) (pn : List (Addr × Obj)) (xe : Value → Shared → Prop) (E : XK) (q1 q2 : Pos), Takes ((cxOf C8.CX0 X.prog X.w X.K X.mg X.base Ng x sg g cdg X.A X.stack s H C8.E0).tr pn xe) V → (∀ cls d σ' H', E cls d H' → V cls d σ' H') →
      PE ((cxOf C8.CX0 X.prog X.w X.K X.mg X.base Ng x sg g cdg X.A X.stack s H C8.E0).tr pn xe) (.Call (.Name cl q1) [] [] q2) (fun τ J Q => τ[0]? = some (some (.ref f)) ∧ J c' = some (CodeO c' q) ∧ tl E J Q)) →
    H c' = some (CodeO c' q) → TT tl H Q → ∃ t, PSs (cxOf C8.CX0 X.prog X.w X.K X.mg X.base Ng x sg g cdg X.A X.stack s H C8.E0).nox bg t ∧ t { nx := fun _ H' => Q .non H', rt := Q } (L2.start Ng [.ref f]) H
section
variable {X : Cx}
/-- x(lambda: body) -/
theorem pe_lamG {TT : (XK → Hp → VK → Prop) → Hp → VK → Prop} {x cl : Str} {g c P : Addr} {k : Nat} {pg params : Arguments} {bg : List Stmt} {sg scope : Scope} {dV kV doc pm cdv ct oc : Value} {an od : Option Addr} {osl : Array (Option Value)} {Ng : List Str} {body : Expr} {t : XK → TE} {p lpos pos : Pos}
    (hgu : X.A.guards = some []) (hg : Gl X x) (hm : X.mg x = some (.ref g)) (hk : PySem.W.keepIn X.K (.ref g) = true) (lk : X.K.lookup g = some ⟨oc, od, .func (PySem.W.fnOf x x pg bg sg dV kV doc pm an cdv ct), osl⟩) (hcg : PySem.W.codeIn X.K cdv x = true)
    (hb : L2.Binds X.K (PySem.W.fnOf x x pg bg sg dV kV doc pm an cdv ct) [cl] []) (Sg : FnScope Ng [cl] sg) (h0 : Ng[0]? = some cl) (vis : Vis sg cl) (hG : GivesG X Ng x sg g cdv bg cl (X.env.qual ++ "<lambda>") TT) (TB : TabB X.base X.mg c P) (hcode : X.env.code = .ref c)
    (mT : (P, X.env.qual ++ "<lambda>") ∈ TC.l) (uT : ∀ p ∈ TC.l, p.1 = P → p.2 = X.env.qual ++ "<lambda>") (hr : Room (k + 2) X.A) (L : LamS X.env.scope scope) (hdef : defaultsOf params X.env = ([], []))
    (binds : ∀ (q : Str) (cs : List (Str × Addr)) (pm cv ctv : Value), bindArgs (PySem.W.kla_fn "<lambda>" q params body scope cs pm cv ctv) ⟨[], []⟩ = pure [])
    (run : ∀ (A : Around) (outer : List Env) (s : Shared) (H : Hp) (E : XK) (f c' : Addr), A.guards = some [] → Room k (A.deeper (lamEnv X scope s.heap.objs.size f c')) → PE (lamCx X A outer s H E scope f c') body (t E))
    (d0 : (x == ("__debug__" : Str)) = false) (d1 : (cl == ("__debug__" : Str)) = false) (d2 : (cl == ("__classdict__" : Str)) = false) :
    PE X (.Call (.Name x p) [.Lambda params body scope lpos] [] pos) (tLam TC.l TT t) := by
  refine ⟨fun pins s σ H Q I ⟨hT, h⟩ => wpAny_Call_Name_kw (ld_glob I hg hm ?_ d0)⟩
  refine PySem.W.callWith_K I.ok.mod.kin hk ?_ rfl rfl
  show wpAny (model X.prog X.w) X.A (spliced ((false, eval (.Lambda params body scope lpos) X.env) :: backTo pos (starEach [] X.env))) _ X.xe s
  refine Calls.spliced_cons (lam_make2 I TB hcode mT uT hT hdef (L.has I.ok) fun f c' pm2 ctv H1 s1 I1 x1 T1 made n1 n2 hco => Calls.spliced_nil ⟨I1.kIn, ?_⟩)
  have all : codeAny (model X.prog X.w) X.A (.call (.ref g) ⟨[.ref f], []⟩) (CR C8.CX0 X.stack X.prog X.w H1 s1 Q C8.E0) s1 := by
    refine run_ofS (N := Ng) (ps := [cl]) (us := [.ref f]) (vs := [.ref f]) lk hcg Sg hr I1.env0 (hb s1 [.ref f] I1.kIn rfl) (.cons rfl .nil) rfl fun hr2 => ?_
    have hun : (cxOf C8.CX0 X.prog X.w X.K X.mg X.base Ng x sg g cdv X.A X.stack s1 H1 C8.E0).A.units + 66 < cLine := by
      have := hr2.un
      show (X.A.deeper (envOfC x sg s1.heap.objs.size g cdv)).units + 66 < cLine
      omega
    obtain ⟨u, e1, e2⟩ := hG f c' s1 H1 Q (fun E H' Q' => t E σ H' Q') hun (fun W pn xe E p1 p2 tk hW => pe_actG I1 hgu L made n1 n2 (binds _ _ _ _ _) tk hW hr2 (fun A outer s H g2 r2 => run A outer s H E f c' g2 r2) h0 vis d1 d2) hco (h H1 x1 T1)
    exact ⟨u, e1.nox, e2⟩
  refine wpAny_call (codeAny_mono all fun r s2 z => ?_)
  match r, z with
  | .error u, z => exact (show False from z).elim
  | .ok (.ret u), z => exact I1.after z
  | .ok .next, z => exact z.elim
  | .ok .brk, z => exact z.elim
  | .ok .cont, z => exact z.elim
end
end DL
end PDL28
section PDL29
set_option maxHeartbeats 2000000
/-! heard(lambda: f(..)) as data. -/
namespace DL
open PySem PySem.Spec PyProof.Rows L2 LamX
variable [TC : TabsC]

section
variable {K : PySem.W.Frag} {mg : Str → Option Value} {F B H H1 : Hp} {pa : Nat → Option Addr} {σ : L2.St} {ρ : Rho}
/-- the tables have grown -/
theorem StR.ext (S : StR K F B pa σ H ρ) (x : ExtN H H1) (t : TabsH H1) : StR K F B pa σ H1 ρ := by
  refine S.grow (Same.refl _) (fun b o e => x b o (S.sb b o e) fun ps z => S.tb.b b ps (by rw [e, z])) (fun b o e => x b o (S.sf b o e) fun ps z => S.tb.f b ps (by rw [e, z])) ⟨t, S.tb.b, S.tb.f⟩ S.fb fun i a c => ⟨(S.cellB c).1, ?_⟩
  cases e : H a with
  | none => exact absurd e (S.cellB c).2.2
  | some o => exact x a o e fun ps z => S.noT c ps (by rw [e, z])
def onlyD : Sl → Sl
  | .d x => .d x
  | _ => .u
/-- what a lambda sees of the slots -/
theorem StR.lam (S : StR K F B pa σ H ρ) : StR K (plusH F (ownA ρ σ H none)) B (fun _ => none) σ H (ρ.map onlyD) := by
  have back : ∀ {i : Nat} {s : Sl}, (ρ.map onlyD)[i]? = some s → ∃ t, ρ[i]? = some t ∧ onlyD t = s := fun {i s} e => by
    rw [List.getElem?_map] at e
    cases q : ρ[i]? with
    | none => rw [q] at e; cases e
    | some t => rw [q] at e; exact ⟨t, rfl, Option.some.inj e⟩
  have none_ : ∀ {i : Nat} {a : Addr}, ¬ CellAt (ρ.map onlyD) σ i a := fun {i a} ⟨s, e, hc, _⟩ => by
    obtain ⟨t, _, rfl⟩ := back e
    cases t <;> cases hc
  refine ⟨by rw [List.length_map]; exact S.len, S.sb, plus_le S.sf ownA_le, ⟨S.tb.t, S.tb.b, S.tb.f.plus fun b ps z => (ownA_cell (by rw [z]; simp)).elim fun i c => S.noT c.1 ps (ownA_le b _ z)⟩, fun q hq => ?_, fun i s e => ?_, fun i j a c _ => (none_ c).elim⟩
  · by_cases hF : F q = none
    · obtain ⟨i, c, _⟩ := ownA_cell (fun z => hq (plus_none.mpr ⟨hF, z⟩))
      exact (S.cellB c).1
    · exact S.fb q hF
  · obtain ⟨t, e1, rfl⟩ := back e
    have w := S.sl i t e1
    cases t with
    | d x => exact w
    | u => trivial
    | l xs => trivial
    | p xs => trivial
    | k t kvs => trivial
/-- the words of what is heard -/
def wordOf (x1 w1 x2 w2 : Str) (c : Str) : Option Str := if c = x1 then some w1 else if c = x2 then some w2 else none
def eHeard (x1 w1 x2 w2 : Str) (g : XM) : EM := fun ρ => (g (ρ.map onlyD)).bind fun p => (wordOf x1 w1 x2 w2 p.1).bind fun wd => if reprOk p.2 = true then some (.d (.tuple [.str wd, .str p.2.shown, .bool true]), ρ) else none
theorem tHeard_of {x1 w1 x2 w2 : Str} {C1 C2 : Addr} {g : XM} (m1 : mg x1 = some (.ref C1)) (m2 : mg x2 = some (.ref C2)) : ∀ σ H Q, tD K (eHeard x1 w1 x2 w2 g) σ H Q → tLam TC.l (TTh K C1 C2 w1 w2) (fun E σ H _ => tXE K mg E g σ H) σ H Q := fun σ H Q ⟨F, B, pa, ρ, r, ρ', S, e, k⟩ => by
  obtain ⟨⟨c, d⟩, e1, e⟩ := bind_some e
  obtain ⟨wd, e2, e⟩ := bind_some e
  change (if reprOk d = true then some (Rs.d (.tuple [.str wd, .str d.shown, .bool true]), ρ) else none) = some (r, ρ') at e
  split at e
  · rename_i hr
    cases e
    refine ⟨S.tb.t, fun H1 x t Q' => ?_⟩
    have S1 := S.ext x t
    refine ⟨_, B, _, _, c, d, S1.lam, e1, fun y C dx B' H' ⟨pa1, σ1, ρ1, K1⟩ s1 dy hm hx => ?_⟩
    have S2 := S1.called K1 s1
    refine ⟨C, wd, ?_, rfl, dx, y, B', d, rfl, hx, K1.sb, dy, hr, fun q hq => ?_⟩
    · unfold wordOf at e2
      split at e2
      · rename_i hc
        subst hc
        rw [m1] at hm
        cases hm
        cases e2
        exact .inl ⟨rfl, rfl⟩
      · split at e2
        · rename_i hc
          subst hc
          rw [m2] at hm
          cases hm
          cases e2
          exact .inr ⟨rfl, rfl⟩
        · cases e2
    · obtain ⟨S3, s3⟩ := S2.newData (o := .tup [.str wd, .str d.shown, .bl true]) (fun ps z => by cases z) hq
      exact k _ _ _ S3 (s1.trans s3) (.tup upd_same (.cons (.str _) (.cons (.str _) (.cons (.bl true) .nil))))
  · cases e
end
/-! ### f(k = v, ..) that raises -/
section
variable {X : Cx} {E : XK} {fk : AM} {R : XM} {x : Str} {p pos : Pos} {n k : Nat} {ps ks : List Str} {stx : Stmt} {kws : List Keyword}
def xCallK (n : Nat) (ix : List Nat) (R : XM) (fa : AM) : XM := fun ρ => (fa ρ).bind fun a => if a.1.length = n ∧ (perm ix a.1).length = n then R ((perm ix a.1).map .d) else none
theorem xe_callK {ix : List Nat} (C : CalleeX X.prog X.w X.K X.mg X.base k x stx ps n R) (tk : Takes X fun cls d _ H => E cls d H) (hgu : X.A.guards = some []) (hr : Room k X.A) (hg : Gl X x)
    (hix : ∀ (kV doc pm : Value) (an : Option Addr) (cdv ct : Value) (ws : List Value), ws.length = ks.length → bindArgs (PySem.W.fnOf x x (defArgs stx) (defBody stx) (defScope stx) .none kV doc pm an cdv ct) ⟨[], ks.zip ws⟩ = pure (ps.zip (perm ix ws))) (hl : ks.length = n) (ha : DK X kws fk)
    (hall : (backToKw pos (keywordEach kws X.env)).all (·.1.isSome) = true := by rfl) (hks : (backToKw pos (keywordEach kws X.env)).filterMap (·.1) = ks := by rfl)
    (hdb : (x == ("__debug__" : Str)) = false := by decide) (hpl : ((backTo pos (starEach [] X.env)).any (·.1) || (backToKw pos (keywordEach kws X.env)).any (·.1.isNone)) = false := by rfl) :
    XE' X E (.Call (.Name x p) [] kws pos) (xCallK n ix R fk) := by
  obtain ⟨f, fd, F, hm, hk, _, hkb⟩ := C.ex
  have hb := hkb ks ix hix
  refine ⟨fun pins s σ H Q I h => wpAny_Call_Name_kw (ld_glob I hg hm ?_ hdb)⟩
  obtain ⟨F', B, pa, ρ, c, d, S, e, q⟩ := h
  obtain ⟨⟨ds, ρ1⟩, e1, e2⟩ := bind_some e
  change (if ds.length = n ∧ (perm ix ds).length = n then R ((perm ix ds).map .d) else none) = some (c, d) at e2
  split at e2
  · rename_i hn
    refine PySem.W.callWith_KW0 (h₀ := X.base) I.ok.mod.kin hk hall (thn (ha.run pos pins s σ H (fun vs H1 => ∃ B1, StR X.K F' B1 pa σ H1 ρ1 ∧ Same B B1 ∧ DDs X.K B1 vs ds) I ⟨F', B, pa, ρ, ds, ρ1, S, e1, fun vs B1 H1 S1 s1 d1 => ⟨B1, S1, s1, d1⟩⟩) fun ws s1 ⟨zs, H1, I1, rz, B1, S1, b1, d1⟩ => ⟨I1.kIn, ?_⟩) hpl
    rw [hks]
    have hw : ws.length = ks.length := by rw [← rz.length, d1.length, hn.1, hl]
    have sp : spX X.K X.mg n R (perm ix zs) H1 Q E := ⟨by rw [(d1.perm ix).length]; exact hn.2, _, B1, _, _, c, d, S1.call (d1.perm ix), e2, kept_back S1 (q.mono b1)⟩
    refine wpAny_call (codeAny_mono (runG F hgu hr (hb s1 ws I1.kIn hw) (passes_call tk fun _ _ _ _ z => z) I1 (Vals.perm rz ix) sp) fun r s' hq => ?_)
    match r, hq with
    | .error u, z => exact z
    | .ok (.ret u), z => exact z
    | .ok .next, z => exact z.elim
    | .ok .brk, z => exact z.elim
    | .ok .cont, z => exact z.elim
  · cases e2
end
end DL
end PDL29
section PDL30
set_option maxHeartbeats 2000000
/-! More methods of a list; several ways to raise; the def that makes the lambdas. -/
namespace DL
open PySem PySem.Spec PyProof.Rows L2 LamX
variable [TC : TabsC]

section
variable {X : Cx}
theorem md_insert : MtR X "list.insert" (rMD X.K opInsert) := MtR.imp mt_insert fun x vs H Q ⟨B, a, ws, xs, ds, d, ys, hx, sb, hB, hH, dw, dv, eo, k⟩ => by
  unfold opInsert at eo
  split at eo
  · rename_i i d1
    split at eo
    · rename_i hz
      cases eo
      obtain ⟨v, u, rfl, h1, h2⟩ := two_of dv
      cases h1
      exact ⟨a, ws, i, u, hx, rfl, hH, by rw [dw.length]; exact hz.1, hz.2.1, hz.2.2, k _ _ .non (((dw.take _).append (.cons h2 .nil)).append (dw.drop _))⟩
    · cases eo
  · cases eo
variable {y : Str} {e e2 : Expr} {fa : AM} {py apos cpos : Pos} {i : Nat}
theorem ty_insert : typeOf (.builtin "list.insert") = pure (.type "method_descriptor") := by kernel_rfl
theorem ty_clear : typeOf (.builtin "list.clear") = pure (.type "method_descriptor") := by kernel_rfl
theorem de_clear (hp : PE X (.Name y py) (tVar i)) (hbase : attributeBase (.Name y py) "clear" X.env (eval (.Name y py) X.env) = eval (.Name y py) X.env := by rfl) (hline : (apos.endLine == cpos.line) = true := by rfl) :
    DE X (.Call (.Attribute (.Name y py) "clear" apos) [] [] cpos) (eMeth opClear i aNil) := de_meth0 PySem.F.plainAttrs_list PySem.F.slot_list_clear ty_clear md_clear hp hbase hline
theorem de_popA (hp : PE X (.Name y py) (tVar i)) (ha : DA X [e] fa)
    (hcall : ((backTo cpos (starEach [e] X.env)).all (!·.1) && (backToKw cpos (keywordEach [] X.env)).all (·.1.isSome) && decide (([e] : List Expr).length + ([] : List Keyword).length + (if ([] : List Keyword).isEmpty = true then 0 else 1) < 30)) = true := by rfl)
    (hbase : attributeBase (.Name y py) "pop" X.env (eval (.Name y py) X.env) = eval (.Name y py) X.env := by rfl) (hline : (apos.endLine == cpos.line) = true := by rfl) (he : starEach [e] X.env = (false, eval e X.env) :: starEach [] X.env := by rfl) :
    DE X (.Call (.Attribute (.Name y py) "pop" apos) [e] [] cpos) (eMeth opPopAt i fa) := de_meth PySem.F.plainAttrs_list PySem.F.slot_list_pop PySem.F.type_list_pop md_popAt hp ha hbase hcall hline he rfl
theorem de_insert (hp : PE X (.Name y py) (tVar i)) (ha : DA X [e, e2] fa)
    (hcall : ((backTo cpos (starEach [e, e2] X.env)).all (!·.1) && (backToKw cpos (keywordEach [] X.env)).all (·.1.isSome) && decide (([e, e2] : List Expr).length + ([] : List Keyword).length + (if ([] : List Keyword).isEmpty = true then 0 else 1) < 30)) = true := by rfl)
    (hbase : attributeBase (.Name y py) "insert" X.env (eval (.Name y py) X.env) = eval (.Name y py) X.env := by rfl) (hline : (apos.endLine == cpos.line) = true := by rfl) (he : starEach [e, e2] X.env = (false, eval e X.env) :: starEach [e2] X.env := by rfl) (hpl : (backTo cpos (starEach [e2] X.env)).any (·.1) = false := by rfl) :
    DE X (.Call (.Attribute (.Name y py) "insert" apos) [e, e2] [] cpos) (eMeth opInsert i fa) := de_meth PySem.F.plainAttrs_list PySem.F.slot_list_insert ty_insert md_insert hp ha hbase hcall hline he hpl
end
/-! ### raised here or there -/
section
variable {X : Cx} {E : XK} {g g' : XM} {e : Expr} {es : List Expr} {sts : List Stmt} {st : Stmt}
def xOr (g g' : XM) : XM := fun ρ => match g ρ with
  | some p => some p
  | none => g' ρ
theorem xOr_cases {K : PySem.W.Frag} {mg : Str → Option Value} {σ : L2.St} {H : Hp} (h : tXE K mg E (xOr g g') σ H) : tXE K mg E g σ H ∨ tXE K mg E g' σ H := by
  obtain ⟨F, B, pa, ρ, c, d, S, e, k⟩ := h
  unfold xOr at e
  cases q : g ρ with
  | none => rw [q] at e; exact .inr ⟨F, B, pa, ρ, c, d, S, e, k⟩
  | some p =>
    rw [q] at e
    cases e
    exact .inl ⟨F, B, pa, ρ, c, d, S, q, k⟩
theorem xs_or (h : XSs' X E sts g) (h' : XSs' X E sts g') : XSs' X E sts (xOr g g') := ⟨fun pins s σ H D I z => (xOr_cases z).elim (fun z => h.run pins s σ H D I z) fun z => h'.run pins s σ H D I z⟩
end
/-! ### a def whose code object is known -/
structure DefT (K : PySem.W.Frag) (mg : Str → Option Value) (x : Str) (st : Stmt) (ps : List Str) (c : Addr) : Prop where
  ex : ∃ (f : Addr) (oc : Value) (od : Option Addr) (kV doc pm : Value) (an : Option Addr) (ct : Value) (osl : Array (Option Value)), K.lookup f = some ⟨oc, od, .func (PySem.W.fnOf x x (defArgs st) (defBody st) (defScope st) .none kV doc pm an (.ref c) ct), osl⟩ ∧ PySem.W.codeIn K (.ref c) x = true ∧ PySem.W.keepIn K (.ref f) = true ∧ mg x = some (.ref f) ∧
    ∀ (kV doc pm : Value) (an : Option Addr) (cdv ct : Value) (us : List Value), us.length = ps.length → bindArgs (PySem.W.fnOf x x (defArgs st) (defBody st) (defScope st) .none kV doc pm an cdv ct) ⟨us, []⟩ = pure (ps.zip us)
theorem calleeT {P : Program} {w : World} {K : PySem.W.Frag} {mg : Str → Option Value} {base : Heap} {k : Nat} {x : Str} {st : Stmt} {N ps : List Str} {m : Nat} {g : SM} {c : Addr} (D : DefT K mg x st ps c) (S : FnScope N ps (defScope st)) (hm : N.length = ps.length + m)
    (body : ∀ (f : Addr) (A : Around) (outer : List Env) (s : Shared) (H : Hp) (E : XK), A.guards = some [] → Room k (CxD P w K mg base N x st f (.ref c) A outer s H E).A → (CxD P w K mg base N x st f (.ref c) A outer s H E).A.units + 66 < cLine → DSs (CxD P w K mg base N x st f (.ref c) A outer s H E) (defBody st) g) :
    Callee P w K mg base (k + 1) x st ps ps.length (ofBody ps.length m g) := by
  obtain ⟨f, oc, od, kV, doc, pm, an, ct, osl, lk, hcd, hk, hmg, hb⟩ := D.ex
  have sp : FnG P w K mg base CX0 (k + 1) f (PySem.W.fnOf x x (defArgs st) (defBody st) (defScope st) .none kV doc pm an (.ref c) ct) ps (spG K ps.length (ofBody ps.length m g)) := by
    refine ⟨fun vs H Q E h => ?_, fun A outer s H args us vs Q E hg hr e0 hb r hsp => ?_⟩
    · obtain ⟨_, _, _, _, _, _, h, _⟩ := h
      exact h
    · have hl : vs.length = ps.length := by
        obtain ⟨_, _, _, _, _, _, h, _⟩ := hsp
        exact h
      refine run_ofS (N := N) (CX := CX0) lk hcd S hr e0 hb r hl fun hr2 => ?_
      obtain ⟨F', B, pa, ρ, r', ρ', _, S0, hpa, e, q⟩ := hsp
      have hun : (CxD P w K mg base N x st f (.ref c) A outer s H E).A.units + 66 < cLine := by
        have := hr2.un
        show (A.deeper (envOfC x (defScope st) s.heap.objs.size f (.ref c))).units + 66 < cLine
        omega
      exact ⟨_, PSs.nox (body f A outer s H E hg hr2 hun), body_read S0 (by omega) hl hpa e q⟩
  exact ⟨f, _, sp, hmg, hk, .all (hb kV doc pm an (.ref c) ct), fun ks ix h => .all fun ws hl => h _ _ _ _ _ _ ws hl⟩
end DL
end PDL30
section PDL31
set_option maxHeartbeats 2000000
namespace DL
open PySem PySem.Spec PyProof.Rows L2 LamX
variable [TC : TabsC]

/-- heard(lambda: f(..)) -/
theorem de_heard {X : Cx} {x cl x1 w1 x2 w2 : Str} {stH : Stmt} {Ng : List Str} {C1 C2 c P : Addr} {g : XM} {params : Arguments} {body : Expr} {scope : Scope} {k : Nat} {p lpos pos : Pos} (hgu : X.A.guards = some []) (hr : Room (k + 2) X.A) (hg : Gl X x) (D : Def X.K X.mg x stH [cl]) (Sg : FnScope Ng [cl] (defScope stH))
    (hG : ∀ (gA : Addr) (cdv : Value), GivesG X Ng x (defScope stH) gA cdv (defBody stH) cl (X.env.qual ++ "<lambda>") (TTh X.K C1 C2 w1 w2)) (TB : TabB X.base X.mg c P) (hcode : X.env.code = .ref c) (hT : TC.l = [(P, X.env.qual ++ "<lambda>")]) (m1 : X.mg x1 = some (.ref C1)) (m2 : X.mg x2 = some (.ref C2))
    (run : ∀ (A : Around) (outer : List Env) (s : Shared) (H : Hp) (E : XK) (f c' : Addr), A.guards = some [] → Room k (A.deeper (lamEnv X scope s.heap.objs.size f c')) → Takes (lamCx X A outer s H E scope f c') (fun cls d _ H => E cls d H) → XE' (lamCx X A outer s H E scope f c') E body g)
    (L : LamS X.env.scope scope) (hdef : defaultsOf params X.env = ([], [])) (binds : ∀ (q : Str) (cs : List (Str × Addr)) (pm cv ctv : Value), bindArgs (PySem.W.kla_fn "<lambda>" q params body scope cs pm cv ctv) ⟨[], []⟩ = pure [])
    (h0 : Ng[0]? = some cl) (vis : Vis (defScope stH) cl) (d0 : (x == ("__debug__" : Str)) = false := by decide) (d1 : (cl == ("__debug__" : Str)) = false := by decide) (d2 : (cl == ("__classdict__" : Str)) = false := by decide) :
    DE X (.Call (.Name x p) [.Lambda params body scope lpos] [] pos) (eHeard x1 w1 x2 w2 g) := by
  obtain ⟨gA, fd, F, hm, hb, _⟩ := D.ex
  obtain ⟨oc, od, kV, doc, pm, an, cdv, ct, osl, rfl, lk, hcd⟩ := F.ex
  refine PE.imp (pe_lamG (t := fun E σ H _ => tXE X.K X.mg E g σ H) hgu hg hm F.kp lk hcd hb Sg h0 vis (hG gA cdv) TB hcode (by rw [hT]; exact List.mem_singleton.mpr rfl) (fun q hq _ => by rw [hT] at hq; rw [List.mem_singleton.mp hq]) hr L hdef binds (fun A outer s H E f c' hA hrA => run A outer s H E f c' hA hrA (takes_of rfl rfl rfl rfl)) d0 d1 d2) (tHeard_of m1 m2)
end DL
end PDL31
section PDL32
set_option maxHeartbeats 2000000
/-! The law's head where one def makes lambdas: its code object at ca, their table at Pa. -/
namespace DL
open PySem PySem.Spec PyProof.Rows L2 LamX

section
variable {P : Program} {w : World} {K : PySem.W.Frag} {mg mb : Str → Option Value} {k : Nat} {fa a ca Pa : Addr} {fd : FuncData} {x : Str} {sp : Sp} {s : Shared} {vs : List Value}
/-- the call from outside: H tracks the table, and the script or not -/
theorem outer_callT {H : Hp} (KX : K.In s.heap) (hm : s.heap.Ns mainGlobals mg) (hb : s.heap.Ns builtinsNs mb) (hbb : ∀ y : Str, y ≠ "__name__" → mb y = bootBuiltins y) (nolim : s.heap.NoLimit) (nogen : s.gens = #[])
    (hP : s.heap.get? Pa = some (PySem.W.tabObj #[])) (code : PySem.W.CodeHd s.heap ca Pa) (hbm : ∃ (bm : Addr) (ob : Obj), mg "__builtins__" = some (.ref bm) ∧ bm ≠ builtinsNs ∧ s.heap.get? bm = some ob ∧ ob.cls = .type "module" ∧ ob.dict = some builtinsNs ∧ ob.data = .plain)
    (ha : s.heap.get? a = some { cls := .type "list", data := .seq vs.toArray }) (hr : Room k callerA) (F : ∀ base : Heap, K.In base → base.Ns mainGlobals mg → TabB base mg ca Pa → FnG P w K mg base CX0 k fa fd [x] sp) (bind : ∀ (t : Shared) (u : Value), BindsTo t fd ⟨[u], []⟩ [(x, u)])
    (hH : H Pa = some (.tbl #[])) (what : ∀ b, H b = none ∨ b = Pa ∨ (b = a ∧ ∃ ob xs, H b = some (.frz ob (.lst xs)))) (hS : sp [.ref a] H (fun v _ => v = .bl true) E0) (hok : HOk P w H s.heap) (hK : ∀ b, H b ≠ none → K.lookup b = none) :
    codeAny (model P w) callerA (.call (.ref fa) ⟨[.ref a], []⟩) (fun r t => r = .ok (.ret (.bool true)) ∧ OldK s.heap t.heap ∧ t.os = s.os ∧ AllBare t.gens) s := by
  have seen : ∀ {b : Addr} {o : Obj}, s.heap.get? b = some o → (∀ ys m, o.data ≠ .seq ys m) → o.data ≠ .fields #[] → H b = none := fun {b o} e d1 d2 => by
    rcases what b with z | z | ⟨z, _⟩
    · exact z
    · subst z
      rw [hP] at e
      cases e
      exact absurd rfl d2
    · subst z
      rw [ha] at e
      cases e
      exact absurd rfl (d1 _ _)
  have base : ∀ {b : Addr} {o : Obj}, s.heap.get? b = some o → H b = none → (hidT s.heap H).get? b = some o := fun e n => hidT_get e n
  have isD : ∀ {b : Addr} {o : Obj} {es : Array DictEntry} {ep : Nat}, s.heap.get? b = some o → o.data = .dict es ep → H b = none := fun {b o es ep} e d => seen e (fun ys m z => by rw [d] at z; cases z) fun z => by rw [d] at z; cases z
  have ns : ∀ {b : Addr} {m : Str → Option Value}, s.heap.Ns b m → (hidT s.heap H).Ns b m := fun {b m} h => by
    obtain ⟨o, es, ep, e, d, r⟩ := h
    exact ⟨o, es, ep, base e (isD e d), d, r⟩
  have kin : K.In (hidT s.heap H) := fun b o e => base (KX b o e) (Classical.byContradiction fun z => by rw [hK b z] at e; cases e)
  have md : L2.Mod K mg (hidT s.heap H) := by
    obtain ⟨mc, l1, l2⟩ := nolim
    exact ⟨kin, ns hm, ⟨mb, ns hb, hbb⟩, mc, ns l1, l2⟩
  have notG : ∀ {b : Addr} {o : Obj}, s.heap.get? b = some o → (∀ es ep, o.data ≠ .dict es ep) → b ≠ mainGlobals := fun {b o} e d z => by
    obtain ⟨o2, es, ep, e2, d2, _⟩ := hm
    rw [z, e2] at e
    cases e
    exact d _ _ d2
  have tb : TabB (hidT s.heap H) mg ca Pa := by
    refine ⟨?_, ?_, (notG hP fun es ep z => by cases z).symm⟩
    · obtain ⟨o, us, file, tf, flags, tg, inF, text, tt, e1, r1, r2, r3, r⟩ := code
      refine ⟨o, us, file, tf, flags, tg, inF, text, tt, base e1 (seen e1 (fun ys m z => by rw [r2] at z; cases z) fun z => ?_), r1, r2, r3, r⟩
      rw [r2] at z
      cases z
      simp at r3
    · obtain ⟨bm, ob, b1, b2, b3, b4, b5, b6⟩ := hbm
      have np : bm ≠ Pa := fun z => by
        rw [z, hP] at b3
        cases b3
        cases b6
      exact ⟨bm, ob, b1, b2, notG b3 (fun es ep z => by rw [b6] at z; cases z), np, base b3 (seen b3 (fun ys m z => by rw [b6] at z; cases z) fun z => by rw [b6] at z; cases z), b4, b5, b6⟩
  have e0 : Env0 P w K mg (hidT s.heap H) callerA [] s H := ⟨rfl, md, fun b o e => of_hidT e, Nat.le_of_eq (hidT_size _ _), trivial, fun b z => absurd (show b ∈ ([] : List Addr) from z) (by simp), hok, .of_eq nogen⟩
  refine codeAny_mono ((F _ kin (ns hm) tb).run callerA [] s H ⟨[.ref a], []⟩ [.ref a] [.ref a] _ E0 rfl hr e0 (bind s (.ref a)) (.cons rfl .nil) hS) fun r t z => ?_
  match r, z with
  | .error _, z => exact z.elim
  | .ok .next, z => exact z.elim
  | .ok .brk, z => exact z.elim
  | .ok .cont, z => exact z.elim
  | .ok (.ret u), z =>
    obtain ⟨v, H2, os, bare, un, ok2, rv, q⟩ := z
    cases (show v = .bl true from q)
    cases (show u = Value.bool true from rv)
    obtain ⟨more, z1⟩ := un.tbls Pa #[] hH
    have now : t.heap.get? Pa = some (PySem.W.tabObj (#[] ++ more)) := ok2 Pa _ z1
    have keep : ∀ b o, b ≠ Pa → s.heap.get? b = some o → t.heap.get? b = some o := fun b o n e => by
      rcases what b with y | y | ⟨_, ob, xs, y⟩
      · exact un.keep b o e y (by intro m; exact absurd (show b ∈ ([] : List Addr) from m) (by simp)) (by simp)
      · exact absurd y n
      · obtain ⟨e1, _⟩ := hok b _ y
        obtain ⟨e2, _⟩ := ok2 b _ (un.frzs b ob _ y)
        rw [e] at e1
        cases e1
        exact e2
    refine ⟨rfl, ⟨fun b o e => ?_, fun b o e => ?_⟩, os, bare⟩
    · by_cases n : b = Pa
      · subst n
        rw [hP] at e
        cases e
        exact .inr (.inl ⟨(code.tab hP).isCodeTable, rfl, #[], more, rfl, now⟩)
      · exact .inl (keep b o n e)
    · by_cases n : b = Pa
      · exact ⟨_, by rw [n]; exact now⟩
      · exact ⟨o, keep b o n e⟩
/-- THE HEAD, with a table -/
theorem headT {l : PySem.W.OpenLaw} {n k : Nat} {q : Program} {loose : List Str} {XP : (Str → Option Value) → Heap → Prop} {YP : World → Heap → Prop} {d : DefRec} {K : Params → PySem.W.Frag} {sp : PySem.W.Frag → Addr → Sp} {x : Str} (hn : l.most = some n) (hn2 : n ≤ sizeLine) (hdf : d.params.defaults = []) (hr : Room k callerA)
    (hY : ∀ (w : World) (h : Heap), YP w h → (K w.params).In h)
    (F : ∀ (w : World) (mg mb : Str → Option Value) (fa : Addr) (h : Heap) (mean : ExcName → Option Value), Top q (PySem.W.looseW q loose) mean mg mb h → (K w.params).In h → h.Ns mainGlobals mg → mg d.name = some (.ref fa) →
      ∃ (ca Pa : Addr) (fd : FuncData), PySem.W.CodeHd h ca Pa ∧ h.get? Pa = some (PySem.W.tabObj #[]) ∧ (K w.params).lookup Pa = none ∧ (∀ (s : Shared) (u : Value), BindsTo s fd ⟨[u], []⟩ [(x, u)]) ∧ ∀ base : Heap, (K w.params).In base → base.Ns mainGlobals mg → TabB base mg ca Pa → FnG l.prog w (K w.params) mg base CX0 k fa fd [x] (sp (K w.params) Pa))
    (hsp : ∀ (K : PySem.W.Frag) (Pa : Addr) (H : Hp) (a : Addr) (ns : List Int), ns.length ≤ n → H Pa = some (.tbl #[]) → SqL K H a (ns.map V.int) → sp K Pa [.ref a] H (fun v _ => v = .bl true) E0) :
    PySem.W.WalkO q loose XP YP l.row.toRowW d [] (fun f vs => PySem.call f vs) := by
  refine Att.attach_call hn hdf fun w s₀ s₁ mg mb fa o pm cd doc a vs ns G Y ho hd hcd hmg hobj hints hlen hg => ?_
  have KX := hY w _ Y
  obtain ⟨ca, Pa, fd, code, hP, nP, hb, hF⟩ := F w mg mb fa _ _ G.T KX G.T.g hmg
  have rv := vals_ints hints
  have hz : ns.length ≤ sizeLine := Nat.le_trans hlen hn2
  have ne : a ≠ Pa := fun z => by
    rw [z, hP] at hobj
    cases hobj
  cases hk : (K w.params).lookup a with
  | some o =>
    have e := KX a o hk
    rw [hobj] at e
    cases e
    let H : Hp := fun b => if b = Pa then some (.tbl #[]) else none
    have hH : H Pa = some (.tbl #[]) := if_pos rfl
    have h0 : ∀ b, b ≠ Pa → H b = none := fun b n => if_neg n
    refine outer_callT (H := H) KX G.T.g G.T.b G.T.builtins G.T.nolimit hg hP code G.T.bmain hobj hr hF hb hH (fun b => ?_) (hsp _ _ _ a ns hlen hH (.inr ⟨_, vs.toArray, _, hk, rfl, rfl, rfl, by rw [List.size_toArray, hints.length]; exact hz, by simpa using rv⟩)) (fun b u z => ?_) fun b z => ?_
    · by_cases n : b = Pa
      · exact .inr (.inl n)
      · exact .inl (h0 b n)
    · by_cases n : b = Pa
      · subst n
        rw [hH] at z
        cases z
        exact hP
      · rw [h0 b n] at z
        cases z
    · by_cases n : b = Pa
      · rw [n]; exact nP
      · exact absurd (h0 b n) z
  | none =>
    let H : Hp := fun b => if b = Pa then some (.tbl #[]) else if b = a then some (.frz { cls := .type "list", data := .seq vs.toArray } (.lst (ns.map V.int))) else none
    have hH : H Pa = some (.tbl #[]) := if_pos rfl
    have hA : H a = some (.frz { cls := .type "list", data := .seq vs.toArray } (.lst (ns.map V.int))) := (if_neg ne).trans (if_pos rfl)
    have h0 : ∀ b, b ≠ Pa → b ≠ a → H b = none := fun b n m => (if_neg n).trans (if_neg m)
    refine outer_callT (H := H) KX G.T.g G.T.b G.T.builtins G.T.nolimit hg hP code G.T.bmain hobj hr hF hb hH (fun b => ?_) (hsp _ _ _ a ns hlen hH (.inl (.inr ⟨_, hA⟩))) (fun b u z => ?_) fun b z => ?_
    · by_cases n : b = Pa
      · exact .inr (.inl n)
      · by_cases m : b = a
        · exact .inr (.inr ⟨m, _, _, by rw [m]; exact hA⟩)
        · exact .inl (h0 b n m)
    · by_cases n : b = Pa
      · subst n
        rw [hH] at z
        cases z
        exact hP
      · by_cases m : b = a
        · subst m
          rw [hA] at z
          cases z
          exact ⟨hobj, by rw [List.length_map]; exact hz, vs, _, rv, hobj⟩
        · rw [h0 b n m] at z
          cases z
    · by_cases n : b = Pa
      · rw [n]; exact nP
      · by_cases m : b = a
        · rw [m]; exact hk
        · exact absurd (h0 b n m) z
end
end DL
end PDL32
section PDL33
set_option maxHeartbeats 1000000
/-! What the head finds of a def that makes lambdas, and of the class of an own error. -/
namespace DL
open PySem PySem.Spec PyProof.Rows L2
theorem tabIn_mk {K : PySem.W.Frag} {x : Str} {f c Pa : Addr} {a1 b1 : Value} {a2 b2 : Option Addr} {fd : FuncData} {a3 b3 : Array (Option Value)} {vs : Array Value} (h1 : PySem.W.nsIn K mainGlobals x = some (some (.ref f))) (h2 : K.lookup f = some ⟨a1, a2, .func fd, a3⟩) (h3 : fd.code = .ref c) (h4 : K.lookup c = some ⟨b1, b2, .fields vs, b3⟩) (h5 : (vs[11]? : Option Value) = some (.ref Pa)) : PySem.W.tabIn K x = some (c, Pa) := by
  unfold PySem.W.tabIn
  simp only [h1, h2, h3, h4, h5]
theorem tab_mk {q : Program} {loose : List Str} {mean : ExcName → Option Value} {mg mb : Str → Option Value} {h : Heap} {d : DefRec} {K : PySem.W.Frag} {x : Str} {f c Pa : Addr} {a1 b1 : Value} {a2 b2 : Option Addr} {fd : FuncData} {a3 b3 : Array (Option Value)} {vs : Array Value} (T : Top q loose mean mg mb h) (X : K.In h) (hr : (recsOf q).find? (fun e => e.name == x) = some d)
    (h1 : PySem.W.nsIn K mainGlobals x = some (some (.ref f))) (h2 : K.lookup f = some ⟨a1, a2, .func fd, a3⟩) (h3 : fd.code = .ref c) (h4 : K.lookup c = some ⟨b1, b2, .fields vs, b3⟩) (h5 : (vs[11]? : Option Value) = some (.ref Pa)) : PySem.W.CodeHd h c Pa ∧ h.get? Pa = some (PySem.W.tabObj #[]) := PySem.W.tab_of T X hr (tabIn_mk h1 h2 h3 h4 h5)
theorem def_mkT {K : PySem.W.Frag} {h : Heap} {mg : Str → Option Value} {x : Str} {st : Stmt} {ps : List Str} {f c : Addr} {oc : Value} {od an : Option Addr} {osl : Array (Option Value)} {kV doc pm ct : Value} (X : K.In h) (G : h.Ns mainGlobals mg) (a : PySem.W.nsIn K mainGlobals x = some (some (.ref f)))
    (l : K.lookup f = some ⟨oc, od, .func (PySem.W.fnOf x x (defArgs st) (defBody st) (defScope st) .none kV doc pm an (.ref c) ct), osl⟩) (cI : PySem.W.codeIn K (.ref c) x = true) (k : PySem.W.keepIn K (.ref f) = true)
    (b : ∀ (kV doc pm : Value) (an : Option Addr) (cdv ct : Value) (us : List Value), us.length = ps.length → bindArgs (PySem.W.fnOf x x (defArgs st) (defBody st) (defScope st) .none kV doc pm an cdv ct) ⟨us, []⟩ = pure (ps.zip us)) : DefT K mg x st ps c :=
  ⟨f, oc, od, kV, doc, pm, an, ct, osl, l, cI, k, PySem.W.mg_of X G a, b⟩
/-- what is written of the class of an own error -/
structure Own (K : PySem.W.Frag) (C fI : Addr) : Prop where
  o : OexC K C
  f : XfC K C
  i : L2.ExcC K C
  v : PySem.W.findIn K (.ref C) "value" = some none
  iC : PySem.W.findIn K (.ref C) "__init__" = some (some (.ref fI))
theorem own_mk {K : PySem.W.Frag} {C fI : Addr} {nm q : Str} {N : Addr} {bs bm : List Value} {sn : List Str} {sub : List Value} {ab : Bool} {col : Option Bool} {dd : Option Addr} {m0 m1 m2 m3 m5 : Option Value}
    (xL : K.lookup C = some (excClassObj nm q C N bs bm true sn sub ab col dd m0 m1 m2 m3 m5 "ValueError.__new__")) (hb : PySem.HandSPX.refsVE bm = true)
    (sa : PySem.W.findIn K (.ref C) "__setattr__" = some (some (.builtin "object.__setattr__"))) (ga : PySem.W.findIn K (.ref C) "__getattribute__" = some (some (.builtin "BaseException.__getattribute__"))) (gg : PySem.W.findIn K (.ref C) "__getattr__" = some none)
    (nb : PySem.W.findIn K (.ref C) "value" = some none) (iC : PySem.W.findIn K (.ref C) "__init__" = some (some (.ref fI))) (kC : PySem.W.keepIn K (.ref C) = true) (eC : PySem.W.subIn K (.ref C) (.type "BaseException") = some true) (tC : PySem.W.typeIn K (.ref C) = some (.type "type"))
    (hC : PySem.W.hasDictIn K C = true) (ha : PySem.W.findIn K (.ref C) "__class__" = some (some (.builtin "object.__class__"))) (hn : PySem.W.specialIn K (.builtin "object.__class__") "__get__" = some (some (.builtin "getset_descriptor.__get__"))) (ht : PySem.W.takesIn K (.builtin "object.__class__") = some true)
    (hm : PySem.W.mroIn K C (.type "object") = some true) : Own K C fI :=
  ⟨⟨⟨nm, q, N, bs, bm, sn, sub, ab, col, dd, m0, m1, m2, m3, m5, xL, hb⟩, sa, eC, tC, kC⟩, ⟨ga, gg, eC, hC⟩, ⟨ga, gg, eC, hC, ha, hn, ht, hm⟩, nb, iC⟩
def iniOf : Stmt → Stmt
  | .ClassDef (body := b :: _) .. => b
  | s => s
end DL
end PDL33
section PK92W
set_option maxHeartbeats 1000000
open PySem PySem.Spec PyProof.Rows L2 DL
namespace K9
def top (i : Nat) : Stmt := PySem.Challenge.pw_citylines_k92_price_tables_bent.main.body.getD i (.Pass ⟨0, 0, 0, 0⟩)
abbrev s_is_integer : Stmt := top 5
abbrev s_is_between : Stmt := top 15
abbrev s_are_rising : Stmt := top 16
abbrev s_are_zones : Stmt := top 17
abbrev s_is_ticket : Stmt := top 18
abbrev s_is_passage : Stmt := top 19
abbrev s_are_tickets : Stmt := top 20
abbrev s_are_passages : Stmt := top 21
abbrev s_want_tickets : Stmt := top 22
abbrev s_want_passages : Stmt := top 23
abbrev s_most_at_once : Stmt := top 24
abbrev s_does_cover : Stmt := top 25
abbrev s_places_in : Stmt := top 26
abbrev s_first_in : Stmt := top 27
abbrev s_kinds_that_cover : Stmt := top 28
abbrev s_parts_with : Stmt := top 29
abbrev s_least_kinds : Stmt := top 30
abbrev s_least_rows : Stmt := top 31
abbrev s_least_prices : Stmt := top 32
abbrev s_cheapest_of : Stmt := top 33
abbrev s_cover_by : Stmt := top 34
abbrev s_is_lot : Stmt := top 35
abbrev s_is_bought : Stmt := top 36
abbrev s_covers : Stmt := top 37
abbrev s_is_worth : Stmt := top 38
abbrev s_is_bounded : Stmt := top 39
abbrev s_is_row_let : Stmt := top 40
abbrev s_bounds : Stmt := top 41
abbrev s_is_cover : Stmt := top 42
abbrev s_cheapest : Stmt := top 43
abbrev s_cheapest_cover : Stmt := top 44
abbrev s_price_table : Stmt := top 45
abbrev s_is_price_table : Stmt := top 46
abbrev s_charges : Stmt := top 47
abbrev s__law_pot : Stmt := top 49
abbrev s__law_draw : Stmt := top 50
abbrev s__law_pick : Stmt := top 51
abbrev s__law_zones : Stmt := top 52
abbrev s__law_ticket : Stmt := top 53
abbrev s__law_tickets : Stmt := top 54
abbrev s__law_passage : Stmt := top 55
abbrev s__law_passages : Stmt := top 56
abbrev s__law_covers : Stmt := top 57
abbrev s__law_lot : Stmt := top 58
abbrev s__law_prices : Stmt := top 59
abbrev s__law_first : Stmt := top 60
abbrev s__law_most : Stmt := top 61
abbrev s__law_least : Stmt := top 62
abbrev s__law_is_table : Stmt := top 63
abbrev s__law_bent : Stmt := top 64
abbrev s__law_is_in : Stmt := top 65
abbrev s__law_are_zones : Stmt := top 66
abbrev s__law_is_ticket : Stmt := top 67
abbrev s__law_is_passage : Stmt := top 68
abbrev s__law_bent_parts : Stmt := top 69
abbrev s__law_heard : Stmt := top 70
abbrev s__law_all_heard : Stmt := top 71
abbrev s__law_refused_right : Stmt := top 72
abbrev s__law_right : Stmt := top 73
abbrev s_law : Stmt := top 74
/-- what the top has written -/
structure Top (K : PySem.W.Frag) (mg : Str → Option Value) : Prop where
  d_is_integer : Def K mg "is_integer" s_is_integer ["value"]
  d_is_between : Def K mg "is_between" s_is_between ["value", "least", "most"]
  d_are_rising : Def K mg "are_rising" s_are_rising ["numbers"]
  d_are_zones : Def K mg "are_zones" s_are_zones ["value"]
  d_is_ticket : Def K mg "is_ticket" s_is_ticket ["value"]
  d_is_passage : Def K mg "is_passage" s_is_passage ["value"]
  d_are_tickets : Def K mg "are_tickets" s_are_tickets ["value"]
  d_are_passages : Def K mg "are_passages" s_are_passages ["value"]
  d_want_tickets : Def K mg "want_tickets" s_want_tickets ["value"]
  d_want_passages : Def K mg "want_passages" s_want_passages ["value"]
  d_most_at_once : Def K mg "most_at_once" s_most_at_once ["passages"]
  d_does_cover : Def K mg "does_cover" s_does_cover ["ticket", "passages"]
  d_places_in : Def K mg "places_in" s_places_in ["number"]
  d_first_in : Def K mg "first_in" s_first_in ["passages", "number"]
  d_kinds_that_cover : Def K mg "kinds_that_cover" s_kinds_that_cover ["tickets", "passages", "number"]
  d_parts_with : Def K mg "parts_with" s_parts_with ["number", "place"]
  d_least_kinds : Def K mg "least_kinds" s_least_kinds ["tickets", "passages"]
  d_least_rows : Def K mg "least_rows" s_least_rows ["tickets", "passages"]
  d_least_prices : Def K mg "least_prices" s_least_prices ["tickets", "passages"]
  d_cheapest_of : Def K mg "cheapest_of" s_cheapest_of ["tickets", "passages"]
  d_cover_by : Def K mg "cover_by" s_cover_by ["rows"]
  d_is_lot : Def K mg "is_lot" s_is_lot ["value", "many"]
  d_is_bought : Def K mg "is_bought" s_is_bought ["tickets", "passages", "value"]
  d_covers : Def K mg "covers" s_covers ["tickets", "passages", "value"]
  d_is_worth : Def K mg "is_worth" s_is_worth ["value"]
  d_is_bounded : Def K mg "is_bounded" s_is_bounded ["worth", "rest", "single"]
  d_is_row_let : Def K mg "is_row_let" s_is_row_let ["singles", "passages", "table", "number"]
  d_bounds : Def K mg "bounds" s_bounds ["tickets", "passages", "value"]
  d_is_cover : Def K mg "is_cover" s_is_cover ["tickets", "passages", "value"]
  d_cheapest : Def K mg "cheapest" s_cheapest ["tickets", "passages"]
  d_cheapest_cover : Def K mg "cheapest_cover" s_cheapest_cover ["tickets", "passages"]
  d_price_table : Def K mg "price_table" s_price_table ["tickets", "passages"]
  d_is_price_table : Def K mg "is_price_table" s_is_price_table ["tickets", "passages", "value"]
  d_charges : Def K mg "charges" s_charges ["tickets", "passages"]
  d__law_pot : Def K mg "_law_pot" s__law_pot ["script", "k"]
  d__law_draw : Def K mg "_law_draw" s__law_draw ["pot", "many"]
  d__law_pick : Def K mg "_law_pick" s__law_pick ["pot", "some"]
  d__law_zones : Def K mg "_law_zones" s__law_zones ["pot"]
  d__law_ticket : Def K mg "_law_ticket" s__law_ticket ["pot"]
  d__law_tickets : Def K mg "_law_tickets" s__law_tickets ["pot"]
  d__law_passage : Def K mg "_law_passage" s__law_passage ["pot"]
  d__law_passages : Def K mg "_law_passages" s__law_passages ["pot", "tickets", "many"]
  d__law_covers : Def K mg "_law_covers" s__law_covers ["ticket", "some"]
  d__law_lot : Def K mg "_law_lot" s__law_lot ["number", "many"]
  d__law_prices : Def K mg "_law_prices" s__law_prices ["tickets", "passages"]
  d__law_first : Def K mg "_law_first" s__law_first ["passages", "lot"]
  d__law_most : Def K mg "_law_most" s__law_most ["prices", "passages", "table", "number"]
  d__law_least : Def K mg "_law_least" s__law_least ["prices", "passages"]
  d__law_is_table : Def K mg "_law_is_table" s__law_is_table ["prices", "passages", "value"]
  d__law_bent : Def K mg "_law_bent" s__law_bent ["pot", "table", "prices", "passages"]
  d__law_is_in : Def K mg "_law_is_in" s__law_is_in ["value", "least", "most"]
  d__law_are_zones : Def K mg "_law_are_zones" s__law_are_zones ["value"]
  d__law_is_ticket : Def K mg "_law_is_ticket" s__law_is_ticket ["value"]
  d__law_is_passage : Def K mg "_law_is_passage" s__law_is_passage ["value"]
  d__law_bent_parts : Def K mg "_law_bent_parts" s__law_bent_parts ["pot", "value"]
  d__law_heard : Def K mg "_law_heard" s__law_heard ["call"]
  d__law_all_heard : Def K mg "_law_all_heard" s__law_all_heard ["tickets", "passages"]
  d__law_refused_right : Def K mg "_law_refused_right" s__law_refused_right ["pot"]
  d__law_right : Def K mg "_law_right" s__law_right ["pot"]
  d_law : Def K mg "law" s_law ["script"]
  z_abs : mg "abs" = none
  z_all : mg "all" = none
  z_any : mg "any" = none
  z_bool : mg "bool" = none
  z_divmod : mg "divmod" = none
  z_enumerate : mg "enumerate" = none
  z_int : mg "int" = none
  z_isinstance : mg "isinstance" = none
  z_len : mg "len" = none
  z_list : mg "list" = none
  z_max : mg "max" = none
  z_min : mg "min" = none
  z_range : mg "range" = none
  z_repr : mg "repr" = none
  z_set : mg "set" = none
  z_sorted : mg "sorted" = none
  z_str : mg "str" = none
  z_tuple : mg "tuple" = none
  z_zip : mg "zip" = none
  g_LATEST : ∃ t, mg "LATEST" = some (.int 9999 t)
  g_MOST_KINDS : ∃ t, mg "MOST_KINDS" = some (.int 8 t)
  g_MOST_MINUTES : ∃ t, mg "MOST_MINUTES" = some (.int 11000 t)
  g_MOST_PASSAGES : ∃ t, mg "MOST_PASSAGES" = some (.int 10 t)
  g_MOST_PERSONS : ∃ t, mg "MOST_PERSONS" = some (.int 5 t)
  g_MOST_PRICE : ∃ t, mg "MOST_PRICE" = some (.int 9999 t)
  g_MOST_SUM : ∃ t, mg "MOST_SUM" = some (.int 99999 t)
  g_MOST_ZONES : ∃ t, mg "MOST_ZONES" = some (.int 4 t)
/-- what raises and what is heard -/
structure TopU [TC : TabsC] (P : Program) (w : World) (K : PySem.W.Frag) (mg : Str → Option Value) (base : Heap) (CE C1 C2 ca Pa : Addr) : Prop where
  x1 : XCls P w K mg base "InvalidTickets" C1
  x2 : XCls P w K mg base "InvalidPassages" C2
  e11 : PySem.W.exmOne K (.ref C1) (.ref C1) = some true
  e21 : PySem.W.exmOne K (.ref C2) (.ref C1) = some false
  e22 : PySem.W.exmOne K (.ref C2) (.ref C2) = some true
  i1 : PySem.W.kitOne K (.ref C1) (.ref CE) = some true
  i2 : PySem.W.kitOne K (.ref C2) (.ref CE) = some true
  ce : mg "CityError" = some (.ref CE)
  d : DefT K mg "_law_all_heard" s__law_all_heard ["tickets", "passages"] ca
  tb : LamX.TabB base mg ca Pa
  tl : TC.l = [(Pa, (("_law_all_heard" : Str) ++ ".<locals>.") ++ "<lambda>")]
section
variable [TC : TabsC] {CE C1 C2 ca Pa : Addr} {P : Program} {w : World} {K : PySem.W.Frag} {mg : Str → Option Value} {base : Heap}
abbrev N_is_integer : List Str := ["value"]
theorem sc_is_integer : FnScope N_is_integer ["value"] (defScope s_is_integer) := ⟨rfl, rfl, rfl, by decide +kernel, rfl, by decide +kernel, by decide +kernel⟩
noncomputable def b_is_integer : SM := (sSeq (sRet (eAnd (eIsi "int" (eVar 0)) (eNot (eIsi "bool" (eVar 0)))))
    sNil)
noncomputable def m_is_integer : GM := ofBody 1 0 b_is_integer
theorem fn_is_integer (T : Top K mg) : Callee P w K mg base 1 "is_integer" s_is_integer ["value"] 1 m_is_integer :=
  callee T.d_is_integer sc_is_integer rfl fun f cdv A outer s H E hgu hr hu =>
    (dss_cons (ds_ret (de_and (de_isi "int" (de_var 0) (by rfl) T.z_isinstance bb_isinstance (by rfl) T.z_int bb_int) (de_one (de_not (de_isi "bool" (de_var 0) (by rfl) T.z_isinstance bb_isinstance (by rfl) T.z_bool bb_bool)))))
    dss_nil)
abbrev N_is_between : List Str := ["value", "least", "most"]
theorem sc_is_between : FnScope N_is_between ["value", "least", "most"] (defScope s_is_between) := ⟨rfl, rfl, rfl, by decide +kernel, rfl, by decide +kernel, by decide +kernel⟩
noncomputable def b_is_between : SM := (sSeq (sRet (eAnd (eCall 1 m_is_integer (aCons (eVar 0) aNil)) (eChain gLe gLe (eVar 1) (eVar 0) (eVar 2))))
    sNil)
noncomputable def m_is_between : GM := ofBody 3 0 b_is_between
theorem fn_is_between (T : Top K mg) : Callee P w K mg base 2 "is_between" s_is_between ["value", "least", "most"] 3 m_is_between :=
  callee T.d_is_between sc_is_between rfl fun f cdv A outer s H E hgu hr hu =>
    (dss_cons (ds_ret (de_and (de_fn (fn_is_integer T) hgu (hr.mono (by decide)) (by rfl) (da_cons (de_var 0) da_nil)) (de_one (de_chain dop_le dop_le (de_var 1) (de_var 0) (de_var 2)))))
    dss_nil)
abbrev N_are_rising : List Str := ["numbers", "one", "other"]
theorem sc_are_rising : FnScope N_are_rising ["numbers"] (defScope s_are_rising) := ⟨rfl, rfl, rfl, by decide +kernel, rfl, by decide +kernel, by decide +kernel⟩
noncomputable def q_are_rising_1 : SM := (sRet (eApp gAll (aCons (eComp [1, 2] (iApp zip2D (aCons (eVar 0) (aCons (eCut (eVar 0) (oSome (eK (.int 1))) oNone) aNil))) (gdTup 2 (gdCons (gdName 1) (gdCons (gdName 2) gdNil))) tAll (eBin gLt (eVar 1) (eVar 2))) aNil)))
noncomputable def b_are_rising : SM := (sSeq q_are_rising_1
    sNil)
noncomputable def m_are_rising : GM := ofBody 1 2 b_are_rising
theorem fn_are_rising (T : Top K mg) : Callee P w K mg base 1 "are_rising" s_are_rising ["numbers"] 1 m_are_rising :=
  callee T.d_are_rising sc_are_rising rfl fun f cdv A outer s H E hgu hr hu =>
    (dss_cons (ds_ret (de_callB (dc_all rfl) (by rfl) T.z_all bb_all (da_cons (de_comp rfl sc_are_rising.nd (di_zip (by rfl) T.z_zip (da_cons (de_var 0) (da_cons (de_cut (de_var 0) (do_some de_int) do_none) da_nil))) (blkOk_by (N := N_are_rising) (sc := (defScope s_are_rising)) (own := [("one", 1), ("other", 2)]) (by decide +kernel)) rfl (fun _ _ _ _ _ => (dg_tup rfl (dgs_cons (dg_name sc_are_rising.nd rfl (Or.inl rfl)) (dgs_cons (dg_name sc_are_rising.nd rfl (Or.inl rfl)) dgs_nil)))) (fun _ _ _ _ _ => dts_nil) (fun _ _ _ _ _ => (de_cmp (dop_lt (lu0 hu)) (de_var 1) (de_var 2) (by first | exact nobehind _ (by decide) (by decide) | rfl | with_unfolding_all rfl)))) da_nil)))
    dss_nil)
abbrev N_are_zones : List Str := ["value", "zone"]
theorem sc_are_zones : FnScope N_are_zones ["value"] (defScope s_are_zones) := ⟨rfl, rfl, rfl, by decide +kernel, rfl, by decide +kernel, by decide +kernel⟩
noncomputable def q_are_zones_1 : SM := (sRet (eAnd (eApp gAll (aCons (eComp [1] (iSeq (eVar 0)) (gdName 1) tAll (eCall 3 m_is_between (aCons (eVar 1) (aCons (eK (.int 1)) (aCons (eK (.int 4)) aNil))))) aNil)) (eCall 1 m_are_rising (aCons (eVar 0) aNil))))
noncomputable def q_are_zones_2 : SM := (sIf (tOr2 (tNot2 (tVal (eIsi "tuple" (eVar 0)))) (tNot2 (tVal (eChain gLe gLe (eK (.int 1)) (eApp gLen (aCons (eVar 0) aNil)) (eK (.int 4)))))) (sSeq (sRet (eK (.bool false)))
    sNil) sNil)
noncomputable def b_are_zones : SM := (sSeq q_are_zones_2
    (sSeq q_are_zones_1
    sNil))
noncomputable def m_are_zones : GM := ofBody 1 1 b_are_zones
theorem fn_are_zones (T : Top K mg) : Callee P w K mg base 3 "are_zones" s_are_zones ["value"] 1 m_are_zones :=
  callee T.d_are_zones sc_are_zones rfl fun f cdv A outer s H E hgu hr hu =>
    (dss_cons (ds_if (PW.pt (dw_or (dt_not (dt_val (de_isi "tuple" (de_var 0) (by rfl) T.z_isinstance bb_isinstance (by rfl) T.z_tuple bb_tuple))) (dw_or1 (dt_not (dt_chain dop_le dop_le de_int (de_callB dc_len (by rfl) T.z_len bb_len (da_cons (de_var 0) da_nil)) (de_globE (by rfl) T.g_MOST_ZONES)))))) (dss_cons (ds_ret de_bl)
    dss_nil) dss_nil)
    (dss_cons (ds_ret (de_and (de_callB (dc_all rfl) (by rfl) T.z_all bb_all (da_cons (de_comp rfl sc_are_zones.nd (di_seq (de_var 0)) (blkOk_by (N := N_are_zones) (sc := (defScope s_are_zones)) (own := [("zone", 1)]) (by decide +kernel)) rfl (fun _ _ _ _ _ => (dg_name sc_are_zones.nd rfl (Or.inl rfl))) (fun _ _ _ _ _ => dts_nil) (fun _ _ _ _ _ => (de_fn (fn_is_between T) hgu (hr.mono (by decide)) (by rfl) (da_cons (de_var 1) (da_cons de_int (da_cons (de_globE (by rfl) T.g_MOST_ZONES) da_nil)))))) da_nil)) (de_one (de_fn (fn_are_rising T) hgu (hr.mono (by decide)) (by rfl) (da_cons (de_var 0) da_nil)))))
    dss_nil))
abbrev N_is_ticket : List Str := ["value"]
theorem sc_is_ticket : FnScope N_is_ticket ["value"] (defScope s_is_ticket) := ⟨rfl, rfl, rfl, by decide +kernel, rfl, by decide +kernel, by decide +kernel⟩
noncomputable def q_is_ticket_1 : SM := (sRet (eAnd (eCall 1 m_are_zones (aCons (eBin gIx (eVar 0) (eK (.int 3))) aNil)) (eCall 3 m_is_between (aCons (eBin gIx (eVar 0) (eK (.int 4))) (aCons (eK (.int 1)) (aCons (eK (.int 5)) aNil))))))
noncomputable def q_is_ticket_2 : SM := (sIf (tOr2 (tNot2 (tVal (eCall 3 m_is_between (aCons (eBin gIx (eVar 0) (eK (.int 1))) (aCons (eK (.int 1)) (aCons (eK (.int 9999)) aNil)))))) (tNot2 (tVal (eCall 3 m_is_between (aCons (eBin gIx (eVar 0) (eK (.int 2))) (aCons (eK (.int 1)) (aCons (eK (.int 11000)) aNil))))))) (sSeq (sRet (eK (.bool false)))
    sNil) sNil)
noncomputable def q_is_ticket_3 : SM := (sIf (tOr2 (tNot2 (tVal (eIsi "tuple" (eVar 0)))) (tOr2 (tVal (eBin gNe (eApp gLen (aCons (eVar 0) aNil)) (eK (.int 5)))) (tOr2 (tNot2 (tVal (eIsi "str" (eBin gIx (eVar 0) (eK (.int 0)))))) (tVal (eBin gNe (eBin gIx (eVar 0) (eK (.int 0))) (eK (.str "ticket"))))))) (sSeq (sRet (eK (.bool false)))
    sNil) sNil)
noncomputable def b_is_ticket : SM := (sSeq q_is_ticket_3
    (sSeq q_is_ticket_2
    (sSeq q_is_ticket_1
    sNil)))
noncomputable def m_is_ticket : GM := ofBody 1 0 b_is_ticket
theorem fn_is_ticket (T : Top K mg) : Callee P w K mg base 4 "is_ticket" s_is_ticket ["value"] 1 m_is_ticket :=
  callee T.d_is_ticket sc_is_ticket rfl fun f cdv A outer s H E hgu hr hu =>
    (dss_cons (ds_if (PW.pt (dw_or (dt_not (dt_val (de_isi "tuple" (de_var 0) (by rfl) T.z_isinstance bb_isinstance (by rfl) T.z_tuple bb_tuple))) (dw_or (dt_cmp (dop_ne (lu64 hu)) (de_callB dc_len (by rfl) T.z_len bb_len (da_cons (de_var 0) da_nil)) de_int (by first | exact nobehind _ (by decide) (by decide) | rfl | with_unfolding_all rfl)) (dw_or (dt_not (dt_val (de_isi "str" (de_ix (de_var 0) de_int) (by rfl) T.z_isinstance bb_isinstance (by rfl) T.z_str bb_str))) (dw_or1 (dt_cmp (dop_ne (lu64 hu)) (de_ix (de_var 0) de_int) de_str (by first | exact nobehind _ (by decide) (by decide) | rfl | with_unfolding_all rfl))))))) (dss_cons (ds_ret de_bl)
    dss_nil) dss_nil)
    (dss_cons (ds_if (PW.pt (dw_or (dt_not (dt_val (de_fn (fn_is_between T) hgu (hr.mono (by decide)) (by rfl) (da_cons (de_ix (de_var 0) de_int) (da_cons de_int (da_cons (de_globE (by rfl) T.g_MOST_PRICE) da_nil)))))) (dw_or1 (dt_not (dt_val (de_fn (fn_is_between T) hgu (hr.mono (by decide)) (by rfl) (da_cons (de_ix (de_var 0) de_int) (da_cons de_int (da_cons (de_globE (by rfl) T.g_MOST_MINUTES) da_nil))))))))) (dss_cons (ds_ret de_bl)
    dss_nil) dss_nil)
    (dss_cons (ds_ret (de_and (de_fn (fn_are_zones T) hgu (hr.mono (by decide)) (by rfl) (da_cons (de_ix (de_var 0) de_int) da_nil)) (de_one (de_fn (fn_is_between T) hgu (hr.mono (by decide)) (by rfl) (da_cons (de_ix (de_var 0) de_int) (da_cons de_int (da_cons (de_globE (by rfl) T.g_MOST_PERSONS) da_nil)))))))
    dss_nil)))
abbrev N_is_passage : List Str := ["value"]
theorem sc_is_passage : FnScope N_is_passage ["value"] (defScope s_is_passage) := ⟨rfl, rfl, rfl, by decide +kernel, rfl, by decide +kernel, by decide +kernel⟩
noncomputable def q_is_passage_1 : SM := (sRet (eAnd (eBin gLt (eBin gIx (eVar 0) (eK (.int 0))) (eBin gIx (eVar 0) (eK (.int 1)))) (eCall 1 m_are_zones (aCons (eBin gIx (eVar 0) (eK (.int 2))) aNil))))
noncomputable def q_is_passage_2 : SM := (sIf (tOr2 (tNot2 (tVal (eCall 3 m_is_between (aCons (eBin gIx (eVar 0) (eK (.int 0))) (aCons (eK (.int 0)) (aCons (eK (.int 9999)) aNil)))))) (tNot2 (tVal (eCall 3 m_is_between (aCons (eBin gIx (eVar 0) (eK (.int 1))) (aCons (eK (.int 0)) (aCons (eK (.int 9999)) aNil))))))) (sSeq (sRet (eK (.bool false)))
    sNil) sNil)
noncomputable def q_is_passage_3 : SM := (sIf (tOr2 (tNot2 (tVal (eIsi "tuple" (eVar 0)))) (tVal (eBin gNe (eApp gLen (aCons (eVar 0) aNil)) (eK (.int 3))))) (sSeq (sRet (eK (.bool false)))
    sNil) sNil)
noncomputable def b_is_passage : SM := (sSeq q_is_passage_3
    (sSeq q_is_passage_2
    (sSeq q_is_passage_1
    sNil)))
noncomputable def m_is_passage : GM := ofBody 1 0 b_is_passage
theorem fn_is_passage (T : Top K mg) : Callee P w K mg base 4 "is_passage" s_is_passage ["value"] 1 m_is_passage :=
  callee T.d_is_passage sc_is_passage rfl fun f cdv A outer s H E hgu hr hu =>
    (dss_cons (ds_if (PW.pt (dw_or (dt_not (dt_val (de_isi "tuple" (de_var 0) (by rfl) T.z_isinstance bb_isinstance (by rfl) T.z_tuple bb_tuple))) (dw_or1 (dt_cmp (dop_ne (lu64 hu)) (de_callB dc_len (by rfl) T.z_len bb_len (da_cons (de_var 0) da_nil)) de_int (by first | exact nobehind _ (by decide) (by decide) | rfl | with_unfolding_all rfl))))) (dss_cons (ds_ret de_bl)
    dss_nil) dss_nil)
    (dss_cons (ds_if (PW.pt (dw_or (dt_not (dt_val (de_fn (fn_is_between T) hgu (hr.mono (by decide)) (by rfl) (da_cons (de_ix (de_var 0) de_int) (da_cons de_int (da_cons (de_globE (by rfl) T.g_LATEST) da_nil)))))) (dw_or1 (dt_not (dt_val (de_fn (fn_is_between T) hgu (hr.mono (by decide)) (by rfl) (da_cons (de_ix (de_var 0) de_int) (da_cons de_int (da_cons (de_globE (by rfl) T.g_LATEST) da_nil))))))))) (dss_cons (ds_ret de_bl)
    dss_nil) dss_nil)
    (dss_cons (ds_ret (de_and (de_cmp (dop_lt (lu0 hu)) (de_ix (de_var 0) de_int) (de_ix (de_var 0) de_int) (by first | exact nobehind _ (by decide) (by decide) | rfl | with_unfolding_all rfl)) (de_one (de_fn (fn_are_zones T) hgu (hr.mono (by decide)) (by rfl) (da_cons (de_ix (de_var 0) de_int) da_nil)))))
    dss_nil)))
abbrev N_are_tickets : List Str := ["value", "one"]
theorem sc_are_tickets : FnScope N_are_tickets ["value"] (defScope s_are_tickets) := ⟨rfl, rfl, rfl, by decide +kernel, rfl, by decide +kernel, by decide +kernel⟩
noncomputable def q_are_tickets_1 : SM := (sIf (tOr2 (tNot2 (tVal (eIsi2 "list" "tuple" (eVar 0)))) (tNot2 (tVal (eChain gLe gLe (eK (.int 1)) (eApp gLen (aCons (eVar 0) aNil)) (eK (.int 8)))))) (sSeq (sRet (eK (.bool false)))
    sNil) sNil)
noncomputable def b_are_tickets : SM := (sSeq q_are_tickets_1
    (sSeq (sRet (eApp gAll (aCons (eComp [1] (iSeq (eVar 0)) (gdName 1) tAll (eCall 1 m_is_ticket (aCons (eVar 1) aNil))) aNil)))
    sNil))
noncomputable def m_are_tickets : GM := ofBody 1 1 b_are_tickets
theorem fn_are_tickets (T : Top K mg) : Callee P w K mg base 5 "are_tickets" s_are_tickets ["value"] 1 m_are_tickets :=
  callee T.d_are_tickets sc_are_tickets rfl fun f cdv A outer s H E hgu hr hu =>
    (dss_cons (ds_if (PW.pt (dw_or (dt_not (dt_val (de_isi2 "list" "tuple" (de_var 0) (by rfl) T.z_isinstance bb_isinstance (by rfl) T.z_list bb_list (by rfl) T.z_tuple bb_tuple))) (dw_or1 (dt_not (dt_chain dop_le dop_le de_int (de_callB dc_len (by rfl) T.z_len bb_len (da_cons (de_var 0) da_nil)) (de_globE (by rfl) T.g_MOST_KINDS)))))) (dss_cons (ds_ret de_bl)
    dss_nil) dss_nil)
    (dss_cons (ds_ret (de_callB (dc_all rfl) (by rfl) T.z_all bb_all (da_cons (de_comp rfl sc_are_tickets.nd (di_seq (de_var 0)) (blkOk_by (N := N_are_tickets) (sc := (defScope s_are_tickets)) (own := [("one", 1)]) (by decide +kernel)) rfl (fun _ _ _ _ _ => (dg_name sc_are_tickets.nd rfl (Or.inl rfl))) (fun _ _ _ _ _ => dts_nil) (fun _ _ _ _ _ => (de_fn (fn_is_ticket T) hgu (hr.mono (by decide)) (by rfl) (da_cons (de_var 1) da_nil)))) da_nil)))
    dss_nil))
abbrev N_are_passages : List Str := ["value", "one"]
theorem sc_are_passages : FnScope N_are_passages ["value"] (defScope s_are_passages) := ⟨rfl, rfl, rfl, by decide +kernel, rfl, by decide +kernel, by decide +kernel⟩
noncomputable def q_are_passages_1 : SM := (sIf (tOr2 (tNot2 (tVal (eIsi2 "list" "tuple" (eVar 0)))) (tVal (eBin gGt (eApp gLen (aCons (eVar 0) aNil)) (eK (.int 10))))) (sSeq (sRet (eK (.bool false)))
    sNil) sNil)
noncomputable def b_are_passages : SM := (sSeq q_are_passages_1
    (sSeq (sRet (eApp gAll (aCons (eComp [1] (iSeq (eVar 0)) (gdName 1) tAll (eCall 1 m_is_passage (aCons (eVar 1) aNil))) aNil)))
    sNil))
noncomputable def m_are_passages : GM := ofBody 1 1 b_are_passages
theorem fn_are_passages (T : Top K mg) : Callee P w K mg base 5 "are_passages" s_are_passages ["value"] 1 m_are_passages :=
  callee T.d_are_passages sc_are_passages rfl fun f cdv A outer s H E hgu hr hu =>
    (dss_cons (ds_if (PW.pt (dw_or (dt_not (dt_val (de_isi2 "list" "tuple" (de_var 0) (by rfl) T.z_isinstance bb_isinstance (by rfl) T.z_list bb_list (by rfl) T.z_tuple bb_tuple))) (dw_or1 (dt_cmp dop_gt (de_callB dc_len (by rfl) T.z_len bb_len (da_cons (de_var 0) da_nil)) (de_globE (by rfl) T.g_MOST_PASSAGES) (by first | exact nobehind _ (by decide) (by decide) | rfl | with_unfolding_all rfl))))) (dss_cons (ds_ret de_bl)
    dss_nil) dss_nil)
    (dss_cons (ds_ret (de_callB (dc_all rfl) (by rfl) T.z_all bb_all (da_cons (de_comp rfl sc_are_passages.nd (di_seq (de_var 0)) (blkOk_by (N := N_are_passages) (sc := (defScope s_are_passages)) (own := [("one", 1)]) (by decide +kernel)) rfl (fun _ _ _ _ _ => (dg_name sc_are_passages.nd rfl (Or.inl rfl))) (fun _ _ _ _ _ => dts_nil) (fun _ _ _ _ _ => (de_fn (fn_is_passage T) hgu (hr.mono (by decide)) (by rfl) (da_cons (de_var 1) da_nil)))) da_nil)))
    dss_nil))
abbrev N_want_tickets : List Str := ["value"]
theorem sc_want_tickets : FnScope N_want_tickets ["value"] (defScope s_want_tickets) := ⟨rfl, rfl, rfl, by decide +kernel, rfl, by decide +kernel, by decide +kernel⟩
noncomputable def b_want_tickets : SM := (sSeq (sIf (tNot2 (tVal (eCall 1 m_are_tickets (aCons (eVar 0) aNil)))) (sSeq sNever
    sNil) sNil)
    (sSeq (sRet (eMove 0))
    sNil))
noncomputable def m_want_tickets : GM := ofBody 1 0 b_want_tickets
theorem fn_want_tickets (T : Top K mg) : Callee P w K mg base 6 "want_tickets" s_want_tickets ["value"] 1 m_want_tickets :=
  callee T.d_want_tickets sc_want_tickets rfl fun f cdv A outer s H E hgu hr hu =>
    (dss_cons (ds_if (dt_not (dt_val (de_fn (fn_are_tickets T) hgu (hr.mono (by decide)) (by rfl) (da_cons (de_var 0) da_nil)))) (dss_cons ds_never
    dss_nil) dss_nil)
    (dss_cons (ds_ret (de_move 0))
    dss_nil))
noncomputable def x_want_tickets : XM := fun ρ => (xIf (tNot2 (tVal (eCall 1 m_are_tickets (aCons (eVar 0) aNil)))) (xRaise "InvalidTickets" (eVar 0))) (ρ ++ List.replicate 0 .u)
theorem fx_want_tickets (T : Top K mg) (U : TopU P w K mg base CE C1 C2 ca Pa) : CalleeX P w K mg base 6 "want_tickets" s_want_tickets ["value"] 1 x_want_tickets :=
  calleeX T.d_want_tickets sc_want_tickets rfl fun f cdv A outer s H E hgu hr hu tk =>
    (xs_head (xs_if (dt_not (dt_val (de_fn (fn_are_tickets T) hgu (hr.mono (by decide)) (by rfl) (da_cons (de_var 0) da_nil)))) (xs_head (xs_raise U.x1 tk rfl (hr.mono (by decide)) (by rfl) (de_var 0)))))
abbrev N_want_passages : List Str := ["value"]
theorem sc_want_passages : FnScope N_want_passages ["value"] (defScope s_want_passages) := ⟨rfl, rfl, rfl, by decide +kernel, rfl, by decide +kernel, by decide +kernel⟩
noncomputable def b_want_passages : SM := (sSeq (sIf (tNot2 (tVal (eCall 1 m_are_passages (aCons (eVar 0) aNil)))) (sSeq sNever
    sNil) sNil)
    (sSeq (sRet (eMove 0))
    sNil))
noncomputable def m_want_passages : GM := ofBody 1 0 b_want_passages
theorem fn_want_passages (T : Top K mg) : Callee P w K mg base 6 "want_passages" s_want_passages ["value"] 1 m_want_passages :=
  callee T.d_want_passages sc_want_passages rfl fun f cdv A outer s H E hgu hr hu =>
    (dss_cons (ds_if (dt_not (dt_val (de_fn (fn_are_passages T) hgu (hr.mono (by decide)) (by rfl) (da_cons (de_var 0) da_nil)))) (dss_cons ds_never
    dss_nil) dss_nil)
    (dss_cons (ds_ret (de_move 0))
    dss_nil))
noncomputable def x_want_passages : XM := fun ρ => (xIf (tNot2 (tVal (eCall 1 m_are_passages (aCons (eVar 0) aNil)))) (xRaise "InvalidPassages" (eVar 0))) (ρ ++ List.replicate 0 .u)
theorem fx_want_passages (T : Top K mg) (U : TopU P w K mg base CE C1 C2 ca Pa) : CalleeX P w K mg base 6 "want_passages" s_want_passages ["value"] 1 x_want_passages :=
  calleeX T.d_want_passages sc_want_passages rfl fun f cdv A outer s H E hgu hr hu tk =>
    (xs_head (xs_if (dt_not (dt_val (de_fn (fn_are_passages T) hgu (hr.mono (by decide)) (by rfl) (da_cons (de_var 0) da_nil)))) (xs_head (xs_raise U.x2 tk rfl (hr.mono (by decide)) (by rfl) (de_var 0)))))
abbrev N_most_at_once : List Str := ["passages", "found", "begin", "end", "zones", "here", "one"]
theorem sc_most_at_once : FnScope N_most_at_once ["passages"] (defScope s_most_at_once) := ⟨rfl, rfl, rfl, by decide +kernel, rfl, by decide +kernel, by decide +kernel⟩
noncomputable def q_most_at_once_1 : SM := (sSet 5 (eComp [6] (iSeq (eVar 0)) (gdName 6) (tVal (eChain gLe gLt (eBin gIx (eVar 6) (eK (.int 0))) (eVar 2) (eBin gIx (eVar 6) (eK (.int 1))))) (eVar 6)))
noncomputable def l_most_at_once_2 : SM := (sSeq q_most_at_once_1
    (sSeq (sSet 1 (eApp gMax (aCons (eVar 1) (aCons (eApp gLen (aCons (eVar 5) aNil)) aNil))))
    sNil))
noncomputable def b_most_at_once : SM := (sSeq (sSet 1 (eK (.int 0)))
    (sSeq (sFor (iSeq (eVar 0)) (gdTup 3 (gdCons (gdName 2) (gdCons (gdName 3) (gdCons (gdName 4) gdNil)))) l_most_at_once_2)
    (sSeq (sRet (eMove 1))
    sNil)))
noncomputable def m_most_at_once : GM := ofBody 1 6 b_most_at_once
theorem fn_most_at_once (T : Top K mg) : Callee P w K mg base 1 "most_at_once" s_most_at_once ["passages"] 1 m_most_at_once :=
  callee T.d_most_at_once sc_most_at_once rfl fun f cdv A outer s H E hgu hr hu =>
    (dss_cons (ds_set sc_most_at_once.nd rfl (Or.inl rfl) de_int)
    (dss_cons (ds_for PassesOwn.never rfl (di_seq (de_var 0)) (dg_tup rfl (dgs_cons (dg_name sc_most_at_once.nd rfl (Or.inr rfl)) (dgs_cons (dg_name sc_most_at_once.nd rfl (Or.inl rfl)) (dgs_cons (dg_name sc_most_at_once.nd rfl (Or.inl rfl)) dgs_nil)))) (dss_cons (ds_setComp rfl sc_most_at_once.nd rfl rfl (sw_true rfl rfl rfl (by decide +kernel)) (di_seq (de_var 0)) (blkOk_by (N := N_most_at_once) (sc := (defScope s_most_at_once)) (own := [("one", 6)]) (by decide +kernel)) rfl (fun _ _ _ _ _ => (dg_name sc_most_at_once.nd rfl (Or.inl rfl))) (fun _ _ _ _ _ => (dts_one (dt_chain dop_le (dop_lt (lu0 hu)) (de_ix (de_var 6) de_int) (de_var 2) (de_ix (de_var 6) de_int)))) (fun _ _ _ _ _ => (de_var 6)))
    (dss_cons (ds_set sc_most_at_once.nd rfl (Or.inl rfl) (de_callB (dc_max2 rfl) (by rfl) T.z_max bb_max (da_cons (de_var 1) (da_cons (de_callB dc_len (by rfl) T.z_len bb_len (da_cons (de_var 5) da_nil)) da_nil))))
    dss_nil)))
    (dss_cons (ds_ret (de_move 1))
    dss_nil)))
abbrev N_does_cover : List Str := ["ticket", "passages", "first", "begin", "end", "zones", "passage", "zone"]
theorem sc_does_cover : FnScope N_does_cover ["ticket", "passages"] (defScope s_does_cover) := ⟨rfl, rfl, rfl, by decide +kernel, rfl, by decide +kernel, by decide +kernel⟩
noncomputable def q_does_cover_1 : SM := (sIf (tOr2 (tVal (eBin gGe (eBin gSub (eVar 3) (eVar 2)) (eBin gIx (eVar 0) (eK (.int 2))))) (tVal (eApp gAny (aCons (eComp [7] (iSeq (eVar 5)) (gdName 7) tAll (eBin (gIn true) (eVar 7) (eBin gIx (eVar 0) (eK (.int 3))))) aNil)))) (sSeq (sRet (eK (.bool false)))
    sNil) sNil)
noncomputable def l_does_cover_2 : SM := (sSeq q_does_cover_1
    sNil)
noncomputable def b_does_cover : SM := (sSeq (sSet 2 (eApp gMin (aCons (eComp [6] (iSeq (eVar 1)) (gdName 6) tAll (eBin gIx (eVar 6) (eK (.int 0)))) aNil)))
    (sSeq (sFor (iSeq (eVar 1)) (gdTup 3 (gdCons (gdName 3) (gdCons (gdName 4) (gdCons (gdName 5) gdNil)))) l_does_cover_2)
    (sSeq (sRet (eBin gLe (eCall 1 m_most_at_once (aCons (eVar 1) aNil)) (eBin gIx (eVar 0) (eK (.int 4)))))
    sNil)))
noncomputable def m_does_cover : GM := ofBody 2 6 b_does_cover
theorem fn_does_cover (T : Top K mg) : Callee P w K mg base 2 "does_cover" s_does_cover ["ticket", "passages"] 2 m_does_cover :=
  callee T.d_does_cover sc_does_cover rfl fun f cdv A outer s H E hgu hr hu =>
    (dss_cons (ds_set sc_does_cover.nd rfl (Or.inl rfl) (de_callB (dc_min rfl (lu64 hu)) (by rfl) T.z_min bb_min (da_cons (de_comp rfl sc_does_cover.nd (di_seq (de_var 1)) (blkOk_by (N := N_does_cover) (sc := (defScope s_does_cover)) (own := [("passage", 6)]) (by decide +kernel)) rfl (fun _ _ _ _ _ => (dg_name sc_does_cover.nd rfl (Or.inl rfl))) (fun _ _ _ _ _ => dts_nil) (fun _ _ _ _ _ => (de_ix (de_var 6) de_int))) da_nil)))
    (dss_cons (ds_for PassesOwn.never rfl (di_seq (de_var 1)) (dg_tup rfl (dgs_cons (dg_name sc_does_cover.nd rfl (Or.inl rfl)) (dgs_cons (dg_name sc_does_cover.nd rfl (Or.inl rfl)) (dgs_cons (dg_name sc_does_cover.nd rfl (Or.inl rfl)) dgs_nil)))) (dss_cons (ds_if (PW.pt (dw_or (dt_cmp dop_ge (de_op dop_sub (de_var 3) (de_var 2)) (de_ix (de_var 0) de_int) (by first | exact nobehind _ (by decide) (by decide) | rfl | with_unfolding_all rfl)) (dw_or1 (dt_val (de_callB (dc_any rfl) (by rfl) T.z_any bb_any (da_cons (de_comp rfl sc_does_cover.nd (di_seq (de_var 5)) (blkOk_by (N := N_does_cover) (sc := (defScope s_does_cover)) (own := [("zone", 7)]) (by decide +kernel)) rfl (fun _ _ _ _ _ => (dg_name sc_does_cover.nd rfl (Or.inl rfl))) (fun _ _ _ _ _ => dts_nil) (fun _ _ _ _ _ => (de_cmp (dop_notin (lu65 hu)) (de_var 7) (de_ix (de_var 0) de_int) (by first | exact nobehind _ (by decide) (by decide) | rfl | with_unfolding_all rfl)))) da_nil)))))) (dss_cons (ds_ret de_bl)
    dss_nil) dss_nil)
    dss_nil))
    (dss_cons (ds_ret (de_cmp dop_le (de_fn (fn_most_at_once T) hgu (hr.mono (by decide)) (by rfl) (da_cons (de_var 1) da_nil)) (de_ix (de_var 0) de_int) (by first | exact nobehind _ (by decide) (by decide) | rfl | with_unfolding_all rfl)))
    dss_nil)))
abbrev N_places_in : List Str := ["number", "found", "place"]
theorem sc_places_in : FnScope N_places_in ["number"] (defScope s_places_in) := ⟨rfl, rfl, rfl, by decide +kernel, rfl, by decide +kernel, by decide +kernel⟩
noncomputable def q_places_in_1 : SM := (sIf (tVal (eBin gEq (eBin gAnd (eBin gShr (eVar 0) (eVar 2)) (eK (.int 1))) (eK (.int 1)))) (sSeq (sExpr (eMeth opAppend 1 (aCons (eVar 2) aNil)))
    sNil) sNil)
noncomputable def l_places_in_2 : SM := (sSeq q_places_in_1
    (sSeq (sSet 2 (eBin gAdd (eVar 2) (eK (.int 1))))
    sNil))
noncomputable def b_places_in : SM := (sSeq (sPar 1 2 (eApp gLst aNil) (eK (.int 0)))
    (sSeq (sWhile (tVal (eBin gGt (eBin gShr (eVar 0) (eVar 2)) (eK (.int 0)))) l_places_in_2)
    (sSeq (sRet (eMove 1))
    sNil)))
noncomputable def m_places_in : GM := ofBody 1 2 b_places_in
theorem fn_places_in (T : Top K mg) : Callee P w K mg base 1 "places_in" s_places_in ["number"] 1 m_places_in :=
  callee T.d_places_in sc_places_in rfl fun f cdv A outer s H E hgu hr hu =>
    (dss_cons (ds_par rfl sc_places_in.nd rfl rfl (by decide) rfl rfl (de_lst da_nil) de_int)
    (dss_cons (ds_while PassesOwn.never (dt_cmp dop_gt (de_op dop_shr (de_var 0) (de_var 2)) de_int (by first | exact nobehind _ (by decide) (by decide) | rfl | with_unfolding_all rfl)) (dss_cons (ds_if (dt_cmp (dop_eq (lu64 hu)) (de_op dop_and (de_op dop_shr (de_var 0) (de_var 2)) de_int) de_int (by first | exact nobehind _ (by decide) (by decide) | rfl | with_unfolding_all rfl)) (dss_cons (ds_expr (de_append (pv 1) (da_cons (de_var 2) da_nil)))
    dss_nil) dss_nil)
    (dss_cons (ds_set sc_places_in.nd rfl (Or.inl rfl) (de_op dop_add (de_var 2) de_int))
    dss_nil)))
    (dss_cons (ds_ret (de_move 1))
    dss_nil)))
abbrev N_first_in : List Str := ["passages", "number", "place"]
theorem sc_first_in : FnScope N_first_in ["passages", "number"] (defScope s_first_in) := ⟨rfl, rfl, rfl, by decide +kernel, rfl, by decide +kernel, by decide +kernel⟩
noncomputable def q_first_in_1 : SM := (sRet (eBin gIx (eApp gMin (aCons (eComp [2] (iSeq (eCall 1 m_places_in (aCons (eVar 1) aNil))) (gdName 2) tAll (eApp gTup (aCons (eBin gIx (eBin gIx (eVar 0) (eVar 2)) (eK (.int 0))) (aCons (eVar 2) aNil)))) aNil)) (eK (.int 1))))
noncomputable def b_first_in : SM := (sSeq q_first_in_1
    sNil)
noncomputable def m_first_in : GM := ofBody 2 1 b_first_in
theorem fn_first_in (T : Top K mg) : Callee P w K mg base 2 "first_in" s_first_in ["passages", "number"] 2 m_first_in :=
  callee T.d_first_in sc_first_in rfl fun f cdv A outer s H E hgu hr hu =>
    (dss_cons (ds_ret (de_ix (de_callB (dc_min rfl (lu64 hu)) (by rfl) T.z_min bb_min (da_cons (de_comp rfl sc_first_in.nd (di_seq (de_fn (fn_places_in T) hgu (hr.mono (by decide)) (by rfl) (da_cons (de_var 1) da_nil))) (blkOk_by (N := N_first_in) (sc := (defScope s_first_in)) (own := [("place", 2)]) (by decide +kernel)) rfl (fun _ _ _ _ _ => (dg_name sc_first_in.nd rfl (Or.inl rfl))) (fun _ _ _ _ _ => dts_nil) (fun _ _ _ _ _ => (de_tup (da_cons (de_ix (de_ix (de_var 0) (de_var 2)) de_int) (da_cons (de_var 2) da_nil))))) da_nil)) de_int))
    dss_nil)
abbrev N_kinds_that_cover : List Str := ["tickets", "passages", "number", "here", "place", "kind", "ticket"]
theorem sc_kinds_that_cover : FnScope N_kinds_that_cover ["tickets", "passages", "number"] (defScope s_kinds_that_cover) := ⟨rfl, rfl, rfl, by decide +kernel, rfl, by decide +kernel, by decide +kernel⟩
noncomputable def q_kinds_that_cover_1 : SM := (sRet (eComp [5, 6] (iApp enum1D (aCons (eVar 0) aNil)) (gdTup 2 (gdCons (gdName 5) (gdCons (gdName 6) gdNil))) (tVal (eCall 2 m_does_cover (aCons (eVar 6) (aCons (eVar 3) aNil)))) (eVar 5)))
noncomputable def b_kinds_that_cover : SM := (sSeq (sSet 3 (eComp [4] (iSeq (eCall 1 m_places_in (aCons (eVar 2) aNil))) (gdName 4) tAll (eBin gIx (eVar 1) (eVar 4))))
    (sSeq q_kinds_that_cover_1
    sNil))
noncomputable def m_kinds_that_cover : GM := ofBody 3 4 b_kinds_that_cover
theorem fn_kinds_that_cover (T : Top K mg) : Callee P w K mg base 3 "kinds_that_cover" s_kinds_that_cover ["tickets", "passages", "number"] 3 m_kinds_that_cover :=
  callee T.d_kinds_that_cover sc_kinds_that_cover rfl fun f cdv A outer s H E hgu hr hu =>
    (dss_cons (ds_set sc_kinds_that_cover.nd rfl (Or.inr rfl) (de_comp rfl sc_kinds_that_cover.nd (di_seq (de_fn (fn_places_in T) hgu (hr.mono (by decide)) (by rfl) (da_cons (de_var 2) da_nil))) (blkOk_by (N := N_kinds_that_cover) (sc := (defScope s_kinds_that_cover)) (own := [("place", 4)]) (by decide +kernel)) rfl (fun _ _ _ _ _ => (dg_name sc_kinds_that_cover.nd rfl (Or.inl rfl))) (fun _ _ _ _ _ => dts_nil) (fun _ _ _ _ _ => (de_ix (de_var 1) (de_var 4)))))
    (dss_cons (ds_ret (de_comp rfl sc_kinds_that_cover.nd (di_enum (by rfl) T.z_enumerate (da_cons (de_var 0) da_nil)) (blkOk_by (N := N_kinds_that_cover) (sc := (defScope s_kinds_that_cover)) (own := [("kind", 5), ("ticket", 6)]) (by decide +kernel)) rfl (fun _ _ _ _ _ => (dg_tup rfl (dgs_cons (dg_name sc_kinds_that_cover.nd rfl (Or.inl rfl)) (dgs_cons (dg_name sc_kinds_that_cover.nd rfl (Or.inl rfl)) dgs_nil)))) (fun _ _ _ _ _ => (dts_one (dt_val (de_fn (fn_does_cover T) hgu (hr.mono (by decide)) (by rfl) (da_cons (de_var 6) (da_cons (de_var 3) da_nil)))))) (fun _ _ _ _ _ => (de_var 5))))
    dss_nil))
abbrev N_parts_with : List Str := ["number", "place", "rest", "found", "part"]
theorem sc_parts_with : FnScope N_parts_with ["number", "place"] (defScope s_parts_with) := ⟨rfl, rfl, rfl, by decide +kernel, rfl, by decide +kernel, by decide +kernel⟩
noncomputable def l_parts_with_1 : SM := (sSeq (sExpr (eMeth opAppend 3 (aCons (eBin gAdd (eVar 4) (eBin gShl (eK (.int 1)) (eVar 1))) aNil)))
    (sSeq (sSet 4 (eBin gAnd (eBin gSub (eVar 4) (eK (.int 1))) (eVar 2)))
    sNil))
noncomputable def b_parts_with : SM := (sSeq (sPar 2 3 (eBin gSub (eVar 0) (eBin gShl (eK (.int 1)) (eVar 1))) (eApp gLst aNil))
    (sSeq (sSet 4 (eVar 2))
    (sSeq (sWhile (tVal (eBin gGt (eVar 4) (eK (.int 0)))) l_parts_with_1)
    (sSeq (sRet (eBin gAdd (eVar 3) (eApp gLst (aCons (eBin gShl (eK (.int 1)) (eVar 1)) aNil))))
    sNil))))
noncomputable def m_parts_with : GM := ofBody 2 3 b_parts_with
theorem fn_parts_with (T : Top K mg) : Callee P w K mg base 1 "parts_with" s_parts_with ["number", "place"] 2 m_parts_with :=
  callee T.d_parts_with sc_parts_with rfl fun f cdv A outer s H E hgu hr hu =>
    (dss_cons (ds_par rfl sc_parts_with.nd rfl rfl (by decide) rfl rfl (de_op dop_sub (de_var 0) (de_op dop_shl de_int (de_var 1))) (de_lst da_nil))
    (dss_cons (ds_set sc_parts_with.nd rfl (Or.inl rfl) (de_var 2))
    (dss_cons (ds_while PassesOwn.never (dt_cmp dop_gt (de_var 4) de_int (by first | exact nobehind _ (by decide) (by decide) | rfl | with_unfolding_all rfl)) (dss_cons (ds_expr (de_append (pv 3) (da_cons (de_op dop_add (de_var 4) (de_op dop_shl de_int (de_var 1))) da_nil)))
    (dss_cons (ds_set sc_parts_with.nd rfl (Or.inl rfl) (de_op dop_and (de_op dop_sub (de_var 4) de_int) (de_var 2)))
    dss_nil)))
    (dss_cons (ds_ret (de_op dop_add (de_var 3) (de_lst (da_cons (de_op dop_shl de_int (de_var 1)) da_nil))))
    dss_nil))))
abbrev N_least_kinds : List Str := ["tickets", "passages", "found", "number", "kinds", "kind"]
theorem sc_least_kinds : FnScope N_least_kinds ["tickets", "passages"] (defScope s_least_kinds) := ⟨rfl, rfl, rfl, by decide +kernel, rfl, by decide +kernel, by decide +kernel⟩
noncomputable def q_least_kinds_1 : SM := (sExpr (eMeth opAppend 2 (aCons (eIf (tVal (eBin gNe (eVar 4) (eApp gLst aNil))) (eApp gMin (aCons (eComp [5] (iSeq (eVar 4)) (gdName 5) tAll (eApp gTup (aCons (eBin gIx (eBin gIx (eVar 0) (eVar 5)) (eK (.int 1))) (aCons (eVar 5) aNil)))) aNil)) (eK .none)) aNil)))
noncomputable def l_least_kinds_2 : SM := (sSeq (sSet 4 (eCall 3 m_kinds_that_cover (aCons (eVar 0) (aCons (eVar 1) (aCons (eVar 3) aNil)))))
    (sSeq q_least_kinds_1
    sNil))
noncomputable def b_least_kinds : SM := (sSeq (sSet 2 (eApp gLst (aCons (eK .none) aNil)))
    (sSeq (sFor (iApp range2D (aCons (eK (.int 1)) (aCons (eBin gShl (eK (.int 1)) (eApp gLen (aCons (eVar 1) aNil))) aNil))) (gdName 3) l_least_kinds_2)
    (sSeq (sRet (eMove 2))
    sNil)))
noncomputable def m_least_kinds : GM := ofBody 2 4 b_least_kinds
theorem fn_least_kinds (T : Top K mg) : Callee P w K mg base 4 "least_kinds" s_least_kinds ["tickets", "passages"] 2 m_least_kinds :=
  callee T.d_least_kinds sc_least_kinds rfl fun f cdv A outer s H E hgu hr hu =>
    (dss_cons (ds_set sc_least_kinds.nd rfl (Or.inl rfl) (de_lst (da_cons de_non da_nil)))
    (dss_cons (ds_for PassesOwn.never rfl (di_range2 (by rfl) T.z_range (da_cons de_int (da_cons (de_op dop_shl de_int (de_callB dc_len (by rfl) T.z_len bb_len (da_cons (de_var 1) da_nil))) da_nil))) (dg_name sc_least_kinds.nd rfl (Or.inl rfl)) (dss_cons (ds_set sc_least_kinds.nd rfl (Or.inl rfl) (de_fn (fn_kinds_that_cover T) hgu (hr.mono (by decide)) (by rfl) (da_cons (de_var 0) (da_cons (de_var 1) (da_cons (de_var 3) da_nil)))))
    (dss_cons (ds_expr (de_append (pv 2) (da_cons (de_if (dt_cmp (dop_ne (lu64 hu)) (de_var 4) (de_lst da_nil) (by first | exact nobehind _ (by decide) (by decide) | rfl | with_unfolding_all rfl)) (de_callB (dc_min rfl (lu64 hu)) (by rfl) T.z_min bb_min (da_cons (de_comp rfl sc_least_kinds.nd (di_seq (de_var 4)) (blkOk_by (N := N_least_kinds) (sc := (defScope s_least_kinds)) (own := [("kind", 5)]) (by decide +kernel)) rfl (fun _ _ _ _ _ => (dg_name sc_least_kinds.nd rfl (Or.inl rfl))) (fun _ _ _ _ _ => dts_nil) (fun _ _ _ _ _ => (de_tup (da_cons (de_ix (de_ix (de_var 0) (de_var 5)) de_int) (da_cons (de_var 5) da_nil))))) da_nil)) de_non) da_nil)))
    dss_nil)))
    (dss_cons (ds_ret (de_move 2))
    dss_nil)))
abbrev N_least_rows : List Str := ["tickets", "passages", "singles", "found", "number", "least", "part", "rest", "price", "kind", "row"]
theorem sc_least_rows : FnScope N_least_rows ["tickets", "passages"] (defScope s_least_rows) := ⟨rfl, rfl, rfl, by decide +kernel, rfl, by decide +kernel, by decide +kernel⟩
noncomputable def q_least_rows_1 : SM := (sIf (tAnd2 (tVal (eBin (gIsB true) (eBin gIx (eVar 2) (eVar 6)) (eK .none))) (tVal (eBin (gIsB true) (eVar 7) (eK .none)))) (sSeq (sAsgD (gdTup 2 (gdCons (gdName 8) (gdCons (gdName 9) gdNil))) (eBin gIx (eVar 2) (eVar 6)))
    (sSeq (sSet 10 (eApp gTup (aCons (eBin gAdd (eVar 8) (eBin gIx (eVar 7) (eK (.int 0)))) (aCons (eVar 9) (aCons (eVar 6) aNil)))))
    (sSeq (sSet 5 (eIf (tOr2 (tVal (eBin (gIsB false) (eVar 5) (eK .none))) (tVal (eBin gLt (eVar 10) (eVar 5)))) (eVar 10) (eVar 5)))
    sNil))) sNil)
noncomputable def l_least_rows_2 : SM := (sSeq (sSet 7 (eIxN 3 (eBin gSub (eVar 4) (eVar 6))))
    (sSeq q_least_rows_1
    sNil))
noncomputable def q_least_rows_3 : SM := (sFor (iSeq (eCall 2 m_parts_with (aCons (eVar 4) (aCons (eCall 2 m_first_in (aCons (eVar 1) (aCons (eVar 4) aNil))) aNil)))) (gdName 6) l_least_rows_2)
noncomputable def l_least_rows_4 : SM := (sSeq (sSet 5 (eK .none))
    (sSeq q_least_rows_3
    (sSeq (sExpr (eMeth opAppend 3 (aCons (eVar 5) aNil)))
    sNil)))
noncomputable def q_least_rows_5 : SM := (sPar 2 3 (eCall 2 m_least_kinds (aCons (eVar 0) (aCons (eVar 1) aNil))) (eApp gLst (aCons (eApp gTup (aCons (eK (.int 0)) (aCons (eK (.int 0)) (aCons (eK (.int 0)) aNil)))) aNil)))
noncomputable def b_least_rows : SM := (sSeq q_least_rows_5
    (sSeq (sFor (iApp range2D (aCons (eK (.int 1)) (aCons (eBin gShl (eK (.int 1)) (eApp gLen (aCons (eVar 1) aNil))) aNil))) (gdName 4) l_least_rows_4)
    (sSeq (sRet (eMove 3))
    sNil)))
noncomputable def m_least_rows : GM := ofBody 2 9 b_least_rows
theorem fn_least_rows (T : Top K mg) : Callee P w K mg base 5 "least_rows" s_least_rows ["tickets", "passages"] 2 m_least_rows :=
  callee T.d_least_rows sc_least_rows rfl fun f cdv A outer s H E hgu hr hu =>
    (dss_cons (ds_par rfl sc_least_rows.nd rfl rfl (by decide) rfl rfl (de_fn (fn_least_kinds T) hgu (hr.mono (by decide)) (by rfl) (da_cons (de_var 0) (da_cons (de_var 1) da_nil))) (de_lst (da_cons (de_tup (da_cons de_int (da_cons de_int (da_cons de_int da_nil)))) da_nil)))
    (dss_cons (ds_for PassesOwn.never rfl (di_range2 (by rfl) T.z_range (da_cons de_int (da_cons (de_op dop_shl de_int (de_callB dc_len (by rfl) T.z_len bb_len (da_cons (de_var 1) da_nil))) da_nil))) (dg_name sc_least_rows.nd rfl (Or.inl rfl)) (dss_cons (ds_set sc_least_rows.nd rfl (Or.inl rfl) de_non)
    (dss_cons (ds_for PassesOwn.never rfl (di_seq (de_fn (fn_parts_with T) hgu (hr.mono (by decide)) (by rfl) (da_cons (de_var 4) (da_cons (de_fn (fn_first_in T) hgu (hr.mono (by decide)) (by rfl) (da_cons (de_var 1) (da_cons (de_var 4) da_nil))) da_nil)))) (dg_name sc_least_rows.nd rfl (Or.inl rfl)) (dss_cons (ds_set sc_least_rows.nd rfl (Or.inl rfl) (de_ixN (pv 3) (de_op dop_sub (de_var 4) (de_var 6))))
    (dss_cons (ds_if (PW.pt (dw_and (dt_cmp dop_isnotB (de_ix (de_var 2) (de_var 6)) de_non (by first | exact nobehind _ (by decide) (by decide) | rfl | with_unfolding_all rfl)) (dw_and1 (dt_cmp dop_isnotB (de_var 7) de_non (by first | exact nobehind _ (by decide) (by decide) | rfl | with_unfolding_all rfl))))) (dss_cons (ds_asgD (de_ix (de_var 2) (de_var 6)) (dg_tup rfl (dgs_cons (dg_name sc_least_rows.nd rfl (Or.inl rfl)) (dgs_cons (dg_name sc_least_rows.nd rfl (Or.inl rfl)) dgs_nil))))
    (dss_cons (ds_set sc_least_rows.nd rfl (Or.inl rfl) (de_tup (da_cons (de_op dop_add (de_var 8) (de_ix (de_var 7) de_int)) (da_cons (de_var 9) (da_cons (de_var 6) da_nil)))))
    (dss_cons (ds_set sc_least_rows.nd rfl (Or.inl rfl) (de_if (PW.pt (dw_or (dt_cmp dop_isB (de_var 5) de_non (by first | exact nobehind _ (by decide) (by decide) | rfl | with_unfolding_all rfl)) (dw_or1 (dt_cmp (dop_lt (lu0 hu)) (de_var 10) (de_var 5) (by first | exact nobehind _ (by decide) (by decide) | rfl | with_unfolding_all rfl))))) (de_var 10) (de_var 5)))
    dss_nil))) dss_nil)
    dss_nil)))
    (dss_cons (ds_expr (de_append (pv 3) (da_cons (de_var 5) da_nil)))
    dss_nil))))
    (dss_cons (ds_ret (de_move 3))
    dss_nil)))
abbrev N_least_prices : List Str := ["tickets", "passages", "row"]
theorem sc_least_prices : FnScope N_least_prices ["tickets", "passages"] (defScope s_least_prices) := ⟨rfl, rfl, rfl, by decide +kernel, rfl, by decide +kernel, by decide +kernel⟩
noncomputable def q_least_prices_1 : SM := (sRet (eComp [2] (iSeq (eCall 2 m_least_rows (aCons (eVar 0) (aCons (eVar 1) aNil)))) (gdName 2) tAll (eIf (tVal (eBin (gIsB true) (eVar 2) (eK .none))) (eBin gIx (eVar 2) (eK (.int 0))) (eK .none))))
noncomputable def b_least_prices : SM := (sSeq q_least_prices_1
    sNil)
noncomputable def m_least_prices : GM := ofBody 2 1 b_least_prices
theorem fn_least_prices (T : Top K mg) : Callee P w K mg base 6 "least_prices" s_least_prices ["tickets", "passages"] 2 m_least_prices :=
  callee T.d_least_prices sc_least_prices rfl fun f cdv A outer s H E hgu hr hu =>
    (dss_cons (ds_ret (de_comp rfl sc_least_prices.nd (di_seq (de_fn (fn_least_rows T) hgu (hr.mono (by decide)) (by rfl) (da_cons (de_var 0) (da_cons (de_var 1) da_nil)))) (blkOk_by (N := N_least_prices) (sc := (defScope s_least_prices)) (own := [("row", 2)]) (by decide +kernel)) rfl (fun _ _ _ _ _ => (dg_name sc_least_prices.nd rfl (Or.inl rfl))) (fun _ _ _ _ _ => dts_nil) (fun _ _ _ _ _ => (de_if (dt_cmp dop_isnotB (de_var 2) de_non (by first | exact nobehind _ (by decide) (by decide) | rfl | with_unfolding_all rfl)) (de_ix (de_var 2) de_int) de_non))))
    dss_nil)
abbrev N_cheapest_of : List Str := ["tickets", "passages"]
theorem sc_cheapest_of : FnScope N_cheapest_of ["tickets", "passages"] (defScope s_cheapest_of) := ⟨rfl, rfl, rfl, by decide +kernel, rfl, by decide +kernel, by decide +kernel⟩
noncomputable def b_cheapest_of : SM := (sSeq (sRet (eBin gIx (eCall 2 m_least_prices (aCons (eVar 0) (aCons (eVar 1) aNil))) (eNeg (eK (.int 1)))))
    sNil)
noncomputable def m_cheapest_of : GM := ofBody 2 0 b_cheapest_of
theorem fn_cheapest_of (T : Top K mg) : Callee P w K mg base 7 "cheapest_of" s_cheapest_of ["tickets", "passages"] 2 m_cheapest_of :=
  callee T.d_cheapest_of sc_cheapest_of rfl fun f cdv A outer s H E hgu hr hu =>
    (dss_cons (ds_ret (de_ix (de_fn (fn_least_prices T) hgu (hr.mono (by decide)) (by rfl) (da_cons (de_var 0) (da_cons (de_var 1) da_nil))) (de_neg de_int)))
    dss_nil)
abbrev N_cover_by : List Str := ["rows", "number", "found", "price", "kind", "part"]
theorem sc_cover_by : FnScope N_cover_by ["rows"] (defScope s_cover_by) := ⟨rfl, rfl, rfl, by decide +kernel, rfl, by decide +kernel, by decide +kernel⟩
noncomputable def q_cover_by_1 : SM := (sExpr (eMeth opAppend 2 (aCons (eApp gTup (aCons (eVar 4) (aCons (eApp gTuple (aCons (eCall 1 m_places_in (aCons (eVar 5) aNil)) aNil)) aNil))) aNil)))
noncomputable def l_cover_by_2 : SM := (sSeq (sAsgD (gdTup 3 (gdCons (gdName 3) (gdCons (gdName 4) (gdCons (gdName 5) gdNil)))) (eBin gIx (eVar 0) (eVar 1)))
    (sSeq q_cover_by_1
    (sSeq (sSet 1 (eBin gSub (eVar 1) (eVar 5)))
    sNil)))
noncomputable def b_cover_by : SM := (sSeq (sPar 1 2 (eBin gSub (eApp gLen (aCons (eVar 0) aNil)) (eK (.int 1))) (eApp gLst aNil))
    (sSeq (sWhile (tVal (eBin gGt (eVar 1) (eK (.int 0)))) l_cover_by_2)
    (sSeq (sRet (eMove 2))
    sNil)))
noncomputable def m_cover_by : GM := ofBody 1 5 b_cover_by
theorem fn_cover_by (T : Top K mg) : Callee P w K mg base 2 "cover_by" s_cover_by ["rows"] 1 m_cover_by :=
  callee T.d_cover_by sc_cover_by rfl fun f cdv A outer s H E hgu hr hu =>
    (dss_cons (ds_par rfl sc_cover_by.nd rfl rfl (by decide) rfl rfl (de_op dop_sub (de_callB dc_len (by rfl) T.z_len bb_len (da_cons (de_var 0) da_nil)) de_int) (de_lst da_nil))
    (dss_cons (ds_while PassesOwn.never (dt_cmp dop_gt (de_var 1) de_int (by first | exact nobehind _ (by decide) (by decide) | rfl | with_unfolding_all rfl)) (dss_cons (ds_asgD (de_ix (de_var 0) (de_var 1)) (dg_tup rfl (dgs_cons (dg_name sc_cover_by.nd rfl (Or.inl rfl)) (dgs_cons (dg_name sc_cover_by.nd rfl (Or.inl rfl)) (dgs_cons (dg_name sc_cover_by.nd rfl (Or.inl rfl)) dgs_nil)))))
    (dss_cons (ds_expr (de_append (pv 2) (da_cons (de_tup (da_cons (de_var 4) (da_cons (de_callTy dc_tuple (by rfl) T.z_tuple bb_tuple (da_cons (de_fn (fn_places_in T) hgu (hr.mono (by decide)) (by rfl) (da_cons (de_var 5) da_nil)) da_nil)) da_nil))) da_nil)))
    (dss_cons (ds_set sc_cover_by.nd rfl (Or.inl rfl) (de_op dop_sub (de_var 1) (de_var 5)))
    dss_nil))))
    (dss_cons (ds_ret (de_move 2))
    dss_nil)))
abbrev N_is_lot : List Str := ["value", "many", "place"]
theorem sc_is_lot : FnScope N_is_lot ["value", "many"] (defScope s_is_lot) := ⟨rfl, rfl, rfl, by decide +kernel, rfl, by decide +kernel, by decide +kernel⟩
noncomputable def q_is_lot_1 : SM := (sRet (eAnd (eApp gAll (aCons (eComp [2] (iSeq (eVar 0)) (gdName 2) tAll (eCall 3 m_is_between (aCons (eVar 2) (aCons (eK (.int 0)) (aCons (eBin gSub (eVar 1) (eK (.int 1))) aNil))))) aNil)) (eCall 1 m_are_rising (aCons (eVar 0) aNil))))
noncomputable def q_is_lot_2 : SM := (sIf (tOr2 (tNot2 (tVal (eIsi "tuple" (eVar 0)))) (tVal (eBin gEq (eApp gLen (aCons (eVar 0) aNil)) (eK (.int 0))))) (sSeq (sRet (eK (.bool false)))
    sNil) sNil)
noncomputable def b_is_lot : SM := (sSeq q_is_lot_2
    (sSeq q_is_lot_1
    sNil))
noncomputable def m_is_lot : GM := ofBody 2 1 b_is_lot
theorem fn_is_lot (T : Top K mg) : Callee P w K mg base 3 "is_lot" s_is_lot ["value", "many"] 2 m_is_lot :=
  callee T.d_is_lot sc_is_lot rfl fun f cdv A outer s H E hgu hr hu =>
    (dss_cons (ds_if (PW.pt (dw_or (dt_not (dt_val (de_isi "tuple" (de_var 0) (by rfl) T.z_isinstance bb_isinstance (by rfl) T.z_tuple bb_tuple))) (dw_or1 (dt_cmp (dop_eq (lu64 hu)) (de_callB dc_len (by rfl) T.z_len bb_len (da_cons (de_var 0) da_nil)) de_int (by first | exact nobehind _ (by decide) (by decide) | rfl | with_unfolding_all rfl))))) (dss_cons (ds_ret de_bl)
    dss_nil) dss_nil)
    (dss_cons (ds_ret (de_and (de_callB (dc_all rfl) (by rfl) T.z_all bb_all (da_cons (de_comp rfl sc_is_lot.nd (di_seq (de_var 0)) (blkOk_by (N := N_is_lot) (sc := (defScope s_is_lot)) (own := [("place", 2)]) (by decide +kernel)) rfl (fun _ _ _ _ _ => (dg_name sc_is_lot.nd rfl (Or.inl rfl))) (fun _ _ _ _ _ => dts_nil) (fun _ _ _ _ _ => (de_fn (fn_is_between T) hgu (hr.mono (by decide)) (by rfl) (da_cons (de_var 2) (da_cons de_int (da_cons (de_op dop_sub (de_var 1) de_int) da_nil)))))) da_nil)) (de_one (de_fn (fn_are_rising T) hgu (hr.mono (by decide)) (by rfl) (da_cons (de_var 0) da_nil)))))
    dss_nil))
abbrev N_is_bought : List Str := ["tickets", "passages", "value", "place"]
theorem sc_is_bought : FnScope N_is_bought ["tickets", "passages", "value"] (defScope s_is_bought) := ⟨rfl, rfl, rfl, by decide +kernel, rfl, by decide +kernel, by decide +kernel⟩
noncomputable def q_is_bought_1 : SM := (sRet (eCall 2 m_does_cover (aCons (eBin gIx (eVar 0) (eBin gIx (eVar 2) (eK (.int 0)))) (aCons (eComp [3] (iSeq (eBin gIx (eVar 2) (eK (.int 1)))) (gdName 3) tAll (eBin gIx (eVar 1) (eVar 3))) aNil))))
noncomputable def q_is_bought_2 : SM := (sIf (tNot2 (tVal (eCall 2 m_is_lot (aCons (eBin gIx (eVar 2) (eK (.int 1))) (aCons (eApp gLen (aCons (eVar 1) aNil)) aNil))))) (sSeq (sRet (eK (.bool false)))
    sNil) sNil)
noncomputable def q_is_bought_3 : SM := (sIf (tOr2 (tNot2 (tVal (eIsi "tuple" (eVar 2)))) (tOr2 (tVal (eBin gNe (eApp gLen (aCons (eVar 2) aNil)) (eK (.int 2)))) (tNot2 (tVal (eCall 3 m_is_between (aCons (eBin gIx (eVar 2) (eK (.int 0))) (aCons (eK (.int 0)) (aCons (eBin gSub (eApp gLen (aCons (eVar 0) aNil)) (eK (.int 1))) aNil)))))))) (sSeq (sRet (eK (.bool false)))
    sNil) sNil)
noncomputable def b_is_bought : SM := (sSeq q_is_bought_3
    (sSeq q_is_bought_2
    (sSeq q_is_bought_1
    sNil)))
noncomputable def m_is_bought : GM := ofBody 3 1 b_is_bought
theorem fn_is_bought (T : Top K mg) : Callee P w K mg base 4 "is_bought" s_is_bought ["tickets", "passages", "value"] 3 m_is_bought :=
  callee T.d_is_bought sc_is_bought rfl fun f cdv A outer s H E hgu hr hu =>
    (dss_cons (ds_if (PW.pt (dw_or (dt_not (dt_val (de_isi "tuple" (de_var 2) (by rfl) T.z_isinstance bb_isinstance (by rfl) T.z_tuple bb_tuple))) (dw_or (dt_cmp (dop_ne (lu64 hu)) (de_callB dc_len (by rfl) T.z_len bb_len (da_cons (de_var 2) da_nil)) de_int (by first | exact nobehind _ (by decide) (by decide) | rfl | with_unfolding_all rfl)) (dw_or1 (dt_not (dt_val (de_fn (fn_is_between T) hgu (hr.mono (by decide)) (by rfl) (da_cons (de_ix (de_var 2) de_int) (da_cons de_int (da_cons (de_op dop_sub (de_callB dc_len (by rfl) T.z_len bb_len (da_cons (de_var 0) da_nil)) de_int) da_nil)))))))))) (dss_cons (ds_ret de_bl)
    dss_nil) dss_nil)
    (dss_cons (ds_if (dt_not (dt_val (de_fn (fn_is_lot T) hgu (hr.mono (by decide)) (by rfl) (da_cons (de_ix (de_var 2) de_int) (da_cons (de_callB dc_len (by rfl) T.z_len bb_len (da_cons (de_var 1) da_nil)) da_nil))))) (dss_cons (ds_ret de_bl)
    dss_nil) dss_nil)
    (dss_cons (ds_ret (de_fn (fn_does_cover T) hgu (hr.mono (by decide)) (by rfl) (da_cons (de_ix (de_var 0) (de_ix (de_var 2) de_int)) (da_cons (de_comp rfl sc_is_bought.nd (di_seq (de_ix (de_var 2) de_int)) (blkOk_by (N := N_is_bought) (sc := (defScope s_is_bought)) (own := [("place", 3)]) (by decide +kernel)) rfl (fun _ _ _ _ _ => (dg_name sc_is_bought.nd rfl (Or.inl rfl))) (fun _ _ _ _ _ => dts_nil) (fun _ _ _ _ _ => (de_ix (de_var 1) (de_var 3)))) da_nil))))
    dss_nil)))
abbrev N_covers : List Str := ["tickets", "passages", "value", "places", "kind", "lot", "one"]
theorem sc_covers : FnScope N_covers ["tickets", "passages", "value"] (defScope s_covers) := ⟨rfl, rfl, rfl, by decide +kernel, rfl, by decide +kernel, by decide +kernel⟩
noncomputable def l_covers_1 : SM := (sSeq (sExpr (eMeth opExtend 3 (aCons (eVar 5) aNil)))
    sNil)
noncomputable def q_covers_2 : SM := (sIf (tOr2 (tNot2 (tVal (eIsi2 "list" "tuple" (eVar 2)))) (tNot2 (tVal (eApp gAll (aCons (eComp [6] (iSeq (eVar 2)) (gdName 6) tAll (eCall 3 m_is_bought (aCons (eVar 0) (aCons (eVar 1) (aCons (eVar 6) aNil))))) aNil))))) (sSeq (sRet (eK (.bool false)))
    sNil) sNil)
noncomputable def b_covers : SM := (sSeq q_covers_2
    (sSeq (sSet 3 (eApp gLst aNil))
    (sSeq (sFor (iSeq (eVar 2)) (gdTup 2 (gdCons (gdName 4) (gdCons (gdName 5) gdNil))) l_covers_1)
    (sSeq (sRet (eBin gEq (eApp gSorted (aCons (eVar 3) aNil)) (eListR1 (eApp gLen (aCons (eVar 1) aNil)))))
    sNil))))
noncomputable def m_covers : GM := ofBody 3 4 b_covers
theorem fn_covers (T : Top K mg) : Callee P w K mg base 5 "covers" s_covers ["tickets", "passages", "value"] 3 m_covers :=
  callee T.d_covers sc_covers rfl fun f cdv A outer s H E hgu hr hu =>
    (dss_cons (ds_if (PW.pt (dw_or (dt_not (dt_val (de_isi2 "list" "tuple" (de_var 2) (by rfl) T.z_isinstance bb_isinstance (by rfl) T.z_list bb_list (by rfl) T.z_tuple bb_tuple))) (dw_or1 (dt_not (dt_val (de_callB (dc_all rfl) (by rfl) T.z_all bb_all (da_cons (de_comp rfl sc_covers.nd (di_seq (de_var 2)) (blkOk_by (N := N_covers) (sc := (defScope s_covers)) (own := [("one", 6)]) (by decide +kernel)) rfl (fun _ _ _ _ _ => (dg_name sc_covers.nd rfl (Or.inl rfl))) (fun _ _ _ _ _ => dts_nil) (fun _ _ _ _ _ => (de_fn (fn_is_bought T) hgu (hr.mono (by decide)) (by rfl) (da_cons (de_var 0) (da_cons (de_var 1) (da_cons (de_var 6) da_nil)))))) da_nil))))))) (dss_cons (ds_ret de_bl)
    dss_nil) dss_nil)
    (dss_cons (ds_set sc_covers.nd rfl (Or.inl rfl) (de_lst da_nil))
    (dss_cons (ds_for PassesOwn.never rfl (di_seq (de_var 2)) (dg_tup rfl (dgs_cons (dg_name sc_covers.nd rfl (Or.inl rfl)) (dgs_cons (dg_name sc_covers.nd rfl (Or.inl rfl)) dgs_nil))) (dss_cons (ds_expr (de_extend (pv 3) (da_cons (de_var 5) da_nil)))
    dss_nil))
    (dss_cons (ds_ret (de_cmp (dop_eq (lu64 hu)) (de_callB dc_sorted (by rfl) T.z_sorted bb_sorted (da_cons (de_var 3) da_nil)) (de_listR1 rfl (by rfl) T.z_list (by rfl) T.z_range (de_callB dc_len (by rfl) T.z_len bb_len (da_cons (de_var 1) da_nil))) (by first | exact nobehind _ (by decide) (by decide) | rfl | with_unfolding_all rfl)))
    dss_nil))))
abbrev N_is_worth : List Str := ["value"]
theorem sc_is_worth : FnScope N_is_worth ["value"] (defScope s_is_worth) := ⟨rfl, rfl, rfl, by decide +kernel, rfl, by decide +kernel, by decide +kernel⟩
noncomputable def b_is_worth : SM := (sSeq (sRet (eOr (eBin (gIsB false) (eVar 0) (eK .none)) (eCall 3 m_is_between (aCons (eVar 0) (aCons (eK (.int 0)) (aCons (eK (.int 99999)) aNil))))))
    sNil)
noncomputable def m_is_worth : GM := ofBody 1 0 b_is_worth
theorem fn_is_worth (T : Top K mg) : Callee P w K mg base 3 "is_worth" s_is_worth ["value"] 1 m_is_worth :=
  callee T.d_is_worth sc_is_worth rfl fun f cdv A outer s H E hgu hr hu =>
    (dss_cons (ds_ret (de_or (de_cmp dop_isB (de_var 0) de_non (by first | exact nobehind _ (by decide) (by decide) | rfl | with_unfolding_all rfl)) (de_one (de_fn (fn_is_between T) hgu (hr.mono (by decide)) (by rfl) (da_cons (de_var 0) (da_cons de_int (da_cons (de_globE (by rfl) T.g_MOST_SUM) da_nil)))))))
    dss_nil)
abbrev N_is_bounded : List Str := ["worth", "rest", "single"]
theorem sc_is_bounded : FnScope N_is_bounded ["worth", "rest", "single"] (defScope s_is_bounded) := ⟨rfl, rfl, rfl, by decide +kernel, rfl, by decide +kernel, by decide +kernel⟩
noncomputable def q_is_bounded_1 : SM := (sRet (eOr (eBin (gIsB false) (eVar 1) (eK .none)) (eOr (eBin (gIsB false) (eVar 2) (eK .none)) (eAnd (eBin (gIsB true) (eVar 0) (eK .none)) (eBin gLe (eVar 0) (eBin gAdd (eVar 1) (eBin gIx (eVar 2) (eK (.int 0)))))))))
noncomputable def b_is_bounded : SM := (sSeq q_is_bounded_1
    sNil)
noncomputable def m_is_bounded : GM := ofBody 3 0 b_is_bounded
theorem fn_is_bounded (T : Top K mg) : Callee P w K mg base 1 "is_bounded" s_is_bounded ["worth", "rest", "single"] 3 m_is_bounded :=
  callee T.d_is_bounded sc_is_bounded rfl fun f cdv A outer s H E hgu hr hu =>
    (dss_cons (ds_ret (de_or (de_cmp dop_isB (de_var 1) de_non (by first | exact nobehind _ (by decide) (by decide) | rfl | with_unfolding_all rfl)) (de_or (de_cmp dop_isB (de_var 2) de_non (by first | exact nobehind _ (by decide) (by decide) | rfl | with_unfolding_all rfl)) (de_one (de_and (de_cmp dop_isnotB (de_var 0) de_non (by first | exact nobehind _ (by decide) (by decide) | rfl | with_unfolding_all rfl)) (de_one (de_cmp dop_le (de_var 0) (de_op dop_add (de_var 1) (de_ix (de_var 2) de_int)) (by first | exact nobehind _ (by decide) (by decide) | rfl | with_unfolding_all rfl))))))))
    dss_nil)
abbrev N_is_row_let : List Str := ["singles", "passages", "table", "number", "part"]
theorem sc_is_row_let : FnScope N_is_row_let ["singles", "passages", "table", "number"] (defScope s_is_row_let) := ⟨rfl, rfl, rfl, by decide +kernel, rfl, by decide +kernel, by decide +kernel⟩
noncomputable def q_is_row_let_1 : SM := (sIf (tNot2 (tVal (eCall 3 m_is_bounded (aCons (eBin gIx (eVar 2) (eVar 3)) (aCons (eBin gIx (eVar 2) (eBin gSub (eVar 3) (eVar 4))) (aCons (eBin gIx (eVar 0) (eVar 4)) aNil)))))) (sSeq (sRet (eK (.bool false)))
    sNil) sNil)
noncomputable def l_is_row_let_2 : SM := (sSeq q_is_row_let_1
    sNil)
noncomputable def q_is_row_let_3 : SM := (sFor (iSeq (eCall 2 m_parts_with (aCons (eVar 3) (aCons (eCall 2 m_first_in (aCons (eVar 1) (aCons (eVar 3) aNil))) aNil)))) (gdName 4) l_is_row_let_2)
noncomputable def b_is_row_let : SM := (sSeq q_is_row_let_3
    (sSeq (sRet (eK (.bool true)))
    sNil))
noncomputable def m_is_row_let : GM := ofBody 4 1 b_is_row_let
theorem fn_is_row_let (T : Top K mg) : Callee P w K mg base 3 "is_row_let" s_is_row_let ["singles", "passages", "table", "number"] 4 m_is_row_let :=
  callee T.d_is_row_let sc_is_row_let rfl fun f cdv A outer s H E hgu hr hu =>
    (dss_cons (ds_for PassesOwn.never rfl (di_seq (de_fn (fn_parts_with T) hgu (hr.mono (by decide)) (by rfl) (da_cons (de_var 3) (da_cons (de_fn (fn_first_in T) hgu (hr.mono (by decide)) (by rfl) (da_cons (de_var 1) (da_cons (de_var 3) da_nil))) da_nil)))) (dg_name sc_is_row_let.nd rfl (Or.inl rfl)) (dss_cons (ds_if (dt_not (dt_val (de_fn (fn_is_bounded T) hgu (hr.mono (by decide)) (by rfl) (da_cons (de_ix (de_var 2) (de_var 3)) (da_cons (de_ix (de_var 2) (de_op dop_sub (de_var 3) (de_var 4))) (da_cons (de_ix (de_var 0) (de_var 4)) da_nil)))))) (dss_cons (ds_ret de_bl)
    dss_nil) dss_nil)
    dss_nil))
    (dss_cons (ds_ret de_bl)
    dss_nil))
abbrev N_bounds : List Str := ["tickets", "passages", "value", "singles", "one", "number"]
theorem sc_bounds : FnScope N_bounds ["tickets", "passages", "value"] (defScope s_bounds) := ⟨rfl, rfl, rfl, by decide +kernel, rfl, by decide +kernel, by decide +kernel⟩
noncomputable def q_bounds_1 : SM := (sRet (eApp gAll (aCons (eComp [5] (iApp range2D (aCons (eK (.int 1)) (aCons (eApp gLen (aCons (eVar 2) aNil)) aNil))) (gdName 5) tAll (eCall 4 m_is_row_let (aCons (eVar 3) (aCons (eVar 1) (aCons (eVar 2) (aCons (eVar 5) aNil)))))) aNil)))
noncomputable def q_bounds_2 : SM := (sIf (tOr2 (tNot2 (tVal (eApp gAll (aCons (eComp [4] (iSeq (eVar 2)) (gdName 4) tAll (eCall 1 m_is_worth (aCons (eVar 4) aNil))) aNil)))) (tVal (eBin gNe (eBin gIx (eVar 2) (eK (.int 0))) (eK (.int 0))))) (sSeq (sRet (eK (.bool false)))
    sNil) sNil)
noncomputable def q_bounds_3 : SM := (sIf (tOr2 (tNot2 (tVal (eIsi2 "list" "tuple" (eVar 2)))) (tVal (eBin gNe (eApp gLen (aCons (eVar 2) aNil)) (eBin gShl (eK (.int 1)) (eApp gLen (aCons (eVar 1) aNil)))))) (sSeq (sRet (eK (.bool false)))
    sNil) sNil)
noncomputable def b_bounds : SM := (sSeq q_bounds_3
    (sSeq q_bounds_2
    (sSeq (sSet 3 (eCall 2 m_least_kinds (aCons (eVar 0) (aCons (eVar 1) aNil))))
    (sSeq q_bounds_1
    sNil))))
noncomputable def m_bounds : GM := ofBody 3 3 b_bounds
theorem fn_bounds (T : Top K mg) : Callee P w K mg base 5 "bounds" s_bounds ["tickets", "passages", "value"] 3 m_bounds :=
  callee T.d_bounds sc_bounds rfl fun f cdv A outer s H E hgu hr hu =>
    (dss_cons (ds_if (PW.pt (dw_or (dt_not (dt_val (de_isi2 "list" "tuple" (de_var 2) (by rfl) T.z_isinstance bb_isinstance (by rfl) T.z_list bb_list (by rfl) T.z_tuple bb_tuple))) (dw_or1 (dt_cmp (dop_ne (lu64 hu)) (de_callB dc_len (by rfl) T.z_len bb_len (da_cons (de_var 2) da_nil)) (de_op dop_shl de_int (de_callB dc_len (by rfl) T.z_len bb_len (da_cons (de_var 1) da_nil))) (by first | exact nobehind _ (by decide) (by decide) | rfl | with_unfolding_all rfl))))) (dss_cons (ds_ret de_bl)
    dss_nil) dss_nil)
    (dss_cons (ds_if (PW.pt (dw_or (dt_not (dt_val (de_callB (dc_all rfl) (by rfl) T.z_all bb_all (da_cons (de_comp rfl sc_bounds.nd (di_seq (de_var 2)) (blkOk_by (N := N_bounds) (sc := (defScope s_bounds)) (own := [("one", 4)]) (by decide +kernel)) rfl (fun _ _ _ _ _ => (dg_name sc_bounds.nd rfl (Or.inl rfl))) (fun _ _ _ _ _ => dts_nil) (fun _ _ _ _ _ => (de_fn (fn_is_worth T) hgu (hr.mono (by decide)) (by rfl) (da_cons (de_var 4) da_nil)))) da_nil)))) (dw_or1 (dt_cmp (dop_ne (lu64 hu)) (de_ix (de_var 2) de_int) de_int (by first | exact nobehind _ (by decide) (by decide) | rfl | with_unfolding_all rfl))))) (dss_cons (ds_ret de_bl)
    dss_nil) dss_nil)
    (dss_cons (ds_set sc_bounds.nd rfl (Or.inr rfl) (de_fn (fn_least_kinds T) hgu (hr.mono (by decide)) (by rfl) (da_cons (de_var 0) (da_cons (de_var 1) da_nil))))
    (dss_cons (ds_ret (de_callB (dc_all rfl) (by rfl) T.z_all bb_all (da_cons (de_comp rfl sc_bounds.nd (di_range2 (by rfl) T.z_range (da_cons de_int (da_cons (de_callB dc_len (by rfl) T.z_len bb_len (da_cons (de_var 2) da_nil)) da_nil))) (blkOk_by (N := N_bounds) (sc := (defScope s_bounds)) (own := [("number", 5)]) (by decide +kernel)) rfl (fun _ _ _ _ _ => (dg_name sc_bounds.nd rfl (Or.inl rfl))) (fun _ _ _ _ _ => dts_nil) (fun _ _ _ _ _ => (de_fn (fn_is_row_let T) hgu (hr.mono (by decide)) (by rfl) (da_cons (de_var 3) (da_cons (de_var 1) (da_cons (de_var 2) (da_cons (de_var 5) da_nil))))))) da_nil)))
    dss_nil))))
abbrev N_is_cover : List Str := ["tickets", "passages", "value"]
theorem sc_is_cover : FnScope N_is_cover ["tickets", "passages", "value"] (defScope s_is_cover) := ⟨rfl, rfl, rfl, by decide +kernel, rfl, by decide +kernel, by decide +kernel⟩
noncomputable def b_is_cover : SM := (sSeq (sExpr (eCall 1 m_want_tickets (aCons (eVar 0) aNil)))
    (sSeq (sRet (eCall 3 m_covers (aCons (eVar 0) (aCons (eCall 1 m_want_passages (aCons (eVar 1) aNil)) (aCons (eVar 2) aNil)))))
    sNil))
noncomputable def m_is_cover : GM := ofBody 3 0 b_is_cover
theorem fn_is_cover (T : Top K mg) : Callee P w K mg base 7 "is_cover" s_is_cover ["tickets", "passages", "value"] 3 m_is_cover :=
  callee T.d_is_cover sc_is_cover rfl fun f cdv A outer s H E hgu hr hu =>
    (dss_cons (ds_expr (de_fn (fn_want_tickets T) hgu (hr.mono (by decide)) (by rfl) (da_cons (de_var 0) da_nil)))
    (dss_cons (ds_ret (de_fn (fn_covers T) hgu (hr.mono (by decide)) (by rfl) (da_cons (de_var 0) (da_cons (de_fn (fn_want_passages T) hgu (hr.mono (by decide)) (by rfl) (da_cons (de_var 1) da_nil)) (da_cons (de_var 2) da_nil)))))
    dss_nil))
noncomputable def x_is_cover : XM := fun ρ => (xOr (xCall 1 x_want_tickets (aCons (eVar 0) aNil)) (xSeq (sExpr (eCall 1 m_want_tickets (aCons (eVar 0) aNil))) (xNext (eVar 0) (xCall 1 x_want_passages (aCons (eVar 1) aNil))))) (ρ ++ List.replicate 0 .u)
theorem fx_is_cover (T : Top K mg) (U : TopU P w K mg base CE C1 C2 ca Pa) : CalleeX P w K mg base 7 "is_cover" s_is_cover ["tickets", "passages", "value"] 3 x_is_cover :=
  calleeX T.d_is_cover sc_is_cover rfl fun f cdv A outer s H E hgu hr hu tk =>
    (xs_or (xs_head (xs_expr (xe_call (fx_want_tickets T U) tk hgu (hr.mono (by decide)) (by rfl) (da_cons (de_var 0) da_nil)))) (xs_tail (ds_expr (de_fn (fn_want_tickets T) hgu (hr.mono (by decide)) (by rfl) (da_cons (de_var 0) da_nil))) (xs_head (xs_ret (xe_args (fn_covers T) hgu (hr.mono (by decide)) (by rfl) (xa_next (de_var 0) (xa_here (xe_call (fx_want_passages T U) tk hgu (hr.mono (by decide)) (by rfl) (da_cons (de_var 1) da_nil)) pa_no)))))))
abbrev N_cheapest : List Str := ["tickets", "passages"]
theorem sc_cheapest : FnScope N_cheapest ["tickets", "passages"] (defScope s_cheapest) := ⟨rfl, rfl, rfl, by decide +kernel, rfl, by decide +kernel, by decide +kernel⟩
noncomputable def b_cheapest : SM := (sSeq (sExpr (eCall 1 m_want_tickets (aCons (eVar 0) aNil)))
    (sSeq (sRet (eCall 2 m_cheapest_of (aCons (eVar 0) (aCons (eCall 1 m_want_passages (aCons (eVar 1) aNil)) aNil))))
    sNil))
noncomputable def m_cheapest : GM := ofBody 2 0 b_cheapest
theorem fn_cheapest (T : Top K mg) : Callee P w K mg base 8 "cheapest" s_cheapest ["tickets", "passages"] 2 m_cheapest :=
  callee T.d_cheapest sc_cheapest rfl fun f cdv A outer s H E hgu hr hu =>
    (dss_cons (ds_expr (de_fn (fn_want_tickets T) hgu (hr.mono (by decide)) (by rfl) (da_cons (de_var 0) da_nil)))
    (dss_cons (ds_ret (de_fn (fn_cheapest_of T) hgu (hr.mono (by decide)) (by rfl) (da_cons (de_var 0) (da_cons (de_fn (fn_want_passages T) hgu (hr.mono (by decide)) (by rfl) (da_cons (de_var 1) da_nil)) da_nil))))
    dss_nil))
noncomputable def x_cheapest : XM := fun ρ => (xOr (xCall 1 x_want_tickets (aCons (eVar 0) aNil)) (xSeq (sExpr (eCall 1 m_want_tickets (aCons (eVar 0) aNil))) (xNext (eVar 0) (xCall 1 x_want_passages (aCons (eVar 1) aNil))))) (ρ ++ List.replicate 0 .u)
theorem fx_cheapest (T : Top K mg) (U : TopU P w K mg base CE C1 C2 ca Pa) : CalleeX P w K mg base 8 "cheapest" s_cheapest ["tickets", "passages"] 2 x_cheapest :=
  calleeX T.d_cheapest sc_cheapest rfl fun f cdv A outer s H E hgu hr hu tk =>
    (xs_or (xs_head (xs_expr (xe_call (fx_want_tickets T U) tk hgu (hr.mono (by decide)) (by rfl) (da_cons (de_var 0) da_nil)))) (xs_tail (ds_expr (de_fn (fn_want_tickets T) hgu (hr.mono (by decide)) (by rfl) (da_cons (de_var 0) da_nil))) (xs_head (xs_ret (xe_args (fn_cheapest_of T) hgu (hr.mono (by decide)) (by rfl) (xa_next (de_var 0) (xa_here (xe_call (fx_want_passages T U) tk hgu (hr.mono (by decide)) (by rfl) (da_cons (de_var 1) da_nil)) pa_no)))))))
abbrev N_cheapest_cover : List Str := ["tickets", "passages", "rows"]
theorem sc_cheapest_cover : FnScope N_cheapest_cover ["tickets", "passages"] (defScope s_cheapest_cover) := ⟨rfl, rfl, rfl, by decide +kernel, rfl, by decide +kernel, by decide +kernel⟩
noncomputable def b_cheapest_cover : SM := (sSeq (sExpr (eCall 1 m_want_tickets (aCons (eVar 0) aNil)))
    (sSeq (sSet 2 (eCall 2 m_least_rows (aCons (eVar 0) (aCons (eCall 1 m_want_passages (aCons (eVar 1) aNil)) aNil))))
    (sSeq (sRet (eIf (tVal (eBin (gIsB true) (eBin gIx (eVar 2) (eNeg (eK (.int 1)))) (eK .none))) (eCall 1 m_cover_by (aCons (eVar 2) aNil)) (eK .none)))
    sNil)))
noncomputable def m_cheapest_cover : GM := ofBody 2 1 b_cheapest_cover
theorem fn_cheapest_cover (T : Top K mg) : Callee P w K mg base 7 "cheapest_cover" s_cheapest_cover ["tickets", "passages"] 2 m_cheapest_cover :=
  callee T.d_cheapest_cover sc_cheapest_cover rfl fun f cdv A outer s H E hgu hr hu =>
    (dss_cons (ds_expr (de_fn (fn_want_tickets T) hgu (hr.mono (by decide)) (by rfl) (da_cons (de_var 0) da_nil)))
    (dss_cons (ds_set sc_cheapest_cover.nd rfl (Or.inl rfl) (de_fn (fn_least_rows T) hgu (hr.mono (by decide)) (by rfl) (da_cons (de_var 0) (da_cons (de_fn (fn_want_passages T) hgu (hr.mono (by decide)) (by rfl) (da_cons (de_var 1) da_nil)) da_nil))))
    (dss_cons (ds_ret (de_if (dt_cmp dop_isnotB (de_ix (de_var 2) (de_neg de_int)) de_non (by first | exact nobehind _ (by decide) (by decide) | rfl | with_unfolding_all rfl)) (de_fn (fn_cover_by T) hgu (hr.mono (by decide)) (by rfl) (da_cons (de_var 2) da_nil)) de_non))
    dss_nil)))
noncomputable def x_cheapest_cover : XM := fun ρ => (xOr (xCall 1 x_want_tickets (aCons (eVar 0) aNil)) (xSeq (sExpr (eCall 1 m_want_tickets (aCons (eVar 0) aNil))) (xNext (eVar 0) (xCall 1 x_want_passages (aCons (eVar 1) aNil))))) (ρ ++ List.replicate 1 .u)
theorem fx_cheapest_cover (T : Top K mg) (U : TopU P w K mg base CE C1 C2 ca Pa) : CalleeX P w K mg base 7 "cheapest_cover" s_cheapest_cover ["tickets", "passages"] 2 x_cheapest_cover :=
  calleeX T.d_cheapest_cover sc_cheapest_cover rfl fun f cdv A outer s H E hgu hr hu tk =>
    (xs_or (xs_head (xs_expr (xe_call (fx_want_tickets T U) tk hgu (hr.mono (by decide)) (by rfl) (da_cons (de_var 0) da_nil)))) (xs_tail (ds_expr (de_fn (fn_want_tickets T) hgu (hr.mono (by decide)) (by rfl) (da_cons (de_var 0) da_nil))) (xs_head (xs_set (i := 2) sc_cheapest_cover.nd rfl (Or.inl rfl) (xe_args (fn_least_rows T) hgu (hr.mono (by decide)) (by rfl) (xa_next (de_var 0) (xa_here (xe_call (fx_want_passages T U) tk hgu (hr.mono (by decide)) (by rfl) (da_cons (de_var 1) da_nil)) pa_no)))))))
abbrev N_price_table : List Str := ["tickets", "passages"]
theorem sc_price_table : FnScope N_price_table ["tickets", "passages"] (defScope s_price_table) := ⟨rfl, rfl, rfl, by decide +kernel, rfl, by decide +kernel, by decide +kernel⟩
noncomputable def b_price_table : SM := (sSeq (sExpr (eCall 1 m_want_tickets (aCons (eVar 0) aNil)))
    (sSeq (sRet (eCall 2 m_least_prices (aCons (eVar 0) (aCons (eCall 1 m_want_passages (aCons (eVar 1) aNil)) aNil))))
    sNil))
noncomputable def m_price_table : GM := ofBody 2 0 b_price_table
theorem fn_price_table (T : Top K mg) : Callee P w K mg base 7 "price_table" s_price_table ["tickets", "passages"] 2 m_price_table :=
  callee T.d_price_table sc_price_table rfl fun f cdv A outer s H E hgu hr hu =>
    (dss_cons (ds_expr (de_fn (fn_want_tickets T) hgu (hr.mono (by decide)) (by rfl) (da_cons (de_var 0) da_nil)))
    (dss_cons (ds_ret (de_fn (fn_least_prices T) hgu (hr.mono (by decide)) (by rfl) (da_cons (de_var 0) (da_cons (de_fn (fn_want_passages T) hgu (hr.mono (by decide)) (by rfl) (da_cons (de_var 1) da_nil)) da_nil))))
    dss_nil))
noncomputable def x_price_table : XM := fun ρ => (xOr (xCall 1 x_want_tickets (aCons (eVar 0) aNil)) (xSeq (sExpr (eCall 1 m_want_tickets (aCons (eVar 0) aNil))) (xNext (eVar 0) (xCall 1 x_want_passages (aCons (eVar 1) aNil))))) (ρ ++ List.replicate 0 .u)
theorem fx_price_table (T : Top K mg) (U : TopU P w K mg base CE C1 C2 ca Pa) : CalleeX P w K mg base 7 "price_table" s_price_table ["tickets", "passages"] 2 x_price_table :=
  calleeX T.d_price_table sc_price_table rfl fun f cdv A outer s H E hgu hr hu tk =>
    (xs_or (xs_head (xs_expr (xe_call (fx_want_tickets T U) tk hgu (hr.mono (by decide)) (by rfl) (da_cons (de_var 0) da_nil)))) (xs_tail (ds_expr (de_fn (fn_want_tickets T) hgu (hr.mono (by decide)) (by rfl) (da_cons (de_var 0) da_nil))) (xs_head (xs_ret (xe_args (fn_least_prices T) hgu (hr.mono (by decide)) (by rfl) (xa_next (de_var 0) (xa_here (xe_call (fx_want_passages T U) tk hgu (hr.mono (by decide)) (by rfl) (da_cons (de_var 1) da_nil)) pa_no)))))))
abbrev N_is_price_table : List Str := ["tickets", "passages", "value"]
theorem sc_is_price_table : FnScope N_is_price_table ["tickets", "passages", "value"] (defScope s_is_price_table) := ⟨rfl, rfl, rfl, by decide +kernel, rfl, by decide +kernel, by decide +kernel⟩
noncomputable def b_is_price_table : SM := (sSeq (sExpr (eCall 1 m_want_tickets (aCons (eVar 0) aNil)))
    (sSeq (sRet (eCall 3 m_bounds (aCons (eVar 0) (aCons (eCall 1 m_want_passages (aCons (eVar 1) aNil)) (aCons (eVar 2) aNil)))))
    sNil))
noncomputable def m_is_price_table : GM := ofBody 3 0 b_is_price_table
theorem fn_is_price_table (T : Top K mg) : Callee P w K mg base 7 "is_price_table" s_is_price_table ["tickets", "passages", "value"] 3 m_is_price_table :=
  callee T.d_is_price_table sc_is_price_table rfl fun f cdv A outer s H E hgu hr hu =>
    (dss_cons (ds_expr (de_fn (fn_want_tickets T) hgu (hr.mono (by decide)) (by rfl) (da_cons (de_var 0) da_nil)))
    (dss_cons (ds_ret (de_fn (fn_bounds T) hgu (hr.mono (by decide)) (by rfl) (da_cons (de_var 0) (da_cons (de_fn (fn_want_passages T) hgu (hr.mono (by decide)) (by rfl) (da_cons (de_var 1) da_nil)) (da_cons (de_var 2) da_nil)))))
    dss_nil))
noncomputable def x_is_price_table : XM := fun ρ => (xOr (xCall 1 x_want_tickets (aCons (eVar 0) aNil)) (xSeq (sExpr (eCall 1 m_want_tickets (aCons (eVar 0) aNil))) (xNext (eVar 0) (xCall 1 x_want_passages (aCons (eVar 1) aNil))))) (ρ ++ List.replicate 0 .u)
theorem fx_is_price_table (T : Top K mg) (U : TopU P w K mg base CE C1 C2 ca Pa) : CalleeX P w K mg base 7 "is_price_table" s_is_price_table ["tickets", "passages", "value"] 3 x_is_price_table :=
  calleeX T.d_is_price_table sc_is_price_table rfl fun f cdv A outer s H E hgu hr hu tk =>
    (xs_or (xs_head (xs_expr (xe_call (fx_want_tickets T U) tk hgu (hr.mono (by decide)) (by rfl) (da_cons (de_var 0) da_nil)))) (xs_tail (ds_expr (de_fn (fn_want_tickets T) hgu (hr.mono (by decide)) (by rfl) (da_cons (de_var 0) da_nil))) (xs_head (xs_ret (xe_args (fn_bounds T) hgu (hr.mono (by decide)) (by rfl) (xa_next (de_var 0) (xa_here (xe_call (fx_want_passages T U) tk hgu (hr.mono (by decide)) (by rfl) (da_cons (de_var 1) da_nil)) pa_no)))))))
abbrev N_charges : List Str := ["tickets", "passages", "prices", "place"]
theorem sc_charges : FnScope N_charges ["tickets", "passages"] (defScope s_charges) := ⟨rfl, rfl, rfl, by decide +kernel, rfl, by decide +kernel, by decide +kernel⟩
noncomputable def q_charges_1 : SM := (sRet (eComp [3] (iApp range1D (aCons (eApp gLen (aCons (eVar 1) aNil)) aNil)) (gdName 3) tAll (eBin gSub (eBin gIx (eVar 2) (eBin gSub (eBin gShl (eK (.int 2)) (eVar 3)) (eK (.int 1)))) (eBin gIx (eVar 2) (eBin gSub (eBin gShl (eK (.int 1)) (eVar 3)) (eK (.int 1)))))))
noncomputable def b_charges : SM := (sSeq (sExpr (eCall 1 m_want_tickets (aCons (eVar 0) aNil)))
    (sSeq (sSet 2 (eCall 2 m_least_prices (aCons (eVar 0) (aCons (eCall 1 m_want_passages (aCons (eVar 1) aNil)) aNil))))
    (sSeq (sIf (tVal (eBin (gIsB false) (eBin gIx (eVar 2) (eNeg (eK (.int 1)))) (eK .none))) (sSeq (sRet (eK .none))
    sNil) sNil)
    (sSeq q_charges_1
    sNil))))
noncomputable def m_charges : GM := ofBody 2 2 b_charges
theorem fn_charges (T : Top K mg) : Callee P w K mg base 7 "charges" s_charges ["tickets", "passages"] 2 m_charges :=
  callee T.d_charges sc_charges rfl fun f cdv A outer s H E hgu hr hu =>
    (dss_cons (ds_expr (de_fn (fn_want_tickets T) hgu (hr.mono (by decide)) (by rfl) (da_cons (de_var 0) da_nil)))
    (dss_cons (ds_set sc_charges.nd rfl (Or.inr rfl) (de_fn (fn_least_prices T) hgu (hr.mono (by decide)) (by rfl) (da_cons (de_var 0) (da_cons (de_fn (fn_want_passages T) hgu (hr.mono (by decide)) (by rfl) (da_cons (de_var 1) da_nil)) da_nil))))
    (dss_cons (ds_if (dt_cmp dop_isB (de_ix (de_var 2) (de_neg de_int)) de_non (by first | exact nobehind _ (by decide) (by decide) | rfl | with_unfolding_all rfl)) (dss_cons (ds_ret de_non)
    dss_nil) dss_nil)
    (dss_cons (ds_ret (de_comp rfl sc_charges.nd (di_range1 (by rfl) T.z_range (da_cons (de_callB dc_len (by rfl) T.z_len bb_len (da_cons (de_var 1) da_nil)) da_nil)) (blkOk_by (N := N_charges) (sc := (defScope s_charges)) (own := [("place", 3)]) (by decide +kernel)) rfl (fun _ _ _ _ _ => (dg_name sc_charges.nd rfl (Or.inl rfl))) (fun _ _ _ _ _ => dts_nil) (fun _ _ _ _ _ => (de_op dop_sub (de_ix (de_var 2) (de_op dop_sub (de_op dop_shl de_int (de_var 3)) de_int)) (de_ix (de_var 2) (de_op dop_sub (de_op dop_shl de_int (de_var 3)) de_int))))))
    dss_nil))))
noncomputable def x_charges : XM := fun ρ => (xOr (xCall 1 x_want_tickets (aCons (eVar 0) aNil)) (xSeq (sExpr (eCall 1 m_want_tickets (aCons (eVar 0) aNil))) (xNext (eVar 0) (xCall 1 x_want_passages (aCons (eVar 1) aNil))))) (ρ ++ List.replicate 2 .u)
theorem fx_charges (T : Top K mg) (U : TopU P w K mg base CE C1 C2 ca Pa) : CalleeX P w K mg base 7 "charges" s_charges ["tickets", "passages"] 2 x_charges :=
  calleeX T.d_charges sc_charges rfl fun f cdv A outer s H E hgu hr hu tk =>
    (xs_or (xs_head (xs_expr (xe_call (fx_want_tickets T U) tk hgu (hr.mono (by decide)) (by rfl) (da_cons (de_var 0) da_nil)))) (xs_tail (ds_expr (de_fn (fn_want_tickets T) hgu (hr.mono (by decide)) (by rfl) (da_cons (de_var 0) da_nil))) (xs_head (xs_set (i := 2) sc_charges.nd rfl (Or.inr rfl) (xe_args (fn_least_prices T) hgu (hr.mono (by decide)) (by rfl) (xa_next (de_var 0) (xa_here (xe_call (fx_want_passages T U) tk hgu (hr.mono (by decide)) (by rfl) (da_cons (de_var 1) da_nil)) pa_no)))))))
abbrev N__law_draw : List Str := ["pot", "many", "digit"]
theorem sc__law_draw : FnScope N__law_draw ["pot", "many"] (defScope s__law_draw) := ⟨rfl, rfl, rfl, by decide +kernel, rfl, by decide +kernel, by decide +kernel⟩
noncomputable def q__law_draw_1 : SM := (sRet (eBin gMod (eApp gInt1 (aCons (eBin gFdiv (eBin gMod (eApp gInt1 (aCons (eBin gMul (eIxN 0 (eK (.int 1))) (eIxN 0 (eK (.int 1)))) aNil)) (eK (.int 2147483549))) (eK (.int 19))) aNil)) (eVar 1)))
noncomputable def q__law_draw_2 : SM := (sAsgD (gdIx 0 (eK (.int 1))) (eBin gMod (eApp gInt1 (aCons (eBin gAdd (eBin gMul (eIxN 0 (eK (.int 1))) (eK (.int 39373))) (eK (.int 1523))) aNil)) (eK (.int 2147483587))))
noncomputable def q__law_draw_3 : SM := (sIf (tVal (eBin gGt (eIxN 0 (eK (.int 0))) (eK (.int 0)))) (sSeq (sAsgD (gdTup 2 (gdCons (gdIx 0 (eK (.int 0))) (gdCons (gdName 2) gdNil))) (eApp gDivmod (aCons (eIxN 0 (eK (.int 0))) (aCons (eVar 1) aNil))))
    (sSeq (sRet (eMove 2))
    sNil)) sNil)
noncomputable def b__law_draw : SM := (sSeq q__law_draw_3
    (sSeq q__law_draw_2
    (sSeq q__law_draw_1
    sNil)))
noncomputable def m__law_draw : GM := ofBody 2 1 b__law_draw
theorem fn__law_draw (T : Top K mg) : Callee P w K mg base 1 "_law_draw" s__law_draw ["pot", "many"] 2 m__law_draw :=
  callee T.d__law_draw sc__law_draw rfl fun f cdv A outer s H E hgu hr hu =>
    (dss_cons (ds_if (dt_cmp dop_gt (de_ixN (pv 0) de_int) de_int (by first | exact nobehind _ (by decide) (by decide) | rfl | with_unfolding_all rfl)) (dss_cons (ds_asgD (de_callB dc_divmod (by rfl) T.z_divmod bb_divmod (da_cons (de_ixN (pv 0) de_int) (da_cons (de_var 1) da_nil))) (dg_tup rfl (dgs_cons (dg_ix (pv 0) de_int) (dgs_cons (dg_name sc__law_draw.nd rfl (Or.inl rfl)) dgs_nil))))
    (dss_cons (ds_ret (de_move 2))
    dss_nil)) dss_nil)
    (dss_cons (ds_asgD (de_op dop_mod (de_callTy dc_int (by rfl) T.z_int bb_int (da_cons (de_op dop_add (de_op dop_mul (de_ixN (pv 0) de_int) de_int) de_int) da_nil)) de_int) (dg_ix (pv 0) de_int))
    (dss_cons (ds_ret (de_op dop_mod (de_callTy dc_int (by rfl) T.z_int bb_int (da_cons (de_op dop_fdiv (de_op dop_mod (de_callTy dc_int (by rfl) T.z_int bb_int (da_cons (de_op dop_mul (de_ixN (pv 0) de_int) (de_ixN (pv 0) de_int)) da_nil)) de_int) de_int) da_nil)) (de_var 1)))
    dss_nil)))
abbrev N__law_pick : List Str := ["pot", "some"]
theorem sc__law_pick : FnScope N__law_pick ["pot", "some"] (defScope s__law_pick) := ⟨rfl, rfl, rfl, by decide +kernel, rfl, by decide +kernel, by decide +kernel⟩
noncomputable def b__law_pick : SM := (sSeq (sRet (eIxA 1 (eCallP 2 m__law_draw 0 (aCons (look (eApp gLen (aCons (eVar 1) aNil))) aNil))))
    sNil)
noncomputable def m__law_pick : GM := ofBody 2 0 b__law_pick
theorem fn__law_pick (T : Top K mg) : Callee P w K mg base 2 "_law_pick" s__law_pick ["pot", "some"] 2 m__law_pick :=
  callee T.d__law_pick sc__law_pick rfl fun f cdv A outer s H E hgu hr hu =>
    (dss_cons (ds_ret (de_ixA (de_var 1) (pv 1) (de_fnP (fn__law_draw T) hgu (hr.mono (by decide)) (by rfl) (pv 0) (da_cons (de_look (de_callB dc_len (by rfl) T.z_len bb_len (da_cons (de_var 1) da_nil))) da_nil))))
    dss_nil)
abbrev N__law_zones : List Str := ["pot"]
theorem sc__law_zones : FnScope N__law_zones ["pot"] (defScope s__law_zones) := ⟨rfl, rfl, rfl, by decide +kernel, rfl, by decide +kernel, by decide +kernel⟩
noncomputable def q__law_zones_1 : SM := (sRet (eCallP 2 m__law_pick 0 (aCons (eApp gLst (aCons (eApp gTup (aCons (eK (.int 1)) aNil)) (aCons (eApp gTup (aCons (eK (.int 2)) aNil)) (aCons (eApp gTup (aCons (eK (.int 1)) (aCons (eK (.int 2)) aNil))) (aCons (eApp gTup (aCons (eK (.int 2)) (aCons (eK (.int 3)) aNil))) (aCons (eApp gTup (aCons (eK (.int 1)) (aCons (eK (.int 2)) (aCons (eK (.int 3)) aNil)))) (aCons (eApp gTup (aCons (eK (.int 3)) (aCons (eK (.int 4)) aNil))) (aCons (eApp gTup (aCons (eK (.int 1)) (aCons (eK (.int 2)) (aCons (eK (.int 3)) (aCons (eK (.int 4)) aNil))))) (aCons (eApp gTup (aCons (eK (.int 1)) (aCons (eK (.int 2)) aNil))) aNil))))))))) aNil)))
noncomputable def b__law_zones : SM := (sSeq q__law_zones_1
    sNil)
noncomputable def m__law_zones : GM := ofBody 1 0 b__law_zones
theorem fn__law_zones (T : Top K mg) : Callee P w K mg base 3 "_law_zones" s__law_zones ["pot"] 1 m__law_zones :=
  callee T.d__law_zones sc__law_zones rfl fun f cdv A outer s H E hgu hr hu =>
    (dss_cons (ds_ret (de_fnP (fn__law_pick T) hgu (hr.mono (by decide)) (by rfl) (pv 0) (da_cons (de_lst (da_cons (de_tup (da_cons de_int da_nil)) (da_cons (de_tup (da_cons de_int da_nil)) (da_cons (de_tup (da_cons de_int (da_cons de_int da_nil))) (da_cons (de_tup (da_cons de_int (da_cons de_int da_nil))) (da_cons (de_tup (da_cons de_int (da_cons de_int (da_cons de_int da_nil)))) (da_cons (de_tup (da_cons de_int (da_cons de_int da_nil))) (da_cons (de_tup (da_cons de_int (da_cons de_int (da_cons de_int (da_cons de_int da_nil))))) (da_cons (de_tup (da_cons de_int (da_cons de_int da_nil))) da_nil))))))))) da_nil)))
    dss_nil)
abbrev N__law_ticket : List Str := ["pot", "price", "minutes"]
theorem sc__law_ticket : FnScope N__law_ticket ["pot"] (defScope s__law_ticket) := ⟨rfl, rfl, rfl, by decide +kernel, rfl, by decide +kernel, by decide +kernel⟩
noncomputable def q__law_ticket_1 : SM := (sRet (eApp gTup (aCons (eK (.str "ticket")) (aCons (eVar 1) (aCons (eVar 2) (aCons (eCallP 1 m__law_zones 0 aNil) (aCons (eCallP 2 m__law_pick 0 (aCons (eApp gLst (aCons (eK (.int 1)) (aCons (eK (.int 1)) (aCons (eK (.int 2)) (aCons (eK (.int 3)) (aCons (eK (.int 5)) aNil)))))) aNil)) aNil)))))))
noncomputable def q__law_ticket_2 : SM := (sPar 1 2 (eCallP 2 m__law_pick 0 (aCons (eApp gLst (aCons (eBin gAdd (eK (.int 1)) (eCallP 2 m__law_draw 0 (aCons (eK (.int 30)) aNil))) (aCons (eBin gMul (eK (.int 100)) (eBin gAdd (eK (.int 1)) (eCallP 2 m__law_draw 0 (aCons (eK (.int 9)) aNil)))) (aCons (eK (.int 9999)) aNil)))) aNil)) (eCallP 2 m__law_pick 0 (aCons (eApp gLst (aCons (eK (.int 1)) (aCons (eK (.int 2)) (aCons (eK (.int 10)) (aCons (eK (.int 30)) (aCons (eK (.int 60)) (aCons (eK (.int 61)) (aCons (eK (.int 90)) (aCons (eK (.int 11000)) aNil))))))))) aNil)))
noncomputable def b__law_ticket : SM := (sSeq q__law_ticket_2
    (sSeq q__law_ticket_1
    sNil))
noncomputable def m__law_ticket : GM := ofBody 1 2 b__law_ticket
theorem fn__law_ticket (T : Top K mg) : Callee P w K mg base 4 "_law_ticket" s__law_ticket ["pot"] 1 m__law_ticket :=
  callee T.d__law_ticket sc__law_ticket rfl fun f cdv A outer s H E hgu hr hu =>
    (dss_cons (ds_par rfl sc__law_ticket.nd rfl rfl (by decide) rfl rfl (de_fnP (fn__law_pick T) hgu (hr.mono (by decide)) (by rfl) (pv 0) (da_cons (de_lst (da_cons (de_op dop_add de_int (de_fnP (fn__law_draw T) hgu (hr.mono (by decide)) (by rfl) (pv 0) (da_cons de_int da_nil))) (da_cons (de_op dop_mul de_int (de_op dop_add de_int (de_fnP (fn__law_draw T) hgu (hr.mono (by decide)) (by rfl) (pv 0) (da_cons de_int da_nil)))) (da_cons de_int da_nil)))) da_nil)) (de_fnP (fn__law_pick T) hgu (hr.mono (by decide)) (by rfl) (pv 0) (da_cons (de_lst (da_cons de_int (da_cons de_int (da_cons de_int (da_cons de_int (da_cons de_int (da_cons de_int (da_cons de_int (da_cons de_int da_nil))))))))) da_nil)))
    (dss_cons (ds_ret (de_tup (da_cons de_str (da_cons (de_var 1) (da_cons (de_var 2) (da_cons (de_fnP (fn__law_zones T) hgu (hr.mono (by decide)) (by rfl) (pv 0) da_nil) (da_cons (de_fnP (fn__law_pick T) hgu (hr.mono (by decide)) (by rfl) (pv 0) (da_cons (de_lst (da_cons de_int (da_cons de_int (da_cons de_int (da_cons de_int (da_cons de_int da_nil)))))) da_nil)) da_nil)))))))
    dss_nil))
abbrev N__law_tickets : List Str := ["pot", "turn"]
theorem sc__law_tickets : FnScope N__law_tickets ["pot"] (defScope s__law_tickets) := ⟨rfl, rfl, rfl, by decide +kernel, rfl, by decide +kernel, by decide +kernel⟩
noncomputable def q__law_tickets_1 : SM := (sRet (eComp [1] (iApp range1D (aCons (eCallP 2 m__law_pick 0 (aCons (eApp gLst (aCons (eK (.int 1)) (aCons (eK (.int 2)) (aCons (eK (.int 3)) (aCons (eK (.int 4)) (aCons (eK (.int 8)) aNil)))))) aNil)) aNil)) (gdName 1) tAll (eCallP 1 m__law_ticket 0 aNil)))
noncomputable def b__law_tickets : SM := (sSeq q__law_tickets_1
    sNil)
noncomputable def m__law_tickets : GM := ofBody 1 1 b__law_tickets
theorem fn__law_tickets (T : Top K mg) : Callee P w K mg base 5 "_law_tickets" s__law_tickets ["pot"] 1 m__law_tickets :=
  callee T.d__law_tickets sc__law_tickets rfl fun f cdv A outer s H E hgu hr hu =>
    (dss_cons (ds_ret (de_comp rfl sc__law_tickets.nd (di_range1 (by rfl) T.z_range (da_cons (de_fnP (fn__law_pick T) hgu (hr.mono (by decide)) (by rfl) (pv 0) (da_cons (de_lst (da_cons de_int (da_cons de_int (da_cons de_int (da_cons de_int (da_cons de_int da_nil)))))) da_nil)) da_nil)) (blkOk_by (N := N__law_tickets) (sc := (defScope s__law_tickets)) (own := [("turn", 1)]) (by decide +kernel)) rfl (fun _ _ _ _ _ => (dg_name sc__law_tickets.nd rfl (Or.inl rfl))) (fun _ _ _ _ _ => dts_nil) (fun _ _ _ _ _ => (de_fnP (fn__law_ticket T) hgu (hr.mono (by decide)) (by rfl) (pv 0) da_nil))))
    dss_nil)
abbrev N__law_passage : List Str := ["pot", "begin"]
theorem sc__law_passage : FnScope N__law_passage ["pot"] (defScope s__law_passage) := ⟨rfl, rfl, rfl, by decide +kernel, rfl, by decide +kernel, by decide +kernel⟩
noncomputable def q__law_passage_1 : SM := (sRet (eApp gTup (aCons (eVar 1) (aCons (eApp gMin (aCons (eK (.int 9999)) (aCons (eBin gAdd (eVar 1) (eCallP 2 m__law_pick 0 (aCons (eApp gLst (aCons (eK (.int 1)) (aCons (eK (.int 30)) (aCons (eBin gAdd (eK (.int 1)) (eCallP 2 m__law_draw 0 (aCons (eK (.int 40)) aNil))) (aCons (eK (.int 9)) aNil))))) aNil))) aNil))) (aCons (eCallP 2 m__law_pick 0 (aCons (eApp gLst (aCons (eApp gTup (aCons (eK (.int 1)) aNil)) (aCons (eApp gTup (aCons (eK (.int 2)) aNil)) (aCons (eApp gTup (aCons (eK (.int 1)) (aCons (eK (.int 2)) aNil))) (aCons (eApp gTup (aCons (eK (.int 1)) aNil)) (aCons (eCallP 1 m__law_zones 0 aNil) aNil)))))) aNil)) aNil)))))
noncomputable def q__law_passage_2 : SM := (sSet 1 (eCallP 2 m__law_pick 0 (aCons (eApp gLst (aCons (eK (.int 0)) (aCons (eK (.int 30)) (aCons (eK (.int 60)) (aCons (eCallP 2 m__law_draw 0 (aCons (eK (.int 100)) aNil)) (aCons (eK (.int 9990)) aNil)))))) aNil)))
noncomputable def b__law_passage : SM := (sSeq q__law_passage_2
    (sSeq q__law_passage_1
    sNil))
noncomputable def m__law_passage : GM := ofBody 1 1 b__law_passage
theorem fn__law_passage (T : Top K mg) : Callee P w K mg base 4 "_law_passage" s__law_passage ["pot"] 1 m__law_passage :=
  callee T.d__law_passage sc__law_passage rfl fun f cdv A outer s H E hgu hr hu =>
    (dss_cons (ds_set sc__law_passage.nd rfl (Or.inl rfl) (de_fnP (fn__law_pick T) hgu (hr.mono (by decide)) (by rfl) (pv 0) (da_cons (de_lst (da_cons de_int (da_cons de_int (da_cons de_int (da_cons (de_fnP (fn__law_draw T) hgu (hr.mono (by decide)) (by rfl) (pv 0) (da_cons de_int da_nil)) (da_cons de_int da_nil)))))) da_nil)))
    (dss_cons (ds_ret (de_tup (da_cons (de_var 1) (da_cons (de_callB (dc_min rfl (lu64 hu)) (by rfl) T.z_min bb_min (da_cons de_int (da_cons (de_op dop_add (de_var 1) (de_fnP (fn__law_pick T) hgu (hr.mono (by decide)) (by rfl) (pv 0) (da_cons (de_lst (da_cons de_int (da_cons de_int (da_cons (de_op dop_add de_int (de_fnP (fn__law_draw T) hgu (hr.mono (by decide)) (by rfl) (pv 0) (da_cons de_int da_nil))) (da_cons de_int da_nil))))) da_nil))) da_nil))) (da_cons (de_fnP (fn__law_pick T) hgu (hr.mono (by decide)) (by rfl) (pv 0) (da_cons (de_lst (da_cons (de_tup (da_cons de_int da_nil)) (da_cons (de_tup (da_cons de_int da_nil)) (da_cons (de_tup (da_cons de_int (da_cons de_int da_nil))) (da_cons (de_tup (da_cons de_int da_nil)) (da_cons (de_fnP (fn__law_zones T) hgu (hr.mono (by decide)) (by rfl) (pv 0) da_nil) da_nil)))))) da_nil)) da_nil)))))
    dss_nil))
abbrev N__law_passages : List Str := ["pot", "tickets", "many", "found", "turn", "one", "begin", "end", "zones", "over", "late"]
theorem sc__law_passages : FnScope N__law_passages ["pot", "tickets", "many"] (defScope s__law_passages) := ⟨rfl, rfl, rfl, by decide +kernel, rfl, by decide +kernel, by decide +kernel⟩
noncomputable def q__law_passages_1 : SM := (sSet 5 (eApp gTup (aCons (eVar 10) (aCons (eApp gMin (aCons (eK (.int 9999)) (aCons (eBin gAdd (eBin gAdd (eVar 10) (eK (.int 1))) (eCallP 2 m__law_draw 0 (aCons (eK (.int 30)) aNil))) aNil))) (aCons (eCallP 2 m__law_pick 0 (aCons (eApp gLst (aCons (eVar 8) (aCons (eBin gIx (eVar 5) (eK (.int 2))) aNil))) aNil)) aNil)))))
noncomputable def q__law_passages_2 : SM := (sSet 10 (eCallP 2 m__law_pick 0 (aCons (eApp gLst (aCons (eVar 6) (aCons (eVar 7) (aCons (eBin gSub (eVar 7) (eK (.int 1))) (aCons (eVar 9) (aCons (eBin gSub (eVar 9) (eK (.int 1))) aNil)))))) aNil)))
noncomputable def q__law_passages_3 : SM := (sIf (tAnd2 (lookT (tVal (eBin gNe (eVar 3) (eApp gLst aNil)))) (tVal (eBin gGt (eCallP 2 m__law_draw 0 (aCons (eK (.int 3)) aNil)) (eK (.int 0))))) (sSeq (sAsgD (gdTup 3 (gdCons (gdName 6) (gdCons (gdName 7) (gdCons (gdName 8) gdNil)))) (eCallPP 2 m__law_pick 0 3))
    (sSeq (sSet 9 (eBin gAdd (eVar 6) (eBin gIx (eCallP 2 m__law_pick 0 (aCons (eVar 1) aNil)) (eK (.int 2)))))
    (sSeq q__law_passages_2
    (sSeq (sIf (tVal (eBin gLt (eVar 10) (eK (.int 9999)))) (sSeq q__law_passages_1
    sNil) sNil)
    sNil)))) sNil)
noncomputable def l__law_passages_4 : SM := (sSeq (sSet 5 (eCallP 1 m__law_passage 0 aNil))
    (sSeq q__law_passages_3
    (sSeq (sExpr (eMeth opAppend 3 (aCons (eVar 5) aNil)))
    sNil)))
noncomputable def b__law_passages : SM := (sSeq (sSet 3 (eApp gLst aNil))
    (sSeq (sFor (iApp range1D (aCons (eVar 2) aNil)) (gdName 4) l__law_passages_4)
    (sSeq (sRet (eMove 3))
    sNil)))
noncomputable def m__law_passages : GM := ofBody 3 8 b__law_passages
theorem fn__law_passages (T : Top K mg) : Callee P w K mg base 5 "_law_passages" s__law_passages ["pot", "tickets", "many"] 3 m__law_passages :=
  callee T.d__law_passages sc__law_passages rfl fun f cdv A outer s H E hgu hr hu =>
    (dss_cons (ds_set sc__law_passages.nd rfl (Or.inl rfl) (de_lst da_nil))
    (dss_cons (ds_for PassesOwn.never rfl (di_range1 (by rfl) T.z_range (da_cons (de_var 2) da_nil)) (dg_name sc__law_passages.nd rfl (Or.inl rfl)) (dss_cons (ds_set sc__law_passages.nd rfl (Or.inl rfl) (de_fnP (fn__law_passage T) hgu (hr.mono (by decide)) (by rfl) (pv 0) da_nil))
    (dss_cons (ds_if (PW.pt (dw_and (dt_look (dt_cmp (dop_ne (lu64 hu)) (de_var 3) (de_lst da_nil) (by first | exact nobehind _ (by decide) (by decide) | rfl | with_unfolding_all rfl))) (dw_and1 (dt_cmp dop_gt (de_fnP (fn__law_draw T) hgu (hr.mono (by decide)) (by rfl) (pv 0) (da_cons de_int da_nil)) de_int (by first | exact nobehind _ (by decide) (by decide) | rfl | with_unfolding_all rfl))))) (dss_cons (ds_asgD (de_fnPP (fn__law_pick T) hgu (hr.mono (by decide)) (by rfl) (pv 0) (pv 3)) (dg_tup rfl (dgs_cons (dg_name sc__law_passages.nd rfl (Or.inl rfl)) (dgs_cons (dg_name sc__law_passages.nd rfl (Or.inl rfl)) (dgs_cons (dg_name sc__law_passages.nd rfl (Or.inl rfl)) dgs_nil)))))
    (dss_cons (ds_set sc__law_passages.nd rfl (Or.inl rfl) (de_op dop_add (de_var 6) (de_ix (de_fnP (fn__law_pick T) hgu (hr.mono (by decide)) (by rfl) (pv 0) (da_cons (de_var 1) da_nil)) de_int)))
    (dss_cons (ds_set sc__law_passages.nd rfl (Or.inl rfl) (de_fnP (fn__law_pick T) hgu (hr.mono (by decide)) (by rfl) (pv 0) (da_cons (de_lst (da_cons (de_var 6) (da_cons (de_var 7) (da_cons (de_op dop_sub (de_var 7) de_int) (da_cons (de_var 9) (da_cons (de_op dop_sub (de_var 9) de_int) da_nil)))))) da_nil)))
    (dss_cons (ds_if (dt_cmp (dop_lt (lu0 hu)) (de_var 10) de_int (by first | exact nobehind _ (by decide) (by decide) | rfl | with_unfolding_all rfl)) (dss_cons (ds_set sc__law_passages.nd rfl (Or.inl rfl) (de_tup (da_cons (de_var 10) (da_cons (de_callB (dc_min rfl (lu64 hu)) (by rfl) T.z_min bb_min (da_cons de_int (da_cons (de_op dop_add (de_op dop_add (de_var 10) de_int) (de_fnP (fn__law_draw T) hgu (hr.mono (by decide)) (by rfl) (pv 0) (da_cons de_int da_nil))) da_nil))) (da_cons (de_fnP (fn__law_pick T) hgu (hr.mono (by decide)) (by rfl) (pv 0) (da_cons (de_lst (da_cons (de_var 8) (da_cons (de_ix (de_var 5) de_int) da_nil))) da_nil)) da_nil)))))
    dss_nil) dss_nil)
    dss_nil)))) dss_nil)
    (dss_cons (ds_expr (de_append (pv 3) (da_cons (de_var 5) da_nil)))
    dss_nil))))
    (dss_cons (ds_ret (de_move 3))
    dss_nil)))
abbrev N__law_covers : List Str := ["ticket", "some", "word", "price", "minutes", "zones", "persons", "begins", "begin", "end", "here", "zone", "minute"]
theorem sc__law_covers : FnScope N__law_covers ["ticket", "some"] (defScope s__law_covers) := ⟨rfl, rfl, rfl, by decide +kernel, rfl, by decide +kernel, by decide +kernel⟩
noncomputable def q__law_covers_1 : SM := (sIf (tOr2 (tVal (eBin gGe (eBin gSub (eVar 8) (eApp gMin (aCons (eVar 7) aNil))) (eVar 4))) (tVal (eBin gNe (eComp [11] (iSeq (eVar 10)) (gdName 11) (tVal (eBin (gIn true) (eVar 11) (eVar 5))) (eVar 11)) (eApp gLst aNil)))) (sSeq (sRet (eK (.bool false)))
    sNil) sNil)
noncomputable def l__law_covers_2 : SM := (sSeq q__law_covers_1
    sNil)
noncomputable def q__law_covers_3 : SM := (sRet (eApp gAll (aCons (eComp [12] (iSeq (eVar 7)) (gdName 12) tAll (eBin gLe (eApp gLen (aCons (eComp [8, 9, 10] (iSeq (eVar 1)) (gdTup 3 (gdCons (gdName 8) (gdCons (gdName 9) (gdCons (gdName 10) gdNil)))) (tVal (eChain gLe gLt (eVar 8) (eVar 12) (eVar 9))) (eK (.int 1))) aNil)) (eVar 6))) aNil)))
noncomputable def b__law_covers : SM := (sSeq (sAsgD (gdTup 5 (gdCons (gdName 2) (gdCons (gdName 3) (gdCons (gdName 4) (gdCons (gdName 5) (gdCons (gdName 6) gdNil)))))) (eVar 0))
    (sSeq (sSet 7 (eComp [8, 9, 10] (iSeq (eVar 1)) (gdTup 3 (gdCons (gdName 8) (gdCons (gdName 9) (gdCons (gdName 10) gdNil)))) tAll (eVar 8)))
    (sSeq (sFor (iSeq (eVar 1)) (gdTup 3 (gdCons (gdName 8) (gdCons (gdName 9) (gdCons (gdName 10) gdNil)))) l__law_covers_2)
    (sSeq q__law_covers_3
    sNil))))
noncomputable def m__law_covers : GM := ofBody 2 11 b__law_covers
theorem fn__law_covers (T : Top K mg) : Callee P w K mg base 1 "_law_covers" s__law_covers ["ticket", "some"] 2 m__law_covers :=
  callee T.d__law_covers sc__law_covers rfl fun f cdv A outer s H E hgu hr hu =>
    (dss_cons (ds_asgD (de_var 0) (dg_tup rfl (dgs_cons (dg_name sc__law_covers.nd rfl (Or.inl rfl)) (dgs_cons (dg_name sc__law_covers.nd rfl (Or.inl rfl)) (dgs_cons (dg_name sc__law_covers.nd rfl (Or.inl rfl)) (dgs_cons (dg_name sc__law_covers.nd rfl (Or.inr rfl)) (dgs_cons (dg_name sc__law_covers.nd rfl (Or.inr rfl)) dgs_nil)))))))
    (dss_cons (ds_setComp rfl sc__law_covers.nd rfl rfl (sw_true rfl rfl rfl (by decide +kernel)) (di_seq (de_var 1)) (blkOk_by (N := N__law_covers) (sc := (defScope s__law_covers)) (own := [("begin", 8), ("end", 9), ("here", 10)]) (by decide +kernel)) rfl (fun _ _ _ _ _ => (dg_tup rfl (dgs_cons (dg_name sc__law_covers.nd rfl (Or.inl rfl)) (dgs_cons (dg_name sc__law_covers.nd rfl (Or.inl rfl)) (dgs_cons (dg_name sc__law_covers.nd rfl (Or.inl rfl)) dgs_nil))))) (fun _ _ _ _ _ => dts_nil) (fun _ _ _ _ _ => (de_var 8)))
    (dss_cons (ds_for PassesOwn.never rfl (di_seq (de_var 1)) (dg_tup rfl (dgs_cons (dg_name sc__law_covers.nd rfl (Or.inl rfl)) (dgs_cons (dg_name sc__law_covers.nd rfl (Or.inl rfl)) (dgs_cons (dg_name sc__law_covers.nd rfl (Or.inl rfl)) dgs_nil)))) (dss_cons (ds_if (PW.pt (dw_or (dt_cmp dop_ge (de_op dop_sub (de_var 8) (de_callB (dc_min rfl (lu64 hu)) (by rfl) T.z_min bb_min (da_cons (de_var 7) da_nil))) (de_var 4) (by first | exact nobehind _ (by decide) (by decide) | rfl | with_unfolding_all rfl)) (dw_or1 (dt_cmp (dop_ne (lu64 hu)) (de_comp rfl sc__law_covers.nd (di_seq (de_var 10)) (blkOk_by (N := N__law_covers) (sc := (defScope s__law_covers)) (own := [("zone", 11)]) (by decide +kernel)) rfl (fun _ _ _ _ _ => (dg_name sc__law_covers.nd rfl (Or.inl rfl))) (fun _ _ _ _ _ => (dts_one (dt_cmp (dop_notin (lu65 hu)) (de_var 11) (de_var 5) (by first | exact nobehind _ (by decide) (by decide) | rfl | with_unfolding_all rfl)))) (fun _ _ _ _ _ => (de_var 11))) (de_lst da_nil) (by first | exact nobehind _ (by decide) (by decide) | rfl | with_unfolding_all rfl))))) (dss_cons (ds_ret de_bl)
    dss_nil) dss_nil)
    dss_nil))
    (dss_cons (ds_ret (de_callB (dc_all rfl) (by rfl) T.z_all bb_all (da_cons (de_comp rfl sc__law_covers.nd (di_seq (de_var 7)) (blkOk_by (N := N__law_covers) (sc := (defScope s__law_covers)) (own := [("minute", 12)]) (by decide +kernel)) rfl (fun _ _ _ _ _ => (dg_name sc__law_covers.nd rfl (Or.inr rfl))) (fun _ _ _ _ _ => dts_nil) (fun _ _ _ _ _ => (de_cmp dop_le (de_callB dc_len (by rfl) T.z_len bb_len (da_cons (de_comp rfl sc__law_covers.nd (di_seq (de_var 1)) (blkOk_by (N := N__law_covers) (sc := ({ kind := .function, names := [(".0", .local), ("minute", .cell), ("len", .globalImplicit), ("persons", .cell), ("some", .cell)], isGenerator := false, isCoroutine := false } : Scope)) (own := [("begin", 8), ("end", 9), ("here", 10)]) (by decide +kernel)) rfl (fun _ _ _ _ _ => (dg_tup rfl (dgs_cons (dg_name sc__law_covers.nd rfl (Or.inl rfl)) (dgs_cons (dg_name sc__law_covers.nd rfl (Or.inl rfl)) (dgs_cons (dg_name sc__law_covers.nd rfl (Or.inl rfl)) dgs_nil))))) (fun _ _ _ _ _ => (dts_one (dt_chain dop_le (dop_lt (lu0 hu)) (de_var 8) (de_var 12) (de_var 9)))) (fun _ _ _ _ _ => de_int)) da_nil)) (de_var 6) (by first | exact nobehind _ (by decide) (by decide) | rfl | with_unfolding_all rfl)))) da_nil)))
    dss_nil))))
abbrev N__law_lot : List Str := ["number", "many", "place"]
theorem sc__law_lot : FnScope N__law_lot ["number", "many"] (defScope s__law_lot) := ⟨rfl, rfl, rfl, by decide +kernel, rfl, by decide +kernel, by decide +kernel⟩
noncomputable def q__law_lot_1 : SM := (sRet (eComp [2] (iApp range1D (aCons (eVar 1) aNil)) (gdName 2) (tVal (eBin gEq (eBin gAnd (eBin gShr (eVar 0) (eVar 2)) (eK (.int 1))) (eK (.int 1)))) (eVar 2)))
noncomputable def b__law_lot : SM := (sSeq q__law_lot_1
    sNil)
noncomputable def m__law_lot : GM := ofBody 2 1 b__law_lot
theorem fn__law_lot (T : Top K mg) : Callee P w K mg base 1 "_law_lot" s__law_lot ["number", "many"] 2 m__law_lot :=
  callee T.d__law_lot sc__law_lot rfl fun f cdv A outer s H E hgu hr hu =>
    (dss_cons (ds_ret (de_comp rfl sc__law_lot.nd (di_range1 (by rfl) T.z_range (da_cons (de_var 1) da_nil)) (blkOk_by (N := N__law_lot) (sc := (defScope s__law_lot)) (own := [("place", 2)]) (by decide +kernel)) rfl (fun _ _ _ _ _ => (dg_name sc__law_lot.nd rfl (Or.inl rfl))) (fun _ _ _ _ _ => (dts_one (dt_cmp (dop_eq (lu64 hu)) (de_op dop_and (de_op dop_shr (de_var 0) (de_var 2)) de_int) de_int (by first | exact nobehind _ (by decide) (by decide) | rfl | with_unfolding_all rfl)))) (fun _ _ _ _ _ => (de_var 2))))
    dss_nil)
abbrev N__law_prices : List Str := ["tickets", "passages", "found", "number", "some", "place", "ticket"]
theorem sc__law_prices : FnScope N__law_prices ["tickets", "passages"] (defScope s__law_prices) := ⟨rfl, rfl, rfl, by decide +kernel, rfl, by decide +kernel, by decide +kernel⟩
noncomputable def q__law_prices_1 : SM := (sExpr (eMeth opAppend 2 (aCons (eComp [6] (iSeq (eVar 0)) (gdName 6) (tVal (eCall 2 m__law_covers (aCons (eVar 6) (aCons (eVar 4) aNil)))) (eBin gIx (eVar 6) (eK (.int 1)))) aNil)))
noncomputable def q__law_prices_2 : SM := (sSet 4 (eComp [5] (iSeq (eCall 2 m__law_lot (aCons (eVar 3) (aCons (eApp gLen (aCons (eVar 1) aNil)) aNil)))) (gdName 5) tAll (eBin gIx (eVar 1) (eVar 5))))
noncomputable def l__law_prices_3 : SM := (sSeq q__law_prices_2
    (sSeq q__law_prices_1
    sNil))
noncomputable def b__law_prices : SM := (sSeq (sSet 2 (eApp gLst (aCons (eApp gLst aNil) aNil)))
    (sSeq (sFor (iApp range2D (aCons (eK (.int 1)) (aCons (eBin gShl (eK (.int 1)) (eApp gLen (aCons (eVar 1) aNil))) aNil))) (gdName 3) l__law_prices_3)
    (sSeq (sRet (eMove 2))
    sNil)))
noncomputable def m__law_prices : GM := ofBody 2 5 b__law_prices
theorem fn__law_prices (T : Top K mg) : Callee P w K mg base 2 "_law_prices" s__law_prices ["tickets", "passages"] 2 m__law_prices :=
  callee T.d__law_prices sc__law_prices rfl fun f cdv A outer s H E hgu hr hu =>
    (dss_cons (ds_set sc__law_prices.nd rfl (Or.inl rfl) (de_lst (da_cons (de_lst da_nil) da_nil)))
    (dss_cons (ds_for PassesOwn.never rfl (di_range2 (by rfl) T.z_range (da_cons de_int (da_cons (de_op dop_shl de_int (de_callB dc_len (by rfl) T.z_len bb_len (da_cons (de_var 1) da_nil))) da_nil))) (dg_name sc__law_prices.nd rfl (Or.inl rfl)) (dss_cons (ds_set sc__law_prices.nd rfl (Or.inr rfl) (de_comp rfl sc__law_prices.nd (di_seq (de_fn (fn__law_lot T) hgu (hr.mono (by decide)) (by rfl) (da_cons (de_var 3) (da_cons (de_callB dc_len (by rfl) T.z_len bb_len (da_cons (de_var 1) da_nil)) da_nil)))) (blkOk_by (N := N__law_prices) (sc := (defScope s__law_prices)) (own := [("place", 5)]) (by decide +kernel)) rfl (fun _ _ _ _ _ => (dg_name sc__law_prices.nd rfl (Or.inl rfl))) (fun _ _ _ _ _ => dts_nil) (fun _ _ _ _ _ => (de_ix (de_var 1) (de_var 5)))))
    (dss_cons (ds_expr (de_append (pv 2) (da_cons (de_comp rfl sc__law_prices.nd (di_seq (de_var 0)) (blkOk_by (N := N__law_prices) (sc := (defScope s__law_prices)) (own := [("ticket", 6)]) (by decide +kernel)) rfl (fun _ _ _ _ _ => (dg_name sc__law_prices.nd rfl (Or.inl rfl))) (fun _ _ _ _ _ => (dts_one (dt_val (de_fn (fn__law_covers T) hgu (hr.mono (by decide)) (by rfl) (da_cons (de_var 6) (da_cons (de_var 4) da_nil)))))) (fun _ _ _ _ _ => (de_ix (de_var 6) de_int))) da_nil)))
    dss_nil)))
    (dss_cons (ds_ret (de_move 2))
    dss_nil)))
abbrev N__law_first : List Str := ["passages", "lot", "found", "place"]
theorem sc__law_first : FnScope N__law_first ["passages", "lot"] (defScope s__law_first) := ⟨rfl, rfl, rfl, by decide +kernel, rfl, by decide +kernel, by decide +kernel⟩
noncomputable def q__law_first_1 : SM := (sIf (tVal (eBin gLt (eBin gIx (eBin gIx (eVar 0) (eVar 3)) (eK (.int 0))) (eBin gIx (eBin gIx (eVar 0) (eVar 2)) (eK (.int 0))))) (sSeq (sSet 2 (eVar 3))
    sNil) sNil)
noncomputable def l__law_first_2 : SM := (sSeq q__law_first_1
    sNil)
noncomputable def b__law_first : SM := (sSeq (sSet 2 (eBin gIx (eVar 1) (eK (.int 0))))
    (sSeq (sFor (iSeq (eVar 1)) (gdName 3) l__law_first_2)
    (sSeq (sRet (eMove 2))
    sNil)))
noncomputable def m__law_first : GM := ofBody 2 2 b__law_first
theorem fn__law_first (T : Top K mg) : Callee P w K mg base 1 "_law_first" s__law_first ["passages", "lot"] 2 m__law_first :=
  callee T.d__law_first sc__law_first rfl fun f cdv A outer s H E hgu hr hu =>
    (dss_cons (ds_set sc__law_first.nd rfl (Or.inl rfl) (de_ix (de_var 1) de_int))
    (dss_cons (ds_for PassesOwn.never rfl (di_seq (de_var 1)) (dg_name sc__law_first.nd rfl (Or.inl rfl)) (dss_cons (ds_if (dt_cmp (dop_lt (lu0 hu)) (de_ix (de_ix (de_var 0) (de_var 3)) de_int) (de_ix (de_ix (de_var 0) (de_var 2)) de_int) (by first | exact nobehind _ (by decide) (by decide) | rfl | with_unfolding_all rfl)) (dss_cons (ds_set sc__law_first.nd rfl (Or.inl rfl) (de_var 3))
    dss_nil) dss_nil)
    dss_nil))
    (dss_cons (ds_ret (de_move 2))
    dss_nil)))
abbrev N__law_most : List Str := ["prices", "passages", "table", "number", "first", "most", "part", "price", "sum_now"]
theorem sc__law_most : FnScope N__law_most ["prices", "passages", "table", "number"] (defScope s__law_most) := ⟨rfl, rfl, rfl, by decide +kernel, rfl, by decide +kernel, by decide +kernel⟩
noncomputable def l__law_most_1 : SM := (sSeq (sSet 8 (eBin gAdd (eBin gIx (eVar 2) (eBin gSub (eVar 3) (eVar 6))) (eVar 7)))
    (sSeq (sSet 5 (eIf (tOr2 (tVal (eBin (gIsB false) (eVar 5) (eK .none))) (tVal (eBin gLt (eVar 8) (eVar 5)))) (eVar 8) (eVar 5)))
    sNil))
noncomputable def q__law_most_2 : SM := (sIf (tAnd2 (tVal (eBin gEq (eBin gAnd (eVar 6) (eVar 3)) (eVar 6))) (tAnd2 (tVal (eBin gEq (eBin gAnd (eBin gShr (eVar 6) (eVar 4)) (eK (.int 1))) (eK (.int 1)))) (tVal (eBin (gIsB true) (eBin gIx (eVar 2) (eBin gSub (eVar 3) (eVar 6))) (eK .none))))) (sSeq (sFor (iSeq (eBin gIx (eVar 0) (eVar 6))) (gdName 7) l__law_most_1)
    sNil) sNil)
noncomputable def l__law_most_3 : SM := (sSeq q__law_most_2
    sNil)
noncomputable def q__law_most_4 : SM := (sPar 4 5 (eCall 2 m__law_first (aCons (eVar 1) (aCons (eCall 2 m__law_lot (aCons (eVar 3) (aCons (eApp gLen (aCons (eVar 1) aNil)) aNil))) aNil))) (eK .none))
noncomputable def b__law_most : SM := (sSeq q__law_most_4
    (sSeq (sFor (iApp range2D (aCons (eK (.int 1)) (aCons (eBin gAdd (eVar 3) (eK (.int 1))) aNil))) (gdName 6) l__law_most_3)
    (sSeq (sRet (eMove 5))
    sNil)))
noncomputable def m__law_most : GM := ofBody 4 5 b__law_most
theorem fn__law_most (T : Top K mg) : Callee P w K mg base 2 "_law_most" s__law_most ["prices", "passages", "table", "number"] 4 m__law_most :=
  callee T.d__law_most sc__law_most rfl fun f cdv A outer s H E hgu hr hu =>
    (dss_cons (ds_par rfl sc__law_most.nd rfl rfl (by decide) rfl rfl (de_fn (fn__law_first T) hgu (hr.mono (by decide)) (by rfl) (da_cons (de_var 1) (da_cons (de_fn (fn__law_lot T) hgu (hr.mono (by decide)) (by rfl) (da_cons (de_var 3) (da_cons (de_callB dc_len (by rfl) T.z_len bb_len (da_cons (de_var 1) da_nil)) da_nil))) da_nil))) de_non)
    (dss_cons (ds_for PassesOwn.never rfl (di_range2 (by rfl) T.z_range (da_cons de_int (da_cons (de_op dop_add (de_var 3) de_int) da_nil))) (dg_name sc__law_most.nd rfl (Or.inl rfl)) (dss_cons (ds_if (PW.pt (dw_and (dt_cmp (dop_eq (lu64 hu)) (de_op dop_and (de_var 6) (de_var 3)) (de_var 6) (by first | exact nobehind _ (by decide) (by decide) | rfl | with_unfolding_all rfl)) (dw_and (dt_cmp (dop_eq (lu64 hu)) (de_op dop_and (de_op dop_shr (de_var 6) (de_var 4)) de_int) de_int (by first | exact nobehind _ (by decide) (by decide) | rfl | with_unfolding_all rfl)) (dw_and1 (dt_cmp dop_isnotB (de_ix (de_var 2) (de_op dop_sub (de_var 3) (de_var 6))) de_non (by first | exact nobehind _ (by decide) (by decide) | rfl | with_unfolding_all rfl)))))) (dss_cons (ds_for PassesOwn.never rfl (di_seq (de_ix (de_var 0) (de_var 6))) (dg_name sc__law_most.nd rfl (Or.inl rfl)) (dss_cons (ds_set sc__law_most.nd rfl (Or.inl rfl) (de_op dop_add (de_ix (de_var 2) (de_op dop_sub (de_var 3) (de_var 6))) (de_var 7)))
    (dss_cons (ds_set sc__law_most.nd rfl (Or.inl rfl) (de_if (PW.pt (dw_or (dt_cmp dop_isB (de_var 5) de_non (by first | exact nobehind _ (by decide) (by decide) | rfl | with_unfolding_all rfl)) (dw_or1 (dt_cmp (dop_lt (lu0 hu)) (de_var 8) (de_var 5) (by first | exact nobehind _ (by decide) (by decide) | rfl | with_unfolding_all rfl))))) (de_var 8) (de_var 5)))
    dss_nil)))
    dss_nil) dss_nil)
    dss_nil))
    (dss_cons (ds_ret (de_move 5))
    dss_nil)))
abbrev N__law_least : List Str := ["prices", "passages", "found", "number"]
theorem sc__law_least : FnScope N__law_least ["prices", "passages"] (defScope s__law_least) := ⟨rfl, rfl, rfl, by decide +kernel, rfl, by decide +kernel, by decide +kernel⟩
noncomputable def l__law_least_1 : SM := (sSeq (sExpr (eMeth opAppend 2 (aCons (eK .none) aNil)))
    (sSeq (sAsgD (gdIx 2 (eVar 3)) (look (eCall 4 m__law_most (aCons (eVar 0) (aCons (eVar 1) (aCons (eVar 2) (aCons (eVar 3) aNil)))))))
    sNil))
noncomputable def b__law_least : SM := (sSeq (sSet 2 (eApp gLst (aCons (eK (.int 0)) aNil)))
    (sSeq (sFor (iApp range2D (aCons (eK (.int 1)) (aCons (eBin gShl (eK (.int 1)) (eApp gLen (aCons (eVar 1) aNil))) aNil))) (gdName 3) l__law_least_1)
    (sSeq (sRet (eMove 2))
    sNil)))
noncomputable def m__law_least : GM := ofBody 2 2 b__law_least
theorem fn__law_least (T : Top K mg) : Callee P w K mg base 3 "_law_least" s__law_least ["prices", "passages"] 2 m__law_least :=
  callee T.d__law_least sc__law_least rfl fun f cdv A outer s H E hgu hr hu =>
    (dss_cons (ds_set sc__law_least.nd rfl (Or.inl rfl) (de_lst (da_cons de_int da_nil)))
    (dss_cons (ds_for PassesOwn.never rfl (di_range2 (by rfl) T.z_range (da_cons de_int (da_cons (de_op dop_shl de_int (de_callB dc_len (by rfl) T.z_len bb_len (da_cons (de_var 1) da_nil))) da_nil))) (dg_name sc__law_least.nd rfl (Or.inl rfl)) (dss_cons (ds_expr (de_append (pv 2) (da_cons de_non da_nil)))
    (dss_cons (ds_asgD (de_look (de_fn (fn__law_most T) hgu (hr.mono (by decide)) (by rfl) (da_cons (de_var 0) (da_cons (de_var 1) (da_cons (de_var 2) (da_cons (de_var 3) da_nil)))))) (dg_ix (pv 2) (de_var 3)))
    dss_nil)))
    (dss_cons (ds_ret (de_move 2))
    dss_nil)))
abbrev N__law_is_table : List Str := ["prices", "passages", "value", "one", "number", "most"]
theorem sc__law_is_table : FnScope N__law_is_table ["prices", "passages", "value"] (defScope s__law_is_table) := ⟨rfl, rfl, rfl, by decide +kernel, rfl, by decide +kernel, by decide +kernel⟩
noncomputable def q__law_is_table_1 : SM := (sIf (tAnd2 (tVal (eBin (gIsB true) (eVar 3) (eK .none))) (tOr2 (tVal (eIsi "bool" (eVar 3))) (tOr2 (tNot2 (tVal (eIsi "int" (eVar 3)))) (tNot2 (tVal (eChain gLe gLe (eK (.int 0)) (eVar 3) (eK (.int 99999)))))))) (sSeq (sRet (eK (.bool false)))
    sNil) sNil)
noncomputable def l__law_is_table_2 : SM := (sSeq q__law_is_table_1
    sNil)
noncomputable def q__law_is_table_3 : SM := (sIf (tAnd2 (tVal (eBin (gIsB true) (eVar 5) (eK .none))) (tOr2 (tVal (eBin (gIsB false) (eBin gIx (eVar 2) (eVar 4)) (eK .none))) (tVal (eBin gGt (eBin gIx (eVar 2) (eVar 4)) (eVar 5))))) (sSeq (sRet (eK (.bool false)))
    sNil) sNil)
noncomputable def l__law_is_table_4 : SM := (sSeq (sSet 5 (eCall 4 m__law_most (aCons (eVar 0) (aCons (eVar 1) (aCons (eVar 2) (aCons (eVar 4) aNil))))))
    (sSeq q__law_is_table_3
    sNil))
noncomputable def q__law_is_table_5 : SM := (sIf (tOr2 (tVal (eBin (gIsB false) (eBin gIx (eVar 2) (eK (.int 0))) (eK .none))) (tVal (eBin gNe (eBin gIx (eVar 2) (eK (.int 0))) (eK (.int 0))))) (sSeq (sRet (eK (.bool false)))
    sNil) sNil)
noncomputable def q__law_is_table_6 : SM := (sIf (tOr2 (tNot2 (tVal (eIsi2 "list" "tuple" (eVar 2)))) (tVal (eBin gNe (eApp gLen (aCons (eVar 2) aNil)) (eBin gShl (eK (.int 1)) (eApp gLen (aCons (eVar 1) aNil)))))) (sSeq (sRet (eK (.bool false)))
    sNil) sNil)
noncomputable def b__law_is_table : SM := (sSeq q__law_is_table_6
    (sSeq (sFor (iSeq (eVar 2)) (gdName 3) l__law_is_table_2)
    (sSeq q__law_is_table_5
    (sSeq (sFor (iApp range2D (aCons (eK (.int 1)) (aCons (eApp gLen (aCons (eVar 2) aNil)) aNil))) (gdName 4) l__law_is_table_4)
    (sSeq (sRet (eK (.bool true)))
    sNil)))))
noncomputable def m__law_is_table : GM := ofBody 3 3 b__law_is_table
theorem fn__law_is_table (T : Top K mg) : Callee P w K mg base 3 "_law_is_table" s__law_is_table ["prices", "passages", "value"] 3 m__law_is_table :=
  callee T.d__law_is_table sc__law_is_table rfl fun f cdv A outer s H E hgu hr hu =>
    (dss_cons (ds_if (PW.pt (dw_or (dt_not (dt_val (de_isi2 "list" "tuple" (de_var 2) (by rfl) T.z_isinstance bb_isinstance (by rfl) T.z_list bb_list (by rfl) T.z_tuple bb_tuple))) (dw_or1 (dt_cmp (dop_ne (lu64 hu)) (de_callB dc_len (by rfl) T.z_len bb_len (da_cons (de_var 2) da_nil)) (de_op dop_shl de_int (de_callB dc_len (by rfl) T.z_len bb_len (da_cons (de_var 1) da_nil))) (by first | exact nobehind _ (by decide) (by decide) | rfl | with_unfolding_all rfl))))) (dss_cons (ds_ret de_bl)
    dss_nil) dss_nil)
    (dss_cons (ds_for PassesOwn.never rfl (di_seq (de_var 2)) (dg_name sc__law_is_table.nd rfl (Or.inl rfl)) (dss_cons (ds_if (PW.pt (dw_and (dt_cmp dop_isnotB (de_var 3) de_non (by first | exact nobehind _ (by decide) (by decide) | rfl | with_unfolding_all rfl)) (dw_and1 (PW.pt (dw_or (dt_val (de_isi "bool" (de_var 3) (by rfl) T.z_isinstance bb_isinstance (by rfl) T.z_bool bb_bool)) (dw_or (dt_not (dt_val (de_isi "int" (de_var 3) (by rfl) T.z_isinstance bb_isinstance (by rfl) T.z_int bb_int))) (dw_or1 (dt_not (dt_chain dop_le dop_le de_int (de_var 3) de_int))))))))) (dss_cons (ds_ret de_bl)
    dss_nil) dss_nil)
    dss_nil))
    (dss_cons (ds_if (PW.pt (dw_or (dt_cmp dop_isB (de_ix (de_var 2) de_int) de_non (by first | exact nobehind _ (by decide) (by decide) | rfl | with_unfolding_all rfl)) (dw_or1 (dt_cmp (dop_ne (lu64 hu)) (de_ix (de_var 2) de_int) de_int (by first | exact nobehind _ (by decide) (by decide) | rfl | with_unfolding_all rfl))))) (dss_cons (ds_ret de_bl)
    dss_nil) dss_nil)
    (dss_cons (ds_for PassesOwn.never rfl (di_range2 (by rfl) T.z_range (da_cons de_int (da_cons (de_callB dc_len (by rfl) T.z_len bb_len (da_cons (de_var 2) da_nil)) da_nil))) (dg_name sc__law_is_table.nd rfl (Or.inl rfl)) (dss_cons (ds_set sc__law_is_table.nd rfl (Or.inl rfl) (de_fn (fn__law_most T) hgu (hr.mono (by decide)) (by rfl) (da_cons (de_var 0) (da_cons (de_var 1) (da_cons (de_var 2) (da_cons (de_var 4) da_nil))))))
    (dss_cons (ds_if (PW.pt (dw_and (dt_cmp dop_isnotB (de_var 5) de_non (by first | exact nobehind _ (by decide) (by decide) | rfl | with_unfolding_all rfl)) (dw_and1 (PW.pt (dw_or (dt_cmp dop_isB (de_ix (de_var 2) (de_var 4)) de_non (by first | exact nobehind _ (by decide) (by decide) | rfl | with_unfolding_all rfl)) (dw_or1 (dt_cmp dop_gt (de_ix (de_var 2) (de_var 4)) (de_var 5) (by first | exact nobehind _ (by decide) (by decide) | rfl | with_unfolding_all rfl)))))))) (dss_cons (ds_ret de_bl)
    dss_nil) dss_nil)
    dss_nil)))
    (dss_cons (ds_ret de_bl)
    dss_nil)))))
abbrev N__law_bent : List Str := ["pot", "table", "prices", "passages", "found", "many", "at", "way", "most"]
theorem sc__law_bent : FnScope N__law_bent ["pot", "table", "prices", "passages"] (defScope s__law_bent) := ⟨rfl, rfl, rfl, by decide +kernel, rfl, by decide +kernel, by decide +kernel⟩
noncomputable def q__law_bent_1 : SM := (sAsgD (gdIx 4 (eVar 6)) (eIf (tVal (eBin (gIsB false) (eVar 8) (eK .none))) (eK (.int 99999)) (eBin gSub (eBin gAdd (eVar 8) (eVar 7)) (eK (.int 1)))))
noncomputable def q__law_bent_2 : SM := (sAsgD (gdIx 4 (eVar 6)) (eCallP 2 m__law_pick 0 (aCons (eApp gLst (aCons (eK (.bool true)) (aCons (eK (.bool false)) (aCons (eK (.str "0")) (aCons (eApp gTup (aCons (eK (.int 0)) aNil)) (aCons (eApp gLst (aCons (eK (.int 0)) aNil)) (aCons (eNeg (eK (.int 1))) (aCons (eK (.int 100000)) (aCons (eK (.int 99999)) aNil))))))))) aNil)))
noncomputable def q__law_bent_3 : SM := (sRet (eCallP 2 m__law_pick 0 (aCons (eApp gLst (aCons (eApp gTuple (aCons (eVar 4) aNil)) (aCons (eK .none) (aCons eNod (aCons (eK (.str "")) (aCons (eK (.int 0)) (aCons (eApp gLst aNil) (aCons (eApp gTup aNil) (aCons (eApp gLst (aCons (eVar 4) aNil)) aNil))))))))) aNil)))
noncomputable def q__law_bent_4 : SM := (sIf (tVal (eBin gEq (eVar 7) (eK (.int 6)))) (sSeq (sExpr (eMeth opInsert 4 (aCons (eVar 6) (aCons (eIxN 4 (eVar 6)) aNil))))
    sNil) (sSeq (sIf (tVal (eBin gEq (eVar 7) (eK (.int 7)))) (sSeq (sAsgD (gdIx 4 (eVar 6)) (eK (.int 0)))
    sNil) (sSeq q__law_bent_3
    sNil))
    sNil))
noncomputable def q__law_bent_5 : SM := (sIf (tVal (eBin gEq (eVar 7) (eK (.int 4)))) (sSeq (sAsgD (gdIx 4 (eVar 6)) (eK .none))
    sNil) (sSeq (sIf (tVal (eBin gEq (eVar 7) (eK (.int 5)))) (sSeq (sExpr (eMeth opPopAt 4 (aCons (eVar 6) aNil)))
    sNil) (sSeq q__law_bent_4
    sNil))
    sNil))
noncomputable def q__law_bent_6 : SM := (sIf (tVal (eBin gLt (eVar 7) (eK (.int 3)))) (sSeq q__law_bent_1
    sNil) (sSeq (sIf (tVal (eBin gEq (eVar 7) (eK (.int 3)))) (sSeq q__law_bent_2
    sNil) (sSeq q__law_bent_5
    sNil))
    sNil))
noncomputable def q__law_bent_7 : SM := (sSet 8 (eIf (tVal (eBin gGt (eVar 6) (eK (.int 0)))) (look (eCall 4 m__law_most (aCons (eVar 2) (aCons (eVar 3) (aCons (eVar 4) (aCons (eVar 6) aNil)))))) (eK (.int 0))))
noncomputable def q__law_bent_8 : SM := (sSet 6 (eCallP 2 m__law_pick 0 (aCons (eApp gLst (aCons (eCallP 2 m__law_draw 0 (aCons (eVar 5) aNil)) (aCons (eBin gSub (eVar 5) (eK (.int 1))) (aCons (eBin gSub (eBin gSub (eVar 5) (eK (.int 1))) (eCallP 2 m__law_draw 0 (aCons (eApp gMin (aCons (eK (.int 3)) (aCons (eVar 5) aNil))) aNil))) (aCons (eK (.int 0)) aNil))))) aNil)))
noncomputable def b__law_bent : SM := (sSeq (sPar 4 5 (eApp gList (aCons (eVar 1) aNil)) (eApp gLen (aCons (eVar 1) aNil)))
    (sSeq q__law_bent_8
    (sSeq (sSet 7 (eCallP 2 m__law_draw 0 (aCons (eK (.int 9)) aNil)))
    (sSeq q__law_bent_7
    (sSeq q__law_bent_6
    (sSeq (sRet (eMove 4))
    sNil))))))
noncomputable def m__law_bent : GM := ofBody 4 5 b__law_bent
theorem fn__law_bent (T : Top K mg) : Callee P w K mg base 3 "_law_bent" s__law_bent ["pot", "table", "prices", "passages"] 4 m__law_bent :=
  callee T.d__law_bent sc__law_bent rfl fun f cdv A outer s H E hgu hr hu =>
    (dss_cons (ds_par rfl sc__law_bent.nd rfl rfl (by decide) rfl rfl (de_callTy dc_list (by rfl) T.z_list bb_list (da_cons (de_var 1) da_nil)) (de_callB dc_len (by rfl) T.z_len bb_len (da_cons (de_var 1) da_nil)))
    (dss_cons (ds_set sc__law_bent.nd rfl (Or.inl rfl) (de_fnP (fn__law_pick T) hgu (hr.mono (by decide)) (by rfl) (pv 0) (da_cons (de_lst (da_cons (de_fnP (fn__law_draw T) hgu (hr.mono (by decide)) (by rfl) (pv 0) (da_cons (de_var 5) da_nil)) (da_cons (de_op dop_sub (de_var 5) de_int) (da_cons (de_op dop_sub (de_op dop_sub (de_var 5) de_int) (de_fnP (fn__law_draw T) hgu (hr.mono (by decide)) (by rfl) (pv 0) (da_cons (de_callB (dc_min rfl (lu64 hu)) (by rfl) T.z_min bb_min (da_cons de_int (da_cons (de_var 5) da_nil))) da_nil))) (da_cons de_int da_nil))))) da_nil)))
    (dss_cons (ds_set sc__law_bent.nd rfl (Or.inl rfl) (de_fnP (fn__law_draw T) hgu (hr.mono (by decide)) (by rfl) (pv 0) (da_cons de_int da_nil)))
    (dss_cons (ds_set sc__law_bent.nd rfl (Or.inl rfl) (de_if (dt_cmp dop_gt (de_var 6) de_int (by first | exact nobehind _ (by decide) (by decide) | rfl | with_unfolding_all rfl)) (de_look (de_fn (fn__law_most T) hgu (hr.mono (by decide)) (by rfl) (da_cons (de_var 2) (da_cons (de_var 3) (da_cons (de_var 4) (da_cons (de_var 6) da_nil)))))) de_int))
    (dss_cons (ds_if (dt_cmp (dop_lt (lu0 hu)) (de_var 7) de_int (by first | exact nobehind _ (by decide) (by decide) | rfl | with_unfolding_all rfl)) (dss_cons (ds_asgD (de_if (dt_cmp dop_isB (de_var 8) de_non (by first | exact nobehind _ (by decide) (by decide) | rfl | with_unfolding_all rfl)) de_int (de_op dop_sub (de_op dop_add (de_var 8) (de_var 7)) de_int)) (dg_ix (pv 4) (de_var 6)))
    dss_nil) (dss_cons (ds_if (dt_cmp (dop_eq (lu64 hu)) (de_var 7) de_int (by first | exact nobehind _ (by decide) (by decide) | rfl | with_unfolding_all rfl)) (dss_cons (ds_asgD (de_fnP (fn__law_pick T) hgu (hr.mono (by decide)) (by rfl) (pv 0) (da_cons (de_lst (da_cons de_bl (da_cons de_bl (da_cons de_str (da_cons (de_tup (da_cons de_int da_nil)) (da_cons (de_lst (da_cons de_int da_nil)) (da_cons (de_neg de_int) (da_cons de_int (da_cons de_int da_nil))))))))) da_nil)) (dg_ix (pv 4) (de_var 6)))
    dss_nil) (dss_cons (ds_if (dt_cmp (dop_eq (lu64 hu)) (de_var 7) de_int (by first | exact nobehind _ (by decide) (by decide) | rfl | with_unfolding_all rfl)) (dss_cons (ds_asgD de_non (dg_ix (pv 4) (de_var 6)))
    dss_nil) (dss_cons (ds_if (dt_cmp (dop_eq (lu64 hu)) (de_var 7) de_int (by first | exact nobehind _ (by decide) (by decide) | rfl | with_unfolding_all rfl)) (dss_cons (ds_expr (de_popA (pv 4) (da_cons (de_var 6) da_nil)))
    dss_nil) (dss_cons (ds_if (dt_cmp (dop_eq (lu64 hu)) (de_var 7) de_int (by first | exact nobehind _ (by decide) (by decide) | rfl | with_unfolding_all rfl)) (dss_cons (ds_expr (de_insert (pv 4) (da_cons (de_var 6) (da_cons (de_ixN (pv 4) (de_var 6)) da_nil))))
    dss_nil) (dss_cons (ds_if (dt_cmp (dop_eq (lu64 hu)) (de_var 7) de_int (by first | exact nobehind _ (by decide) (by decide) | rfl | with_unfolding_all rfl)) (dss_cons (ds_asgD de_int (dg_ix (pv 4) (de_var 6)))
    dss_nil) (dss_cons (ds_ret (de_fnP (fn__law_pick T) hgu (hr.mono (by decide)) (by rfl) (pv 0) (da_cons (de_lst (da_cons (de_callTy dc_tuple (by rfl) T.z_tuple bb_tuple (da_cons (de_var 4) da_nil)) (da_cons de_non (da_cons de_nod (da_cons de_str (da_cons de_int (da_cons (de_lst da_nil) (da_cons (de_tup da_nil) (da_cons (de_lst (da_cons (de_var 4) da_nil)) da_nil))))))))) da_nil)))
    dss_nil))
    dss_nil))
    dss_nil))
    dss_nil))
    dss_nil))
    dss_nil))
    (dss_cons (ds_ret (de_move 4))
    dss_nil))))))
abbrev N__law_is_in : List Str := ["value", "least", "most"]
theorem sc__law_is_in : FnScope N__law_is_in ["value", "least", "most"] (defScope s__law_is_in) := ⟨rfl, rfl, rfl, by decide +kernel, rfl, by decide +kernel, by decide +kernel⟩
noncomputable def b__law_is_in : SM := (sSeq (sRet (eAnd (eIsi "int" (eVar 0)) (eAnd (eNot (eIsi "bool" (eVar 0))) (eChain gLe gLe (eVar 1) (eVar 0) (eVar 2)))))
    sNil)
noncomputable def m__law_is_in : GM := ofBody 3 0 b__law_is_in
theorem fn__law_is_in (T : Top K mg) : Callee P w K mg base 1 "_law_is_in" s__law_is_in ["value", "least", "most"] 3 m__law_is_in :=
  callee T.d__law_is_in sc__law_is_in rfl fun f cdv A outer s H E hgu hr hu =>
    (dss_cons (ds_ret (de_and (de_isi "int" (de_var 0) (by rfl) T.z_isinstance bb_isinstance (by rfl) T.z_int bb_int) (de_and (de_not (de_isi "bool" (de_var 0) (by rfl) T.z_isinstance bb_isinstance (by rfl) T.z_bool bb_bool)) (de_one (de_chain dop_le dop_le (de_var 1) (de_var 0) (de_var 2))))))
    dss_nil)
abbrev N__law_are_zones : List Str := ["value", "zone"]
theorem sc__law_are_zones : FnScope N__law_are_zones ["value"] (defScope s__law_are_zones) := ⟨rfl, rfl, rfl, by decide +kernel, rfl, by decide +kernel, by decide +kernel⟩
noncomputable def q__law_are_zones_1 : SM := (sIf (tOr2 (tNot2 (tVal (eIsi "tuple" (eVar 0)))) (tOr2 (tVal (eBin gEq (eApp gLen (aCons (eVar 0) aNil)) (eK (.int 0)))) (tNot2 (tVal (eApp gAll (aCons (eComp [1] (iSeq (eVar 0)) (gdName 1) tAll (eCall 3 m__law_is_in (aCons (eVar 1) (aCons (eK (.int 1)) (aCons (eK (.int 4)) aNil))))) aNil)))))) (sSeq (sRet (eK (.bool false)))
    sNil) sNil)
noncomputable def b__law_are_zones : SM := (sSeq q__law_are_zones_1
    (sSeq (sRet (eBin gEq (eApp gList (aCons (eVar 0) aNil)) (eSortSet (eVar 0))))
    sNil))
noncomputable def m__law_are_zones : GM := ofBody 1 1 b__law_are_zones
theorem fn__law_are_zones (T : Top K mg) : Callee P w K mg base 2 "_law_are_zones" s__law_are_zones ["value"] 1 m__law_are_zones :=
  callee T.d__law_are_zones sc__law_are_zones rfl fun f cdv A outer s H E hgu hr hu =>
    (dss_cons (ds_if (PW.pt (dw_or (dt_not (dt_val (de_isi "tuple" (de_var 0) (by rfl) T.z_isinstance bb_isinstance (by rfl) T.z_tuple bb_tuple))) (dw_or (dt_cmp (dop_eq (lu64 hu)) (de_callB dc_len (by rfl) T.z_len bb_len (da_cons (de_var 0) da_nil)) de_int (by first | exact nobehind _ (by decide) (by decide) | rfl | with_unfolding_all rfl)) (dw_or1 (dt_not (dt_val (de_callB (dc_all rfl) (by rfl) T.z_all bb_all (da_cons (de_comp rfl sc__law_are_zones.nd (di_seq (de_var 0)) (blkOk_by (N := N__law_are_zones) (sc := (defScope s__law_are_zones)) (own := [("zone", 1)]) (by decide +kernel)) rfl (fun _ _ _ _ _ => (dg_name sc__law_are_zones.nd rfl (Or.inl rfl))) (fun _ _ _ _ _ => dts_nil) (fun _ _ _ _ _ => (de_fn (fn__law_is_in T) hgu (hr.mono (by decide)) (by rfl) (da_cons (de_var 1) (da_cons de_int (da_cons de_int da_nil)))))) da_nil)))))))) (dss_cons (ds_ret de_bl)
    dss_nil) dss_nil)
    (dss_cons (ds_ret (de_cmp (dop_eq (lu64 hu)) (de_callTy dc_list (by rfl) T.z_list bb_list (da_cons (de_var 0) da_nil)) (de_sortSet rfl (de_var 0) (by rfl) T.z_sorted bb_sorted (by rfl) T.z_set bb_set) (by first | exact nobehind _ (by decide) (by decide) | rfl | with_unfolding_all rfl)))
    dss_nil))
abbrev N__law_is_ticket : List Str := ["value"]
theorem sc__law_is_ticket : FnScope N__law_is_ticket ["value"] (defScope s__law_is_ticket) := ⟨rfl, rfl, rfl, by decide +kernel, rfl, by decide +kernel, by decide +kernel⟩
noncomputable def q__law_is_ticket_1 : SM := (sRet (eAnd (eCall 3 m__law_is_in (aCons (eBin gIx (eVar 0) (eK (.int 1))) (aCons (eK (.int 1)) (aCons (eK (.int 9999)) aNil)))) (eAnd (eCall 3 m__law_is_in (aCons (eBin gIx (eVar 0) (eK (.int 2))) (aCons (eK (.int 1)) (aCons (eK (.int 11000)) aNil)))) (eCall 3 m__law_is_in (aCons (eBin gIx (eVar 0) (eK (.int 4))) (aCons (eK (.int 1)) (aCons (eK (.int 5)) aNil)))))))
noncomputable def q__law_is_ticket_2 : SM := (sIf (tOr2 (tNot2 (tVal (eIsi "tuple" (eVar 0)))) (tOr2 (tVal (eBin gNe (eApp gLen (aCons (eVar 0) aNil)) (eK (.int 5)))) (tOr2 (tVal (eBin gNe (eBin gIx (eVar 0) (eK (.int 0))) (eK (.str "ticket")))) (tNot2 (tVal (eCall 1 m__law_are_zones (aCons (eBin gIx (eVar 0) (eK (.int 3))) aNil))))))) (sSeq (sRet (eK (.bool false)))
    sNil) sNil)
noncomputable def b__law_is_ticket : SM := (sSeq q__law_is_ticket_2
    (sSeq q__law_is_ticket_1
    sNil))
noncomputable def m__law_is_ticket : GM := ofBody 1 0 b__law_is_ticket
theorem fn__law_is_ticket (T : Top K mg) : Callee P w K mg base 3 "_law_is_ticket" s__law_is_ticket ["value"] 1 m__law_is_ticket :=
  callee T.d__law_is_ticket sc__law_is_ticket rfl fun f cdv A outer s H E hgu hr hu =>
    (dss_cons (ds_if (PW.pt (dw_or (dt_not (dt_val (de_isi "tuple" (de_var 0) (by rfl) T.z_isinstance bb_isinstance (by rfl) T.z_tuple bb_tuple))) (dw_or (dt_cmp (dop_ne (lu64 hu)) (de_callB dc_len (by rfl) T.z_len bb_len (da_cons (de_var 0) da_nil)) de_int (by first | exact nobehind _ (by decide) (by decide) | rfl | with_unfolding_all rfl)) (dw_or (dt_cmp (dop_ne (lu64 hu)) (de_ix (de_var 0) de_int) de_str (by first | exact nobehind _ (by decide) (by decide) | rfl | with_unfolding_all rfl)) (dw_or1 (dt_not (dt_val (de_fn (fn__law_are_zones T) hgu (hr.mono (by decide)) (by rfl) (da_cons (de_ix (de_var 0) de_int) da_nil))))))))) (dss_cons (ds_ret de_bl)
    dss_nil) dss_nil)
    (dss_cons (ds_ret (de_and (de_fn (fn__law_is_in T) hgu (hr.mono (by decide)) (by rfl) (da_cons (de_ix (de_var 0) de_int) (da_cons de_int (da_cons de_int da_nil)))) (de_and (de_fn (fn__law_is_in T) hgu (hr.mono (by decide)) (by rfl) (da_cons (de_ix (de_var 0) de_int) (da_cons de_int (da_cons de_int da_nil)))) (de_one (de_fn (fn__law_is_in T) hgu (hr.mono (by decide)) (by rfl) (da_cons (de_ix (de_var 0) de_int) (da_cons de_int (da_cons de_int da_nil))))))))
    dss_nil))
abbrev N__law_is_passage : List Str := ["value"]
theorem sc__law_is_passage : FnScope N__law_is_passage ["value"] (defScope s__law_is_passage) := ⟨rfl, rfl, rfl, by decide +kernel, rfl, by decide +kernel, by decide +kernel⟩
noncomputable def q__law_is_passage_1 : SM := (sRet (eAnd (eCall 3 m__law_is_in (aCons (eBin gIx (eVar 0) (eK (.int 0))) (aCons (eK (.int 0)) (aCons (eK (.int 9999)) aNil)))) (eAnd (eCall 3 m__law_is_in (aCons (eBin gIx (eVar 0) (eK (.int 1))) (aCons (eK (.int 0)) (aCons (eK (.int 9999)) aNil)))) (eBin gLt (eBin gIx (eVar 0) (eK (.int 0))) (eBin gIx (eVar 0) (eK (.int 1)))))))
noncomputable def q__law_is_passage_2 : SM := (sIf (tOr2 (tNot2 (tVal (eIsi "tuple" (eVar 0)))) (tOr2 (tVal (eBin gNe (eApp gLen (aCons (eVar 0) aNil)) (eK (.int 3)))) (tNot2 (tVal (eCall 1 m__law_are_zones (aCons (eBin gIx (eVar 0) (eK (.int 2))) aNil)))))) (sSeq (sRet (eK (.bool false)))
    sNil) sNil)
noncomputable def b__law_is_passage : SM := (sSeq q__law_is_passage_2
    (sSeq q__law_is_passage_1
    sNil))
noncomputable def m__law_is_passage : GM := ofBody 1 0 b__law_is_passage
theorem fn__law_is_passage (T : Top K mg) : Callee P w K mg base 3 "_law_is_passage" s__law_is_passage ["value"] 1 m__law_is_passage :=
  callee T.d__law_is_passage sc__law_is_passage rfl fun f cdv A outer s H E hgu hr hu =>
    (dss_cons (ds_if (PW.pt (dw_or (dt_not (dt_val (de_isi "tuple" (de_var 0) (by rfl) T.z_isinstance bb_isinstance (by rfl) T.z_tuple bb_tuple))) (dw_or (dt_cmp (dop_ne (lu64 hu)) (de_callB dc_len (by rfl) T.z_len bb_len (da_cons (de_var 0) da_nil)) de_int (by first | exact nobehind _ (by decide) (by decide) | rfl | with_unfolding_all rfl)) (dw_or1 (dt_not (dt_val (de_fn (fn__law_are_zones T) hgu (hr.mono (by decide)) (by rfl) (da_cons (de_ix (de_var 0) de_int) da_nil)))))))) (dss_cons (ds_ret de_bl)
    dss_nil) dss_nil)
    (dss_cons (ds_ret (de_and (de_fn (fn__law_is_in T) hgu (hr.mono (by decide)) (by rfl) (da_cons (de_ix (de_var 0) de_int) (da_cons de_int (da_cons de_int da_nil)))) (de_and (de_fn (fn__law_is_in T) hgu (hr.mono (by decide)) (by rfl) (da_cons (de_ix (de_var 0) de_int) (da_cons de_int (da_cons de_int da_nil)))) (de_one (de_cmp (dop_lt (lu0 hu)) (de_ix (de_var 0) de_int) (de_ix (de_var 0) de_int) (by first | exact nobehind _ (by decide) (by decide) | rfl | with_unfolding_all rfl))))))
    dss_nil))
abbrev N__law_bent_parts : List Str := ["pot", "value", "at", "way", "odds"]
theorem sc__law_bent_parts : FnScope N__law_bent_parts ["pot", "value"] (defScope s__law_bent_parts) := ⟨rfl, rfl, rfl, by decide +kernel, rfl, by decide +kernel, by decide +kernel⟩
noncomputable def q__law_bent_parts_1 : SM := (sRet (eCallP 2 m__law_pick 0 (aCons (eApp gLst (aCons (eK .none) (aCons (eK (.int 0)) (aCons (eK (.str "")) (aCons (eApp gTup aNil) (aCons (eApp gLst aNil) (aCons (eCut (eVar 1) oNone (oSome (eNeg (eK (.int 1))))) (aCons (eBin gAdd (eVar 1) (eApp gTup (aCons (eK (.int 1)) aNil))) (aCons (eApp gList (aCons (eVar 1) aNil)) (aCons (eBin gAdd (eApp gTup (aCons (eK (.str "Ticket")) aNil)) (eCut (eVar 1) (oSome (eK (.int 1))) oNone)) aNil)))))))))) aNil)))
noncomputable def q__law_bent_parts_2 : SM := (sRet (eBin gAdd (eBin gAdd (eCut (eVar 1) oNone (oSome (eVar 2))) (eApp gTup (aCons (eCallP 2 m__law_pick 0 (aCons (eVar 4) aNil)) aNil))) (eCut (eVar 1) (oSome (eBin gAdd (eVar 2) (eK (.int 1)))) oNone)))
noncomputable def q__law_bent_parts_3 : SM := (sSet 4 (eApp gLst (aCons (eK (.int 0)) (aCons (eNeg (eK (.int 1))) (aCons (eK (.int 1)) (aCons (eK (.int 5)) (aCons (eK (.int 6)) (aCons (eK (.bool true)) (aCons (eK .none) (aCons (eK (.str "1")) (aCons (eK (.int 9999)) (aCons (eK (.int 10000)) (aCons (eK (.int 11000)) (aCons (eK (.int 11001)) (aCons (eApp gTup aNil) (aCons (eApp gTup (aCons (eK (.int 1)) aNil)) (aCons (eApp gTup (aCons (eK (.int 4)) aNil)) (aCons (eApp gTup (aCons (eK (.int 5)) aNil)) (aCons (eApp gTup (aCons (eK (.int 0)) aNil)) (aCons (eApp gTup (aCons (eK (.int 2)) (aCons (eK (.int 1)) aNil))) (aCons (eApp gTup (aCons (eK (.int 1)) (aCons (eK (.int 1)) aNil))) (aCons (eApp gLst (aCons (eK (.int 1)) aNil)) (aCons (eApp gTup (aCons (eK (.bool true)) aNil)) (aCons (eApp gTup (aCons (eK (.int 1)) (aCons (eK (.int 2)) (aCons (eK (.int 3)) (aCons (eK (.int 4)) aNil))))) aNil))))))))))))))))))))))))
noncomputable def b__law_bent_parts : SM := (sSeq (sPar 2 3 (eCallP 2 m__law_draw 0 (aCons (eApp gLen (aCons (eVar 1) aNil)) aNil)) (eCallP 2 m__law_draw 0 (aCons (eK (.int 7)) aNil)))
    (sSeq q__law_bent_parts_3
    (sSeq (sIf (tVal (eBin gEq (eVar 3) (eK (.int 0)))) (sSeq q__law_bent_parts_1
    sNil) sNil)
    (sSeq q__law_bent_parts_2
    sNil))))
noncomputable def m__law_bent_parts : GM := ofBody 2 3 b__law_bent_parts
theorem fn__law_bent_parts (T : Top K mg) : Callee P w K mg base 3 "_law_bent_parts" s__law_bent_parts ["pot", "value"] 2 m__law_bent_parts :=
  callee T.d__law_bent_parts sc__law_bent_parts rfl fun f cdv A outer s H E hgu hr hu =>
    (dss_cons (ds_par rfl sc__law_bent_parts.nd rfl rfl (by decide) rfl rfl (de_fnP (fn__law_draw T) hgu (hr.mono (by decide)) (by rfl) (pv 0) (da_cons (de_callB dc_len (by rfl) T.z_len bb_len (da_cons (de_var 1) da_nil)) da_nil)) (de_fnP (fn__law_draw T) hgu (hr.mono (by decide)) (by rfl) (pv 0) (da_cons de_int da_nil)))
    (dss_cons (ds_set sc__law_bent_parts.nd rfl (Or.inl rfl) (de_lst (da_cons de_int (da_cons (de_neg de_int) (da_cons de_int (da_cons de_int (da_cons de_int (da_cons de_bl (da_cons de_non (da_cons de_str (da_cons de_int (da_cons de_int (da_cons de_int (da_cons de_int (da_cons (de_tup da_nil) (da_cons (de_tup (da_cons de_int da_nil)) (da_cons (de_tup (da_cons de_int da_nil)) (da_cons (de_tup (da_cons de_int da_nil)) (da_cons (de_tup (da_cons de_int da_nil)) (da_cons (de_tup (da_cons de_int (da_cons de_int da_nil))) (da_cons (de_tup (da_cons de_int (da_cons de_int da_nil))) (da_cons (de_lst (da_cons de_int da_nil)) (da_cons (de_tup (da_cons de_bl da_nil)) (da_cons (de_tup (da_cons de_int (da_cons de_int (da_cons de_int (da_cons de_int da_nil))))) da_nil))))))))))))))))))))))))
    (dss_cons (ds_if (dt_cmp (dop_eq (lu64 hu)) (de_var 3) de_int (by first | exact nobehind _ (by decide) (by decide) | rfl | with_unfolding_all rfl)) (dss_cons (ds_ret (de_fnP (fn__law_pick T) hgu (hr.mono (by decide)) (by rfl) (pv 0) (da_cons (de_lst (da_cons de_non (da_cons de_int (da_cons de_str (da_cons (de_tup da_nil) (da_cons (de_lst da_nil) (da_cons (de_cut (de_var 1) do_none (do_some (de_neg de_int))) (da_cons (de_op dop_add (de_var 1) (de_tup (da_cons de_int da_nil))) (da_cons (de_callTy dc_list (by rfl) T.z_list bb_list (da_cons (de_var 1) da_nil)) (da_cons (de_op dop_add (de_tup (da_cons de_str da_nil)) (de_cut (de_var 1) (do_some de_int) do_none)) da_nil)))))))))) da_nil)))
    dss_nil) dss_nil)
    (dss_cons (ds_ret (de_op dop_add (de_op dop_add (de_cut (de_var 1) do_none (do_some (de_var 2))) (de_tup (da_cons (de_fnP (fn__law_pick T) hgu (hr.mono (by decide)) (by rfl) (pv 0) (da_cons (de_var 4) da_nil)) da_nil))) (de_cut (de_var 1) (do_some (de_op dop_add (de_var 2) de_int)) do_none)))
    dss_nil))))
abbrev N__law_heard : List Str := ["call", "found", "e"]
theorem sc__law_heard : FnScope N__law_heard ["call"] (defScope s__law_heard) := ⟨rfl, rfl, rfl, by decide +kernel, rfl, by decide +kernel, by decide +kernel⟩
theorem gives_heard {X : Cx} (T : Top X.K X.mg) (U : TopU X.prog X.w X.K X.mg X.base CE C1 C2 ca Pa) (hgu : X.A.guards = some []) (gA : Addr) (cdv : Value) : GivesG X N__law_heard "_law_heard" (defScope s__law_heard) gA cdv (defBody s__law_heard) "call" (X.env.qual ++ "<lambda>") (TTh X.K C1 C2 "tickets" "passages") := fun f cc s H Q tl hun act hc h =>
  ⟨_, heard_body (CE := "CityError") (x1 := "InvalidTickets") (x2 := "InvalidPassages") (Z := (cxOf C8.CX0 X.prog X.w X.K X.mg X.base N__law_heard "_law_heard" (defScope s__law_heard) gA cdv X.A X.stack s H C8.E0).nox) rfl rfl rfl sc__law_heard.nd rfl rfl rfl ⟨rfl, by decide, .inl U.x1.m⟩ ⟨rfl, by decide, .inl U.x2.m⟩ hgu (lu64 hun) U.x1.f U.x2.f U.x1.i U.x2.i U.x1.v U.x2.v U.e11 U.e21 U.e22 U.i1 U.i2 U.ce rfl rfl T.z_repr rfl T.z_isinstance (by decide) (by decide) (by decide) (by decide) (by decide) rfl rfl rfl rfl rfl rfl act, rfl, rfl, hc, h⟩
abbrev N__law_all_heard : List Str := ["tickets", "passages", "found"]
theorem sc__law_all_heard : FnScope N__law_all_heard ["tickets", "passages"] (defScope s__law_all_heard) := ⟨rfl, rfl, rfl, by decide +kernel, rfl, by decide +kernel, by decide +kernel⟩
noncomputable def q__law_all_heard_1 : SM := (sRet (eBin gAdd (eVar 2) (eApp gLst (aCons (eHeard "InvalidTickets" "tickets" "InvalidPassages" "passages" (xCall 3 x_is_price_table (aCons (eVar 0) (aCons (eVar 1) (aCons (eK .none) aNil))))) aNil))))
noncomputable def q__law_all_heard_2 : SM := (sExpr (eMeth opAppend 2 (aCons (eHeard "InvalidTickets" "tickets" "InvalidPassages" "passages" (xCall 2 x_price_table (aCons (eVar 0) (aCons (eVar 1) aNil)))) aNil)))
noncomputable def q__law_all_heard_3 : SM := (sExpr (eMeth opAppend 2 (aCons (eHeard "InvalidTickets" "tickets" "InvalidPassages" "passages" (xCall 3 x_is_cover (aCons (eVar 0) (aCons (eVar 1) (aCons (eK .none) aNil))))) aNil)))
noncomputable def q__law_all_heard_4 : SM := (sExpr (eMeth opAppend 2 (aCons (eHeard "InvalidTickets" "tickets" "InvalidPassages" "passages" (xCallK 2 [1, 0] x_charges (aCons (eVar 1) (aCons (eVar 0) aNil)))) aNil)))
noncomputable def q__law_all_heard_5 : SM := (sExpr (eMeth opAppend 2 (aCons (eHeard "InvalidTickets" "tickets" "InvalidPassages" "passages" (xCall 2 x_cheapest_cover (aCons (eVar 0) (aCons (eVar 1) aNil)))) aNil)))
noncomputable def q__law_all_heard_6 : SM := (sSet 2 (eApp gLst (aCons (eHeard "InvalidTickets" "tickets" "InvalidPassages" "passages" (xCall 2 x_cheapest (aCons (eVar 0) (aCons (eVar 1) aNil)))) aNil)))
noncomputable def b__law_all_heard : SM := (sSeq q__law_all_heard_6
    (sSeq q__law_all_heard_5
    (sSeq q__law_all_heard_4
    (sSeq q__law_all_heard_3
    (sSeq q__law_all_heard_2
    (sSeq q__law_all_heard_1
    sNil))))))
noncomputable def m__law_all_heard : GM := ofBody 2 1 b__law_all_heard
theorem fn__law_all_heard (T : Top K mg) (U : TopU P w K mg base CE C1 C2 ca Pa) : Callee P w K mg base 11 "_law_all_heard" s__law_all_heard ["tickets", "passages"] 2 m__law_all_heard :=
  calleeT U.d sc__law_all_heard rfl fun f A outer s H E hgu hr hu =>
    (dss_cons (ds_set sc__law_all_heard.nd rfl (Or.inl rfl) (de_lst (da_cons (de_heard (k := 8) hgu (hr.mono (by decide)) (by rfl) T.d__law_heard sc__law_heard (gives_heard T U hgu) U.tb rfl U.tl U.x1.m U.x2.m (fun A outer s H E f cc hgu hr tk => (xe_call (fx_cheapest T U) tk hgu (hr.mono (by decide)) (by rfl) (da_cons (de_var 0) (da_cons (de_var 1) da_nil)))) (LamX.lamS_by (by show LamX.lamSB (defScope s__law_all_heard) _ = true; decide +kernel)) rfl (fun _ _ _ _ _ => rfl) rfl (.inl rfl)) da_nil)))
    (dss_cons (ds_expr (de_append (pv 2) (da_cons (de_heard (k := 7) hgu (hr.mono (by decide)) (by rfl) T.d__law_heard sc__law_heard (gives_heard T U hgu) U.tb rfl U.tl U.x1.m U.x2.m (fun A outer s H E f cc hgu hr tk => (xe_call (fx_cheapest_cover T U) tk hgu (hr.mono (by decide)) (by rfl) (da_cons (de_var 0) (da_cons (de_var 1) da_nil)))) (LamX.lamS_by (by show LamX.lamSB (defScope s__law_all_heard) _ = true; decide +kernel)) rfl (fun _ _ _ _ _ => rfl) rfl (.inl rfl)) da_nil)))
    (dss_cons (ds_expr (de_append (pv 2) (da_cons (de_heard (k := 7) hgu (hr.mono (by decide)) (by rfl) T.d__law_heard sc__law_heard (gives_heard T U hgu) U.tb rfl U.tl U.x1.m U.x2.m (fun A outer s H E f cc hgu hr tk => (xe_callK (ks := ["passages", "tickets"]) (ix := [1, 0]) (fx_charges T U) tk hgu (hr.mono (by decide)) (by rfl) (fun _ _ _ _ _ _ ws hl => match ws, hl with | [_, _], _ => rfl) rfl (dk_cons (de_var 1) (dk_cons (de_var 0) dk_nil)))) (LamX.lamS_by (by show LamX.lamSB (defScope s__law_all_heard) _ = true; decide +kernel)) rfl (fun _ _ _ _ _ => rfl) rfl (.inl rfl)) da_nil)))
    (dss_cons (ds_expr (de_append (pv 2) (da_cons (de_heard (k := 7) hgu (hr.mono (by decide)) (by rfl) T.d__law_heard sc__law_heard (gives_heard T U hgu) U.tb rfl U.tl U.x1.m U.x2.m (fun A outer s H E f cc hgu hr tk => (xe_call (fx_is_cover T U) tk hgu (hr.mono (by decide)) (by rfl) (da_cons (de_var 0) (da_cons (de_var 1) (da_cons de_non da_nil))))) (LamX.lamS_by (by show LamX.lamSB (defScope s__law_all_heard) _ = true; decide +kernel)) rfl (fun _ _ _ _ _ => rfl) rfl (.inl rfl)) da_nil)))
    (dss_cons (ds_expr (de_append (pv 2) (da_cons (de_heard (k := 7) hgu (hr.mono (by decide)) (by rfl) T.d__law_heard sc__law_heard (gives_heard T U hgu) U.tb rfl U.tl U.x1.m U.x2.m (fun A outer s H E f cc hgu hr tk => (xe_call (fx_price_table T U) tk hgu (hr.mono (by decide)) (by rfl) (da_cons (de_var 0) (da_cons (de_var 1) da_nil)))) (LamX.lamS_by (by show LamX.lamSB (defScope s__law_all_heard) _ = true; decide +kernel)) rfl (fun _ _ _ _ _ => rfl) rfl (.inl rfl)) da_nil)))
    (dss_cons (ds_ret (de_op dop_add (de_var 2) (de_lst (da_cons (de_heard (k := 7) hgu (hr.mono (by decide)) (by rfl) T.d__law_heard sc__law_heard (gives_heard T U hgu) U.tb rfl U.tl U.x1.m U.x2.m (fun A outer s H E f cc hgu hr tk => (xe_call (fx_is_price_table T U) tk hgu (hr.mono (by decide)) (by rfl) (da_cons (de_var 0) (da_cons (de_var 1) (da_cons de_non da_nil))))) (LamX.lamS_by (by show LamX.lamSB (defScope s__law_all_heard) _ = true; decide +kernel)) rfl (fun _ _ _ _ _ => rfl) rfl (.inl rfl)) da_nil))))
    dss_nil))))))
abbrev N__law_refused_right : List Str := ["pot", "ticket", "passage", "turn", "near", "far", "some", "others", "due", "odd"]
theorem sc__law_refused_right : FnScope N__law_refused_right ["pot"] (defScope s__law_refused_right) := ⟨rfl, rfl, rfl, by decide +kernel, rfl, by decide +kernel, by decide +kernel⟩
noncomputable def q__law_refused_right_1 : SM := (sIf (tAnd2 (tVal (eBin (gIsB true) (eVar 8) (eK .none))) (tVal (eBin gNe (eCall 2 m__law_all_heard (aCons (eVar 6) (aCons (eVar 7) aNil))) (eBin gMul (eApp gLst (aCons (eVar 8) aNil)) (eK (.int 6)))))) (sSeq (sRet (eK (.bool false)))
    sNil) sNil)
noncomputable def q__law_refused_right_2 : SM := (sIf (tAnd2 (tVal (eBin (gIsB false) (eVar 8) (eK .none))) (tNot2 (tVal (eCall 1 m__law_is_passage (aCons (eVar 5) aNil))))) (sSeq (sSet 8 (eApp gTup (aCons (eK (.str "passages")) (aCons (eApp gRepr (aCons (eVar 7) aNil)) (aCons (eK (.bool true)) aNil)))))
    sNil) sNil)
noncomputable def q__law_refused_right_3 : SM := (sSet 8 (eIf (tNot2 (tVal (eCall 1 m__law_is_ticket (aCons (eVar 4) aNil)))) (eApp gTup (aCons (eK (.str "tickets")) (aCons (eApp gRepr (aCons (eVar 6) aNil)) (aCons (eK (.bool true)) aNil)))) (eK .none)))
noncomputable def q__law_refused_right_4 : SM := (sIf (tVal (eBin gNe (eApp gRepr (aCons (eApp gLst (aCons (eCall 1 m_is_passage (aCons (eVar 5) aNil)) (aCons (eCallK 1 [0] m_is_passage (aCons (eVar 5) aNil)) aNil))) aNil)) (eApp gRepr (aCons (eBin gMul (eApp gLst (aCons (eCall 1 m__law_is_passage (aCons (eVar 5) aNil)) aNil)) (eK (.int 2))) aNil)))) (sSeq (sRet (eK (.bool false)))
    sNil) sNil)
noncomputable def q__law_refused_right_5 : SM := (sIf (tVal (eBin gNe (eApp gRepr (aCons (eApp gLst (aCons (eCall 1 m_is_ticket (aCons (eVar 4) aNil)) (aCons (eCallK 1 [0] m_is_ticket (aCons (eVar 4) aNil)) aNil))) aNil)) (eApp gRepr (aCons (eBin gMul (eApp gLst (aCons (eCall 1 m__law_is_ticket (aCons (eVar 4) aNil)) aNil)) (eK (.int 2))) aNil)))) (sSeq (sRet (eK (.bool false)))
    sNil) sNil)
noncomputable def l__law_refused_right_6 : SM := (sSeq (sPar 4 5 (eCallP 2 m__law_bent_parts 0 (aCons (eVar 1) aNil)) (eCallP 2 m__law_bent_parts 0 (aCons (eVar 2) aNil)))
    (sSeq q__law_refused_right_5
    (sSeq q__law_refused_right_4
    (sSeq (sPar 6 7 (eApp gLst (aCons (eVar 1) (aCons (eVar 4) aNil))) (eApp gLst (aCons (eVar 2) (aCons (eVar 5) (aCons (eVar 2) aNil)))))
    (sSeq q__law_refused_right_3
    (sSeq q__law_refused_right_2
    (sSeq q__law_refused_right_1
    sNil)))))))
noncomputable def q__law_refused_right_7 : SM := (sIf (tVal (eBin gNe (eCall 2 m__law_all_heard (aCons (eVar 9) (aCons (eK .none) aNil))) (eBin gMul (eApp gLst (aCons (eApp gTup (aCons (eK (.str "tickets")) (aCons (eApp gRepr (aCons (eVar 9) aNil)) (aCons (eK (.bool true)) aNil)))) aNil)) (eK (.int 6))))) (sSeq (sRet (eK (.bool false)))
    sNil) sNil)
noncomputable def l__law_refused_right_8 : SM := (sSeq q__law_refused_right_7
    sNil)
noncomputable def q__law_refused_right_9 : SM := (sIf (tVal (eBin gNe (eCall 2 m__law_all_heard (aCons (eBin gMul (eApp gLst (aCons (eVar 1) aNil)) (eK (.int 8))) (aCons (eVar 9) aNil))) (eBin gMul (eApp gLst (aCons (eApp gTup (aCons (eK (.str "passages")) (aCons (eApp gRepr (aCons (eVar 9) aNil)) (aCons (eK (.bool true)) aNil)))) aNil)) (eK (.int 6))))) (sSeq (sRet (eK (.bool false)))
    sNil) sNil)
noncomputable def l__law_refused_right_10 : SM := (sSeq q__law_refused_right_9
    sNil)
noncomputable def q__law_refused_right_11 : SM := (sFor (iSeq (eApp gLst (aCons (eK .none) (aCons (eBin gMul (eApp gLst (aCons (eVar 2) aNil)) (eK (.int 11))) (aCons eNod (aCons (eVar 2) (aCons (eK (.int 0)) aNil))))))) (gdName 9) l__law_refused_right_10)
noncomputable def q__law_refused_right_12 : SM := (sFor (iSeq (eApp gLst (aCons (eK .none) (aCons (eApp gLst aNil) (aCons (eApp gTup aNil) (aCons (eBin gMul (eApp gLst (aCons (eVar 1) aNil)) (eK (.int 9))) (aCons eNod (aCons (eVar 1) aNil)))))))) (gdName 9) l__law_refused_right_8)
noncomputable def b__law_refused_right : SM := (sSeq (sPar 1 2 (eCallP 1 m__law_ticket 0 aNil) (eCallP 1 m__law_passage 0 aNil))
    (sSeq (sFor (iApp range1D (aCons (eK (.int 4)) aNil)) (gdName 3) l__law_refused_right_6)
    (sSeq q__law_refused_right_12
    (sSeq q__law_refused_right_11
    (sSeq (sRet (eK (.bool true)))
    sNil)))))
noncomputable def m__law_refused_right : GM := ofBody 1 9 b__law_refused_right
theorem fn__law_refused_right (T : Top K mg) (U : TopU P w K mg base CE C1 C2 ca Pa) : Callee P w K mg base 12 "_law_refused_right" s__law_refused_right ["pot"] 1 m__law_refused_right :=
  callee T.d__law_refused_right sc__law_refused_right rfl fun f cdv A outer s H E hgu hr hu =>
    (dss_cons (ds_par rfl sc__law_refused_right.nd rfl rfl (by decide) rfl rfl (de_fnP (fn__law_ticket T) hgu (hr.mono (by decide)) (by rfl) (pv 0) da_nil) (de_fnP (fn__law_passage T) hgu (hr.mono (by decide)) (by rfl) (pv 0) da_nil))
    (dss_cons (ds_for PassesOwn.never rfl (di_range1 (by rfl) T.z_range (da_cons de_int da_nil)) (dg_name sc__law_refused_right.nd rfl (Or.inl rfl)) (dss_cons (ds_par rfl sc__law_refused_right.nd rfl rfl (by decide) rfl rfl (de_fnP (fn__law_bent_parts T) hgu (hr.mono (by decide)) (by rfl) (pv 0) (da_cons (de_var 1) da_nil)) (de_fnP (fn__law_bent_parts T) hgu (hr.mono (by decide)) (by rfl) (pv 0) (da_cons (de_var 2) da_nil)))
    (dss_cons (ds_if (dt_cmp (dop_ne (lu64 hu)) (de_callB (dc_repr hgu (lu64 hu)) (by rfl) T.z_repr bb_repr (da_cons (de_lst (da_cons (de_fn (fn_is_ticket T) hgu (hr.mono (by decide)) (by rfl) (da_cons (de_var 4) da_nil)) (da_cons (de_fnK (ks := ["value"]) (ix := [0]) (fn_is_ticket T) hgu (hr.mono (by decide)) (by rfl) (fun _ _ _ _ _ _ ws hl => match ws, hl with | [_], _ => rfl) rfl (dk_cons (de_var 4) dk_nil)) da_nil))) da_nil)) (de_callB (dc_repr hgu (lu64 hu)) (by rfl) T.z_repr bb_repr (da_cons (de_op dop_mul (de_lst (da_cons (de_fn (fn__law_is_ticket T) hgu (hr.mono (by decide)) (by rfl) (da_cons (de_var 4) da_nil)) da_nil)) de_int) da_nil)) (by first | exact nobehind _ (by decide) (by decide) | rfl | with_unfolding_all rfl)) (dss_cons (ds_ret de_bl)
    dss_nil) dss_nil)
    (dss_cons (ds_if (dt_cmp (dop_ne (lu64 hu)) (de_callB (dc_repr hgu (lu64 hu)) (by rfl) T.z_repr bb_repr (da_cons (de_lst (da_cons (de_fn (fn_is_passage T) hgu (hr.mono (by decide)) (by rfl) (da_cons (de_var 5) da_nil)) (da_cons (de_fnK (ks := ["value"]) (ix := [0]) (fn_is_passage T) hgu (hr.mono (by decide)) (by rfl) (fun _ _ _ _ _ _ ws hl => match ws, hl with | [_], _ => rfl) rfl (dk_cons (de_var 5) dk_nil)) da_nil))) da_nil)) (de_callB (dc_repr hgu (lu64 hu)) (by rfl) T.z_repr bb_repr (da_cons (de_op dop_mul (de_lst (da_cons (de_fn (fn__law_is_passage T) hgu (hr.mono (by decide)) (by rfl) (da_cons (de_var 5) da_nil)) da_nil)) de_int) da_nil)) (by first | exact nobehind _ (by decide) (by decide) | rfl | with_unfolding_all rfl)) (dss_cons (ds_ret de_bl)
    dss_nil) dss_nil)
    (dss_cons (ds_par rfl sc__law_refused_right.nd rfl rfl (by decide) rfl rfl (de_lst (da_cons (de_var 1) (da_cons (de_var 4) da_nil))) (de_lst (da_cons (de_var 2) (da_cons (de_var 5) (da_cons (de_var 2) da_nil)))))
    (dss_cons (ds_set sc__law_refused_right.nd rfl (Or.inl rfl) (de_if (dt_not (dt_val (de_fn (fn__law_is_ticket T) hgu (hr.mono (by decide)) (by rfl) (da_cons (de_var 4) da_nil)))) (de_tup (da_cons de_str (da_cons (de_callB (dc_repr hgu (lu64 hu)) (by rfl) T.z_repr bb_repr (da_cons (de_var 6) da_nil)) (da_cons de_bl da_nil)))) de_non))
    (dss_cons (ds_if (PW.pt (dw_and (dt_cmp dop_isB (de_var 8) de_non (by first | exact nobehind _ (by decide) (by decide) | rfl | with_unfolding_all rfl)) (dw_and1 (dt_not (dt_val (de_fn (fn__law_is_passage T) hgu (hr.mono (by decide)) (by rfl) (da_cons (de_var 5) da_nil))))))) (dss_cons (ds_set sc__law_refused_right.nd rfl (Or.inl rfl) (de_tup (da_cons de_str (da_cons (de_callB (dc_repr hgu (lu64 hu)) (by rfl) T.z_repr bb_repr (da_cons (de_var 7) da_nil)) (da_cons de_bl da_nil)))))
    dss_nil) dss_nil)
    (dss_cons (ds_if (PW.pt (dw_and (dt_cmp dop_isnotB (de_var 8) de_non (by first | exact nobehind _ (by decide) (by decide) | rfl | with_unfolding_all rfl)) (dw_and1 (dt_cmp (dop_ne (lu64 hu)) (de_fn (fn__law_all_heard T U) hgu (hr.mono (by decide)) (by rfl) (da_cons (de_var 6) (da_cons (de_var 7) da_nil))) (de_op dop_mul (de_lst (da_cons (de_var 8) da_nil)) de_int) (by first | exact nobehind _ (by decide) (by decide) | rfl | with_unfolding_all rfl))))) (dss_cons (ds_ret de_bl)
    dss_nil) dss_nil)
    dss_nil))))))))
    (dss_cons (ds_for PassesOwn.never rfl (di_seq (de_lst (da_cons de_non (da_cons (de_lst da_nil) (da_cons (de_tup da_nil) (da_cons (de_op dop_mul (de_lst (da_cons (de_var 1) da_nil)) de_int) (da_cons de_nod (da_cons (de_var 1) da_nil)))))))) (dg_name sc__law_refused_right.nd rfl (Or.inl rfl)) (dss_cons (ds_if (dt_cmp (dop_ne (lu64 hu)) (de_fn (fn__law_all_heard T U) hgu (hr.mono (by decide)) (by rfl) (da_cons (de_var 9) (da_cons de_non da_nil))) (de_op dop_mul (de_lst (da_cons (de_tup (da_cons de_str (da_cons (de_callB (dc_repr hgu (lu64 hu)) (by rfl) T.z_repr bb_repr (da_cons (de_var 9) da_nil)) (da_cons de_bl da_nil)))) da_nil)) de_int) (by first | exact nobehind _ (by decide) (by decide) | rfl | with_unfolding_all rfl)) (dss_cons (ds_ret de_bl)
    dss_nil) dss_nil)
    dss_nil))
    (dss_cons (ds_for PassesOwn.never rfl (di_seq (de_lst (da_cons de_non (da_cons (de_op dop_mul (de_lst (da_cons (de_var 2) da_nil)) de_int) (da_cons de_nod (da_cons (de_var 2) (da_cons de_int da_nil))))))) (dg_name sc__law_refused_right.nd rfl (Or.inl rfl)) (dss_cons (ds_if (dt_cmp (dop_ne (lu64 hu)) (de_fn (fn__law_all_heard T U) hgu (hr.mono (by decide)) (by rfl) (da_cons (de_op dop_mul (de_lst (da_cons (de_var 1) da_nil)) de_int) (da_cons (de_var 9) da_nil))) (de_op dop_mul (de_lst (da_cons (de_tup (da_cons de_str (da_cons (de_callB (dc_repr hgu (lu64 hu)) (by rfl) T.z_repr bb_repr (da_cons (de_var 9) da_nil)) (da_cons de_bl da_nil)))) da_nil)) de_int) (by first | exact nobehind _ (by decide) (by decide) | rfl | with_unfolding_all rfl)) (dss_cons (ds_ret de_bl)
    dss_nil) dss_nil)
    dss_nil))
    (dss_cons (ds_ret de_bl)
    dss_nil)))))
abbrev N__law_right : List Str := ["pot", "tickets", "many", "passages", "shown", "prices", "due", "told", "less", "lower", "turn", "value", "before", "late", "heard", "word", "price", "minutes", "zones", "persons", "one"]
theorem sc__law_right : FnScope N__law_right ["pot"] (defScope s__law_right) := ⟨rfl, rfl, rfl, by decide +kernel, rfl, by decide +kernel, by decide +kernel⟩
noncomputable def q__law_right_1 : SM := (sIf (tOr2 (tVal (eBin gNe (eApp gRepr (aCons (eVar 14) aNil)) (eApp gRepr (aCons (eVar 13) aNil)))) (tVal (eBin gNe (eApp gRepr (aCons (eVar 11) aNil)) (eVar 12)))) (sSeq (sRet (eK (.bool false)))
    sNil) sNil)
noncomputable def q__law_right_2 : SM := (sSet 14 (eIf (tVal (eBin gEq (eBin gMod (eVar 10) (eK (.int 2))) (eK (.int 0)))) (eCall 3 m_is_price_table (aCons (eVar 1) (aCons (eVar 3) (aCons (eVar 11) aNil)))) (eCallK 3 [2, 1, 0] m_is_price_table (aCons (eVar 11) (aCons (eVar 3) (aCons (eVar 1) aNil))))))
noncomputable def q__law_right_3 : SM := (sSet 11 (eCallP 4 m__law_bent 0 (aCons (eCallP 2 m__law_pick 0 (aCons (eApp gLst (aCons (eVar 6) (aCons (eVar 6) (aCons (eVar 9) (aCons (eBin gMul (eApp gLst (aCons (eK (.int 0)) aNil)) (eApp gLen (aCons (eVar 6) aNil))) aNil))))) aNil)) (aCons (eVar 5) (aCons (eVar 3) aNil)))))
noncomputable def l__law_right_4 : SM := (sSeq q__law_right_3
    (sSeq (sPar 12 13 (eApp gRepr (aCons (eVar 11) aNil)) (eCall 3 m__law_is_table (aCons (eVar 5) (aCons (eVar 3) (aCons (eVar 11) aNil)))))
    (sSeq q__law_right_2
    (sSeq q__law_right_1
    sNil))))
noncomputable def q__law_right_5 : SM := (sIf (tVal (eBin gNe (eApp gRepr (aCons (eComp [20] (iSeq (eApp gLst (aCons (eVar 6) (aCons (eApp gTuple (aCons (eVar 9) aNil)) (aCons (eBin gMul (eApp gLst (aCons (eK (.int 0)) aNil)) (eApp gLen (aCons (eVar 6) aNil))) aNil))))) (gdName 20) tAll (eCall 3 m_is_price_table (aCons (eVar 1) (aCons (eVar 3) (aCons (eVar 20) aNil))))) aNil)) (eK (.str "[True, True, True]")))) (sSeq (sRet (eK (.bool false)))
    sNil) sNil)
noncomputable def q__law_right_6 : SM := (sSet 8 (eComp [15, 16, 17, 18, 19] (iSeq (eVar 1)) (gdTup 5 (gdCons (gdName 15) (gdCons (gdName 16) (gdCons (gdName 17) (gdCons (gdName 18) (gdCons (gdName 19) gdNil)))))) tAll (eApp gTup (aCons (eVar 15) (aCons (eApp gMax (aCons (eK (.int 1)) (aCons (eBin gSub (eBin gSub (eVar 16) (eK (.int 1))) (eCallP 2 m__law_draw 0 (aCons (eK (.int 40)) aNil))) aNil))) (aCons (eVar 17) (aCons (eVar 18) (aCons (eVar 19) aNil))))))))
noncomputable def q__law_right_7 : SM := (sIf (tVal (eBin gNe (eApp gRepr (aCons (eCall 2 m_price_table (aCons (eVar 1) (aCons (eVar 3) aNil))) aNil)) (eApp gRepr (aCons (eVar 6) aNil)))) (sSeq (sRet (eK (.bool false)))
    sNil) sNil)
noncomputable def q__law_right_8 : SM := (sIf (tVal (eBin gNe (eApp gRepr (aCons (eApp gLst (aCons (eCall 2 m_price_table (aCons (eVar 1) (aCons (eVar 3) aNil))) (aCons (eCallK 2 [1, 0] m_price_table (aCons (eApp gTuple (aCons (eVar 3) aNil)) (aCons (eApp gTuple (aCons (eVar 1) aNil)) aNil))) aNil))) aNil)) (eApp gRepr (aCons (eApp gLst (aCons (eVar 6) (aCons (eVar 6) aNil))) aNil)))) (sSeq (sRet (eK (.bool false)))
    sNil) sNil)
noncomputable def q__law_right_9 : SM := (sSet 2 (eCallP 2 m__law_pick 0 (aCons (eApp gLst (aCons (eK (.int 0)) (aCons (eK (.int 1)) (aCons (eK (.int 2)) (aCons (eK (.int 3)) (aCons (eK (.int 4)) (aCons (eK (.int 5)) (aCons (eK (.int 4)) (aCons (eIf (tVal (eBin gGt (eApp gLen (aCons (eVar 1) aNil)) (eK (.int 4)))) (eK (.int 3)) (eK (.int 6))) aNil))))))))) aNil)))
noncomputable def q__law_right_10 : SM := (sIf (tAnd2 (tVal (eBin gEq (eCallP 2 m__law_draw 0 (aCons (eK (.int 4)) aNil)) (eK (.int 0)))) (tNot2 (tVal (eCallP 1 m__law_refused_right 0 aNil)))) (sSeq (sRet (eK (.bool false)))
    sNil) sNil)
noncomputable def b__law_right : SM := (sSeq q__law_right_10
    (sSeq (sSet 1 (eCallP 1 m__law_tickets 0 aNil))
    (sSeq q__law_right_9
    (sSeq (sSet 3 (eCallP 3 m__law_passages 0 (aCons (eVar 1) (aCons (eVar 2) aNil))))
    (sSeq (sPar 4 5 (eApp gRepr (aCons (eApp gLst (aCons (eVar 1) (aCons (eVar 3) aNil))) aNil)) (eCall 2 m__law_prices (aCons (eVar 1) (aCons (eVar 3) aNil))))
    (sSeq (sSet 6 (eCall 2 m__law_least (aCons (eVar 5) (aCons (eVar 3) aNil))))
    (sSeq q__law_right_8
    (sSeq (sSet 7 (eCall 2 m_price_table (aCons (eVar 1) (aCons (eVar 3) aNil))))
    (sSeq (sExpr (eMeth opClear 7 aNil))
    (sSeq q__law_right_7
    (sSeq q__law_right_6
    (sSeq (sSet 9 (eCall 2 m__law_least (aCons (eCall 2 m__law_prices (aCons (eVar 8) (aCons (eVar 3) aNil))) (aCons (eVar 3) aNil))))
    (sSeq q__law_right_5
    (sSeq (sFor (iApp range1D (aCons (eK (.int 3)) aNil)) (gdName 10) l__law_right_4)
    (sSeq (sRet (eBin gEq (eApp gRepr (aCons (eApp gLst (aCons (eVar 1) (aCons (eVar 3) aNil))) aNil)) (eVar 4)))
    sNil)))))))))))))))
noncomputable def m__law_right : GM := ofBody 1 20 b__law_right
theorem fn__law_right (T : Top K mg) (U : TopU P w K mg base CE C1 C2 ca Pa) : Callee P w K mg base 13 "_law_right" s__law_right ["pot"] 1 m__law_right :=
  callee T.d__law_right sc__law_right rfl fun f cdv A outer s H E hgu hr hu =>
    (dss_cons (ds_if (PW.pt (dw_and (dt_cmp (dop_eq (lu64 hu)) (de_fnP (fn__law_draw T) hgu (hr.mono (by decide)) (by rfl) (pv 0) (da_cons de_int da_nil)) de_int (by first | exact nobehind _ (by decide) (by decide) | rfl | with_unfolding_all rfl)) (dw_and1 (dt_not (dt_val (de_fnP (fn__law_refused_right T U) hgu (hr.mono (by decide)) (by rfl) (pv 0) da_nil)))))) (dss_cons (ds_ret de_bl)
    dss_nil) dss_nil)
    (dss_cons (ds_set sc__law_right.nd rfl (Or.inr rfl) (de_fnP (fn__law_tickets T) hgu (hr.mono (by decide)) (by rfl) (pv 0) da_nil))
    (dss_cons (ds_set sc__law_right.nd rfl (Or.inl rfl) (de_fnP (fn__law_pick T) hgu (hr.mono (by decide)) (by rfl) (pv 0) (da_cons (de_lst (da_cons de_int (da_cons de_int (da_cons de_int (da_cons de_int (da_cons de_int (da_cons de_int (da_cons de_int (da_cons (de_if (dt_cmp dop_gt (de_callB dc_len (by rfl) T.z_len bb_len (da_cons (de_var 1) da_nil)) de_int (by first | exact nobehind _ (by decide) (by decide) | rfl | with_unfolding_all rfl)) de_int de_int) da_nil))))))))) da_nil)))
    (dss_cons (ds_set sc__law_right.nd rfl (Or.inr rfl) (de_fnP (fn__law_passages T) hgu (hr.mono (by decide)) (by rfl) (pv 0) (da_cons (de_var 1) (da_cons (de_var 2) da_nil))))
    (dss_cons (ds_par rfl sc__law_right.nd rfl rfl (by decide) rfl rfl (de_callB (dc_repr hgu (lu64 hu)) (by rfl) T.z_repr bb_repr (da_cons (de_lst (da_cons (de_var 1) (da_cons (de_var 3) da_nil))) da_nil)) (de_fn (fn__law_prices T) hgu (hr.mono (by decide)) (by rfl) (da_cons (de_var 1) (da_cons (de_var 3) da_nil))))
    (dss_cons (ds_set sc__law_right.nd rfl (Or.inl rfl) (de_fn (fn__law_least T) hgu (hr.mono (by decide)) (by rfl) (da_cons (de_var 5) (da_cons (de_var 3) da_nil))))
    (dss_cons (ds_if (dt_cmp (dop_ne (lu64 hu)) (de_callB (dc_repr hgu (lu64 hu)) (by rfl) T.z_repr bb_repr (da_cons (de_lst (da_cons (de_fn (fn_price_table T) hgu (hr.mono (by decide)) (by rfl) (da_cons (de_var 1) (da_cons (de_var 3) da_nil))) (da_cons (de_fnK (ks := ["passages", "tickets"]) (ix := [1, 0]) (fn_price_table T) hgu (hr.mono (by decide)) (by rfl) (fun _ _ _ _ _ _ ws hl => match ws, hl with | [_, _], _ => rfl) rfl (dk_cons (de_callTy dc_tuple (by rfl) T.z_tuple bb_tuple (da_cons (de_var 3) da_nil)) (dk_cons (de_callTy dc_tuple (by rfl) T.z_tuple bb_tuple (da_cons (de_var 1) da_nil)) dk_nil))) da_nil))) da_nil)) (de_callB (dc_repr hgu (lu64 hu)) (by rfl) T.z_repr bb_repr (da_cons (de_lst (da_cons (de_var 6) (da_cons (de_var 6) da_nil))) da_nil)) (by first | exact nobehind _ (by decide) (by decide) | rfl | with_unfolding_all rfl)) (dss_cons (ds_ret de_bl)
    dss_nil) dss_nil)
    (dss_cons (ds_set sc__law_right.nd rfl (Or.inl rfl) (de_fn (fn_price_table T) hgu (hr.mono (by decide)) (by rfl) (da_cons (de_var 1) (da_cons (de_var 3) da_nil))))
    (dss_cons (ds_expr (de_clear (pv 7)))
    (dss_cons (ds_if (dt_cmp (dop_ne (lu64 hu)) (de_callB (dc_repr hgu (lu64 hu)) (by rfl) T.z_repr bb_repr (da_cons (de_fn (fn_price_table T) hgu (hr.mono (by decide)) (by rfl) (da_cons (de_var 1) (da_cons (de_var 3) da_nil))) da_nil)) (de_callB (dc_repr hgu (lu64 hu)) (by rfl) T.z_repr bb_repr (da_cons (de_var 6) da_nil)) (by first | exact nobehind _ (by decide) (by decide) | rfl | with_unfolding_all rfl)) (dss_cons (ds_ret de_bl)
    dss_nil) dss_nil)
    (dss_cons (ds_setComp rfl sc__law_right.nd rfl rfl (sw_true rfl rfl rfl (by decide +kernel)) (di_seq (de_var 1)) (blkOk_by (N := N__law_right) (sc := (defScope s__law_right)) (own := [("word", 15), ("price", 16), ("minutes", 17), ("zones", 18), ("persons", 19)]) (by decide +kernel)) rfl (fun _ _ _ _ _ => (dg_tup rfl (dgs_cons (dg_name sc__law_right.nd rfl (Or.inl rfl)) (dgs_cons (dg_name sc__law_right.nd rfl (Or.inl rfl)) (dgs_cons (dg_name sc__law_right.nd rfl (Or.inl rfl)) (dgs_cons (dg_name sc__law_right.nd rfl (Or.inl rfl)) (dgs_cons (dg_name sc__law_right.nd rfl (Or.inl rfl)) dgs_nil))))))) (fun _ _ _ _ _ => dts_nil) (fun _ _ _ _ _ => (de_tup (da_cons (de_var 15) (da_cons (de_callB (dc_max2 rfl) (by rfl) T.z_max bb_max (da_cons de_int (da_cons (de_op dop_sub (de_op dop_sub (de_var 16) de_int) (de_fnP (fn__law_draw T) hgu (hr.mono (by decide)) (by rfl) (pv 0) (da_cons de_int da_nil))) da_nil))) (da_cons (de_var 17) (da_cons (de_var 18) (da_cons (de_var 19) da_nil))))))))
    (dss_cons (ds_set sc__law_right.nd rfl (Or.inl rfl) (de_fn (fn__law_least T) hgu (hr.mono (by decide)) (by rfl) (da_cons (de_fn (fn__law_prices T) hgu (hr.mono (by decide)) (by rfl) (da_cons (de_var 8) (da_cons (de_var 3) da_nil))) (da_cons (de_var 3) da_nil))))
    (dss_cons (ds_if (dt_cmp (dop_ne (lu64 hu)) (de_callB (dc_repr hgu (lu64 hu)) (by rfl) T.z_repr bb_repr (da_cons (de_comp rfl sc__law_right.nd (di_seq (de_lst (da_cons (de_var 6) (da_cons (de_callTy dc_tuple (by rfl) T.z_tuple bb_tuple (da_cons (de_var 9) da_nil)) (da_cons (de_op dop_mul (de_lst (da_cons de_int da_nil)) (de_callB dc_len (by rfl) T.z_len bb_len (da_cons (de_var 6) da_nil))) da_nil))))) (blkOk_by (N := N__law_right) (sc := (defScope s__law_right)) (own := [("one", 20)]) (by decide +kernel)) rfl (fun _ _ _ _ _ => (dg_name sc__law_right.nd rfl (Or.inl rfl))) (fun _ _ _ _ _ => dts_nil) (fun _ _ _ _ _ => (de_fn (fn_is_price_table T) hgu (hr.mono (by decide)) (by rfl) (da_cons (de_var 1) (da_cons (de_var 3) (da_cons (de_var 20) da_nil)))))) da_nil)) de_str (by first | exact nobehind _ (by decide) (by decide) | rfl | with_unfolding_all rfl)) (dss_cons (ds_ret de_bl)
    dss_nil) dss_nil)
    (dss_cons (ds_for PassesOwn.never rfl (di_range1 (by rfl) T.z_range (da_cons de_int da_nil)) (dg_name sc__law_right.nd rfl (Or.inl rfl)) (dss_cons (ds_set sc__law_right.nd rfl (Or.inl rfl) (de_fnP (fn__law_bent T) hgu (hr.mono (by decide)) (by rfl) (pv 0) (da_cons (de_fnP (fn__law_pick T) hgu (hr.mono (by decide)) (by rfl) (pv 0) (da_cons (de_lst (da_cons (de_var 6) (da_cons (de_var 6) (da_cons (de_var 9) (da_cons (de_op dop_mul (de_lst (da_cons de_int da_nil)) (de_callB dc_len (by rfl) T.z_len bb_len (da_cons (de_var 6) da_nil))) da_nil))))) da_nil)) (da_cons (de_var 5) (da_cons (de_var 3) da_nil)))))
    (dss_cons (ds_par rfl sc__law_right.nd rfl rfl (by decide) rfl rfl (de_callB (dc_repr hgu (lu64 hu)) (by rfl) T.z_repr bb_repr (da_cons (de_var 11) da_nil)) (de_fn (fn__law_is_table T) hgu (hr.mono (by decide)) (by rfl) (da_cons (de_var 5) (da_cons (de_var 3) (da_cons (de_var 11) da_nil)))))
    (dss_cons (ds_set sc__law_right.nd rfl (Or.inl rfl) (de_if (dt_cmp (dop_eq (lu64 hu)) (de_op dop_mod (de_var 10) de_int) de_int (by first | exact nobehind _ (by decide) (by decide) | rfl | with_unfolding_all rfl)) (de_fn (fn_is_price_table T) hgu (hr.mono (by decide)) (by rfl) (da_cons (de_var 1) (da_cons (de_var 3) (da_cons (de_var 11) da_nil)))) (de_fnK (ks := ["value", "passages", "tickets"]) (ix := [2, 1, 0]) (fn_is_price_table T) hgu (hr.mono (by decide)) (by rfl) (fun _ _ _ _ _ _ ws hl => match ws, hl with | [_, _, _], _ => rfl) rfl (dk_cons (de_var 11) (dk_cons (de_var 3) (dk_cons (de_var 1) dk_nil))))))
    (dss_cons (ds_if (PW.pt (dw_or (dt_cmp (dop_ne (lu64 hu)) (de_callB (dc_repr hgu (lu64 hu)) (by rfl) T.z_repr bb_repr (da_cons (de_var 14) da_nil)) (de_callB (dc_repr hgu (lu64 hu)) (by rfl) T.z_repr bb_repr (da_cons (de_var 13) da_nil)) (by first | exact nobehind _ (by decide) (by decide) | rfl | with_unfolding_all rfl)) (dw_or1 (dt_cmp (dop_ne (lu64 hu)) (de_callB (dc_repr hgu (lu64 hu)) (by rfl) T.z_repr bb_repr (da_cons (de_var 11) da_nil)) (de_var 12) (by first | exact nobehind _ (by decide) (by decide) | rfl | with_unfolding_all rfl))))) (dss_cons (ds_ret de_bl)
    dss_nil) dss_nil)
    dss_nil)))))
    (dss_cons (ds_ret (de_cmp (dop_eq (lu64 hu)) (de_callB (dc_repr hgu (lu64 hu)) (by rfl) T.z_repr bb_repr (da_cons (de_lst (da_cons (de_var 1) (da_cons (de_var 3) da_nil))) da_nil)) (de_var 4) (by first | exact nobehind _ (by decide) (by decide) | rfl | with_unfolding_all rfl)))
    dss_nil)))))))))))))))
end
end K9
end PK92W
section PK92D
set_option maxHeartbeats 1000000
open PySem PySem.Spec PyProof.Rows L2 DL
namespace K9
/-! the draws -/
theorem draw_ok (a b n : Int) (ha : 0 ≤ a) (hn : 0 < n) (hn2 : n < 1073741824) : ∃ d a' b' : Int, 0 ≤ d ∧ d < n ∧ 0 ≤ a' ∧ m__law_draw [.p [.int a, .int b], .d (.int n)] = some (.d (.int d), [.p [.int a', .int b'], .u]) := by
  by_cases h : 0 < a
  · refine ⟨a % n, a / n, b, Int.emod_nonneg _ (by omega), Int.emod_lt_of_pos _ hn, Int.ediv_nonneg ha (by omega), ?_⟩
    simp [x_sSeq, m__law_draw, ofBody, b__law_draw, q__law_draw_1, q__law_draw_2, q__law_draw_3, gGt, gI, atI, ixN, h, gDivmod, hn, hn2, gdIx, endOf, keepP]
  · have h0 : a = 0 := by omega
    subst h0
    refine ⟨((b * 39373 + 1523) % 2147483587 * ((b * 39373 + 1523) % 2147483587)) % 2147483549 / 19 % n, 0, (b * 39373 + 1523) % 2147483587, Int.emod_nonneg _ (by omega), Int.emod_lt_of_pos _ hn, by omega, ?_⟩
    have h1 : cMul b 39373 = true := by unfold cMul; simp
    have h2 : cMul ((b * 39373 + 1523) % 2147483587) ((b * 39373 + 1523) % 2147483587) = true := by
      have q1 := Int.emod_nonneg (b * 39373 + 1523) (show (2147483587 : Int) ≠ 0 by omega)
      have q2 := Int.emod_lt_of_pos (b * 39373 + 1523) (show (0 : Int) < 2147483587 by omega)
      unfold cMul
      simp only [Bool.or_eq_true, Bool.and_eq_true, decide_eq_true_eq]
      omega
    simp [x_sSeq, m__law_draw, ofBody, b__law_draw, q__law_draw_1, q__law_draw_2, q__law_draw_3, gGt, gI, atI, ixN, gInt1, gAdd, gMul, gMod, gFdiv, h1, h2, hn, gdIx, endOf, keepP]
theorem W_draw {ρ : Rho} {i : Nat} {a b n : Int} {fa : AM} {P : Rs × Rho → Prop} (h : ρ[i]? = some (.p [.int a, .int b])) (ha : 0 ≤ a) (hf : fa ρ = some ([.int n], ρ)) (hn : 0 < n) (hn2 : n < 1073741824) (k : ∀ d a' b' : Int, 0 ≤ d → d < n → 0 ≤ a' → P (.d (.int d), ρ.set i (.p [.int a', .int b']))) : W (eCallP 2 m__law_draw i fa ρ) P := by
  obtain ⟨d, a', b', h1, h2, h3, e⟩ := draw_ok a b n ha hn hn2
  unfold eCallP
  simp only [h, Option.bind_some, x_listOf_p, hf, List.length_cons, List.length_nil, if_true, List.map_cons, List.map_nil, e, W_some, x_with_p, List.getElem?_cons_zero, x_pOf, Option.map_some]
  exact k d a' b' h1 h2 h3
theorem ix_of {ds : List PyData} {d : Int} (h1 : 0 ≤ d) (h2 : d < ds.length) : ∃ x, x ∈ ds ∧ atI ds d = some x := by
  have hj : d.toNat < ds.length := by omega
  refine ⟨ds[d.toNat], List.getElem_mem hj, ?_⟩
  unfold atI ixN
  rw [if_pos h1, if_pos (by omega), Option.bind_some]
  exact List.getElem?_eq_getElem hj
theorem pick_ok (a b : Int) (ha : 0 ≤ a) (ds : List PyData) (hd : ds ≠ []) (hl : ds.length < 1073741824) (t : Sl) (ht : t = .d (.list ds) ∨ t = .d (.tuple ds) ∨ t = .p ds) : ∃ d a' b', d ∈ ds ∧ 0 ≤ a' ∧ m__law_pick [.p [.int a, .int b], t] = some (.d d, [.p [.int a', .int b'], keepP t]) := by
  have h0 : 0 < ds.length := List.length_pos_iff.mpr hd
  obtain ⟨d, a', b', h1, h2, h3, e⟩ := draw_ok a b ds.length ha (by omega) (by omega)
  obtain ⟨x, hx, ix⟩ := ix_of h1 h2
  refine ⟨x, a', b', hx, h3, ?_⟩
  rcases ht with rfl | rfl | rfl
  · simp [x_sSeq, m__law_pick, ofBody, b__law_pick, eCallP, gLen, e, gIx, ix, endOf, keepP]
  · simp [x_sSeq, m__law_pick, ofBody, b__law_pick, eCallP, gLen, e, gIx, ix, endOf, keepP]
  · simp [x_sSeq, m__law_pick, ofBody, b__law_pick, eCallP, gLen, e, gIx, ix, endOf, keepP]
/-- what a pick asks of its arguments -/
def PickOk (i : Nat) (P : Rs × Rho → Prop) (x : List PyData × Rho) : Prop := ∃ ds, (x.1 = [.list ds] ∨ x.1 = [.tuple ds]) ∧ ds ≠ [] ∧ ds.length < 1073741824 ∧ ∃ a' b' : Int, 0 ≤ a' ∧ x.2[i]? = some (.p [.int a', .int b']) ∧ ∀ d ∈ ds, ∀ a'' b'' : Int, 0 ≤ a'' → P (.d d, x.2.set i (.p [.int a'', .int b'']))
theorem W_pick {ρ : Rho} {i : Nat} {a b : Int} {fa : AM} {P : Rs × Rho → Prop} (h : ρ[i]? = some (.p [.int a, .int b])) (hf : W (fa ρ) (PickOk i P)) : W (eCallP 2 m__law_pick i fa ρ) P := by
  obtain ⟨⟨xs, ρ1⟩, e, ds, hx, hd, hl, a', b', ha, h1, k⟩ := hf
  obtain ⟨t, ht, et⟩ : ∃ t : PyData, (t = .list ds ∨ t = .tuple ds) ∧ xs = [t] := by
    rcases hx with hx | hx
    · exact ⟨_, .inl rfl, hx⟩
    · exact ⟨_, .inr rfl, hx⟩
  obtain ⟨d, a2, b2, m1, m2, m3⟩ := pick_ok a' b' ha ds hd hl (.d t) (by rcases ht with rfl | rfl <;> simp)
  subst et
  unfold eCallP
  simp only at h1 k
  simp only [h, Option.bind_some, x_listOf_p, e, List.length_cons, List.length_nil, if_true, List.map_cons, List.map_nil, h1, m3, W_some, x_with_p, List.getElem?_cons_zero, x_pOf, Option.map_some]
  exact k d m1 a2 b2 m2
/-- a pick of what an own list holds -/
theorem W_pickPP {ρ : Rho} {i j : Nat} {a b : Int} {ds : List PyData} {P : Rs × Rho → Prop} (h : ρ[i]? = some (.p [.int a, .int b])) (ha : 0 ≤ a) (hj : ρ[j]? = some (.l ds)) (hij : i ≠ j) (hd : ds ≠ []) (hl : ds.length < 1073741824) (k : ∀ d ∈ ds, ∀ a'' b'' : Int, 0 ≤ a'' → P (.d d, (ρ.set i (.p [.int a'', .int b''])).set j (.l ds))) : W (eCallPP 2 m__law_pick i j ρ) P := by
  obtain ⟨d, a2, b2, m1, m2, m3⟩ := pick_ok a b ha ds hd hl (.p ds) (.inr (.inr rfl))
  unfold eCallPP
  simp only [h, hj, Option.bind_some, x_listOf_p, x_listOf_l, hij, ne_eq, not_false_eq_true, and_self, if_true, m3, List.getElem?_cons_zero, List.getElem?_cons_succ, x_pOf, keepP, Option.map_some, W_some, x_with_p, x_with_l]
  exact k d m1 a2 b2 m2
end K9
end PK92D
section PK92E
set_option maxHeartbeats 1000000
open PySem PySem.Spec PyProof.Rows L2 DL
namespace K9
/-! tickets, passages, as the law makes them -/
structure Tk where
  price : Int
  minutes : Int
  zones : List Int
  persons : Int
structure Pg where
  b : Int
  e : Int
  zones : List Int
def zD (zs : List Int) : PyData := .tuple (zs.map .int)
def Tk.d (t : Tk) : PyData := .tuple [.str "ticket", .int t.price, .int t.minutes, zD t.zones, .int t.persons]
def Pg.d (p : Pg) : PyData := .tuple [.int p.b, .int p.e, zD p.zones]
def zOk (zs : List Int) : Prop := zs ≠ [] ∧ zs.length ≤ 4 ∧ (∀ z ∈ zs, 1 ≤ z ∧ z ≤ 4) ∧ zs.Pairwise (· < ·)
instance (zs : List Int) : Decidable (zOk zs) := by unfold zOk; infer_instance
structure Tk.ok (t : Tk) : Prop where
  p : 1 ≤ t.price ∧ t.price ≤ 9999
  m : 1 ≤ t.minutes ∧ t.minutes ≤ 11000
  z : zOk t.zones
  n : 1 ≤ t.persons ∧ t.persons ≤ 5
structure Pg.ok (p : Pg) : Prop where
  b : 0 ≤ p.b
  l : p.b < p.e
  e : p.e ≤ 9999
  z : zOk p.zones
theorem four (n : Nat) (h : n ≤ 1000) : n ≤ sizeLine := by rw [sizeLine_eq]; omega
abbrev pot (a b : Int) : Sl := .p [.int a, .int b]
/-- of the draws' state comes a value of which P holds -/
def Dr (n : Nat) (P : PyData → Prop) (x : Rs × Rho) : Prop := ∃ d a b, P d ∧ 0 ≤ a ∧ x = (.d d, pot a b :: List.replicate n .u)
theorem W_fn {G : GM} {n i : Nat} {ρ : Rho} {a b : Int} {fa : AM} {ds : List PyData} {Pd : PyData → Prop} {Q : Rs × Rho → Prop} (H : ∀ a b : Int, 0 ≤ a → W (G (pot a b :: ds.map .d)) (Dr ds.length Pd)) (h : ρ[i]? = some (.p [.int a, .int b])) (ha : 0 ≤ a) (hf : fa ρ = some (ds, ρ)) (hn : ds.length + 1 = n) (k : ∀ d a' b', Pd d → 0 ≤ a' → Q (.d d, ρ.set i (.p [.int a', .int b']))) : W (eCallP n G i fa ρ) Q := by
  obtain ⟨x, e, d, a', b', h1, h2, rfl⟩ := H a b ha
  subst hn
  unfold eCallP
  unfold pot at e
  simp only [h, Option.bind_some, x_listOf_p, hf, if_true, e, W_some, x_with_p, List.getElem?_cons_zero, x_pOf, Option.map_some]
  exact k d a' b' h1 h2
theorem endOf_pot {n m : Nat} {d : PyData} {a b : Int} {ρ : Rho} (h : n + 1 ≤ ρ.length + 1) (hu : (ρ.take n).map keepP = List.replicate n .u) : endOf (n + 1) (.d d) (pot a b :: ρ) = some (.d d, pot a b :: List.replicate n .u) := by
  unfold endOf
  rw [if_pos (by simpa using h), List.take_succ_cons, List.map_cons, hu]
  rfl
theorem zones_W (a b : Int) (ha : 0 ≤ a) : W (m__law_zones [pot a b]) (Dr 0 fun d => ∃ zs, zOk zs ∧ d = zD zs) := by
  simp only [m__law_zones, ofBody, b__law_zones, q__law_zones_1, x_sSeq, x_sRet, W_bind, W_map]
  refine W_pick rfl ?_
  simp
  refine ⟨_, .inl rfl, by simp, by simp, a, b, ha, rfl, fun d hd a' b' ha' => ?_⟩
  have hz : ∃ zs, zOk zs ∧ d = zD zs := by
    simp only [List.mem_cons, List.not_mem_nil, or_false] at hd
    rcases hd with rfl | rfl | rfl | rfl | rfl | rfl | rfl | rfl
    · exact ⟨[1], by decide, rfl⟩
    · exact ⟨[2], by decide, rfl⟩
    · exact ⟨[1, 2], by decide, rfl⟩
    · exact ⟨[2, 3], by decide, rfl⟩
    · exact ⟨[1, 2, 3], by decide, rfl⟩
    · exact ⟨[3, 4], by decide, rfl⟩
    · exact ⟨[1, 2, 3, 4], by decide, rfl⟩
    · exact ⟨[1, 2], by decide, rfl⟩
  simp [endOf, keepP]
  exact ⟨d, a', b', hz, ha', rfl⟩
def tkP (d : PyData) : Prop := ∃ t : Tk, t.ok ∧ d = t.d
def pgP (d : PyData) : Prop := ∃ p : Pg, p.ok ∧ d = p.d
theorem ticket_W (a b : Int) (ha : 0 ≤ a) : W (m__law_ticket [pot a b]) (Dr 0 tkP) := by
  simp only [m__law_ticket, ofBody, b__law_ticket, q__law_ticket_1, q__law_ticket_2, x_sSeq, x_sPar, W_bind, W_map]
  refine W_pick rfl ?_
  simp
  refine W_draw rfl ha rfl (by omega) (by omega) fun d1 a b h1 h2 ha => ?_
  simp
  refine W_draw rfl ha rfl (by omega) (by omega) fun d2 a b h3 h4 ha => ?_
  have hm : cMul 100 (1 + d2) = true := by unfold cMul; simp
  simp [gMul, hm]
  refine ⟨_, .inl rfl, by simp, by simp, a, b, ha, rfl, fun pr hp a b ha => ?_⟩
  have hp' : ∃ p : Int, 1 ≤ p ∧ p ≤ 9999 ∧ pr = .int p := by
    simp only [List.mem_cons, List.not_mem_nil, or_false] at hp
    rcases hp with rfl | rfl | rfl
    · exact ⟨_, by omega, by omega, rfl⟩
    · exact ⟨_, by omega, by omega, rfl⟩
    · exact ⟨_, by omega, by omega, rfl⟩
  obtain ⟨p, p1, p2, rfl⟩ := hp'
  simp
  refine W_pick rfl ?_
  simp
  refine ⟨_, .inl rfl, by simp, by simp, a, b, ha, rfl, fun pr hp a b ha => ?_⟩
  have hm' : ∃ m : Int, 1 ≤ m ∧ m ≤ 11000 ∧ pr = .int m := by
    simp only [List.mem_cons, List.not_mem_nil, or_false] at hp
    rcases hp with rfl | rfl | rfl | rfl | rfl | rfl | rfl | rfl <;> exact ⟨_, by omega, by omega, rfl⟩
  obtain ⟨m, m1, m2, rfl⟩ := hm'
  simp
  refine W_fn (ds := []) zones_W rfl ha rfl rfl fun d a b hz ha => ?_
  obtain ⟨zs, z1, rfl⟩ := hz
  simp
  refine W_pick rfl ?_
  simp
  refine ⟨_, .inl rfl, by simp, by simp, a, b, ha, rfl, fun pr hp a b ha => ?_⟩
  have hn : ∃ n : Int, 1 ≤ n ∧ n ≤ 5 ∧ pr = .int n := by
    simp only [List.mem_cons, List.not_mem_nil, or_false] at hp
    rcases hp with rfl | rfl | rfl | rfl | rfl <;> exact ⟨_, by omega, by omega, rfl⟩
  obtain ⟨n, n1, n2, rfl⟩ := hn
  simp [endOf, keepP]
  exact ⟨_, a, b, ⟨⟨p, m, zs, n⟩, ⟨⟨p1, p2⟩, ⟨m1, m2⟩, z1, ⟨n1, n2⟩⟩, rfl⟩, ha, rfl⟩
theorem map_snoc {α : Type} {enc : α → PyData} {xs : List PyData} {ys : List α} {y : α} (h : xs = ys.map enc) : xs ++ [enc y] = (ys ++ [y]).map enc := by rw [h, List.map_append]; rfl
def TksP (x : Rs × Rho) : Prop := ∃ (ts : List Tk) (a b : Int), (∀ t ∈ ts, t.ok) ∧ 1 ≤ ts.length ∧ ts.length ≤ 8 ∧ 0 ≤ a ∧ x = (.l (ts.map Tk.d), [pot a b])
def TksI (i : Nat) (acc : List PyData) (ρ : Rho) : Prop := ∃ (ts : List Tk) (a b : Int), acc = ts.map Tk.d ∧ (∀ t ∈ ts, t.ok) ∧ ts.length = i ∧ 0 ≤ a ∧ ρ = [pot a b, .u]
theorem small_lt {n : Nat} (h : n < 1000) : n < sizeLine := by rw [sizeLine_eq]; omega
theorem tickets_W (a b : Int) (ha : 0 ≤ a) : W (m__law_tickets [pot a b]) TksP := by
  simp only [m__law_tickets, ofBody, b__law_tickets, q__law_tickets_1, x_sSeq, x_sRet, W_bind, W_map, eComp, x_iApp]
  simp
  refine W_pick rfl ?_
  simp
  refine ⟨_, .inl rfl, by simp, by simp, a, b, ha, rfl, fun pr hp a b ha => ?_⟩
  have hn : ∃ n : Int, 1 ≤ n ∧ n ≤ 8 ∧ pr = .int n := by
    simp only [List.mem_cons, List.not_mem_nil, or_false] at hp
    rcases hp with rfl | rfl | rfl | rfl | rfl <;> exact ⟨_, by omega, by omega, rfl⟩
  obtain ⟨n, n1, n2, rfl⟩ := hn
  simp [x_range1 (show 0 ≤ n by omega) (show n ≤ 100000 by omega)]
  refine (comp_W TksI (rngD 0 1 n.toNat) 0 [] [pot a b, .u] ⟨[], a, b, rfl, by simp, rfl, ha, rfl⟩ fun i d hd acc ρ ⟨ts, a, b, h1, h2, h3, h4, h5⟩ => ?_).mono fun x ⟨ts, a, b, h1, h2, h3, h4, h5⟩ => ?_
  · obtain ⟨hi, rfl⟩ := rngD_get hd
    subst h5
    simp
    refine W_fn (ds := []) ticket_W rfl h4 rfl rfl fun d a b ⟨t, t1, t2⟩ ha => ?_
    subst t2
    simp
    refine ⟨small_lt (by rw [h1, List.length_map, h3]; omega), ts ++ [t], a, b, map_snoc h1, fun u hu => ?_, by simp [h3], ha, rfl⟩
    rcases List.mem_append.mp hu with hu | hu
    · exact h2 u hu
    · rw [List.mem_singleton.mp hu]; exact t1
  · obtain ⟨xs, ρ⟩ := x
    simp only at h1 h5
    subst h1 h5
    simp [endOf, keepP]
    simp at h3
    exact ⟨ts, a, b, h2, by omega, by omega, h4, rfl⟩
end K9
end PK92E
section PK92F
set_option maxHeartbeats 2000000
open PySem PySem.Spec PyProof.Rows L2 DL
namespace K9
theorem min2 {a b : Int} : gMin [.int a, .int b] = some (.d (.int (if b < a then b else a))) := rfl
theorem passage_W (a b : Int) (ha : 0 ≤ a) : W (m__law_passage [pot a b]) (Dr 0 pgP) := by
  simp only [m__law_passage, ofBody, b__law_passage, q__law_passage_1, q__law_passage_2, x_sSeq, x_sSet, W_bind, W_map]
  refine W_pick rfl ?_
  simp
  refine W_draw rfl ha rfl (by omega) (by omega) fun d1 a b h1 h2 ha => ?_
  simp
  refine ⟨_, .inl rfl, by simp, by simp, a, b, ha, rfl, fun pr hp a b ha => ?_⟩
  have hb : ∃ p : Int, 0 ≤ p ∧ p ≤ 9990 ∧ pr = .int p := by
    simp only [List.mem_cons, List.not_mem_nil, or_false] at hp
    rcases hp with rfl | rfl | rfl | rfl | rfl <;> exact ⟨_, by omega, by omega, rfl⟩
  obtain ⟨p, p1, p2, rfl⟩ := hb
  simp
  refine W_pick rfl ?_
  simp
  refine W_draw rfl ha rfl (by omega) (by omega) fun d2 a b h3 h4 ha => ?_
  simp
  refine ⟨_, .inl rfl, by simp, by simp, a, b, ha, rfl, fun pr hp a b ha => ?_⟩
  have hb : ∃ q : Int, 1 ≤ q ∧ pr = .int q := by
    simp only [List.mem_cons, List.not_mem_nil, or_false] at hp
    rcases hp with rfl | rfl | rfl | rfl <;> exact ⟨_, by omega, rfl⟩
  obtain ⟨q, q1, rfl⟩ := hb
  simp
  refine W_pick rfl ?_
  simp
  refine W_fn (ds := []) zones_W rfl ha rfl rfl fun d a b hz ha => ?_
  obtain ⟨zs, z1, rfl⟩ := hz
  simp
  refine ⟨_, .inl rfl, by simp, by simp, a, b, ha, rfl, fun pr hp a b ha => ?_⟩
  have hz : ∃ zs, zOk zs ∧ pr = zD zs := by
    simp only [List.mem_cons, List.not_mem_nil, or_false] at hp
    rcases hp with rfl | rfl | rfl | rfl | rfl
    · exact ⟨[1], by decide, rfl⟩
    · exact ⟨[2], by decide, rfl⟩
    · exact ⟨[1, 2], by decide, rfl⟩
    · exact ⟨[1], by decide, rfl⟩
    · exact ⟨zs, z1, rfl⟩
  obtain ⟨zs', z2, rfl⟩ := hz
  simp [endOf, keepP]
  refine ⟨_, a, b, ⟨⟨p, if p + q < 9999 then p + q else 9999, zs'⟩, ⟨p1, ?_, ?_, z2⟩, rfl⟩, ha, rfl⟩
  · show p < if p + q < 9999 then p + q else 9999
    split <;> omega
  · show (if p + q < 9999 then p + q else 9999) ≤ 9999
    split <;> omega
def PgsP (n : Nat) (x : Rs × Rho) : Prop := ∃ (ps : List Pg) (a b : Int), (∀ p ∈ ps, p.ok) ∧ ps.length = n ∧ 0 ≤ a ∧ x = (.l (ps.map Pg.d), [pot a b, .u, .u])
def PgsI (tk : PyData) (many : Int) (i : Nat) (ρ : Rho) : Prop := ∃ (ps : List Pg) (a b : Int) (s4 s5 s6 s7 s8 s9 s10 : Sl), (∀ p ∈ ps, p.ok) ∧ ps.length = i ∧ 0 ≤ a ∧ ρ = [pot a b, .d tk, .d (.int many), .l (ps.map Pg.d), s4, s5, s6, s7, s8, s9, s10]
theorem tk_ix (ts : List Tk) {i : Nat} {d : PyData} (h : (ts.map Tk.d)[i]? = some d) : ∃ t, ts[i]? = some t ∧ d = t.d := by
  rw [List.getElem?_map] at h
  cases q : ts[i]? with
  | none => rw [q] at h; cases h
  | some t => rw [q] at h; exact ⟨t, rfl, (Option.some.inj h).symm⟩
theorem lay_zD (zs : List Int) : (zD zs).canLay0 = true ∧ (zD zs).depth ≤ 1 := by
  have h1 := canAll fun x hx => (lay_ints zs x hx).1
  have h2 := depthAll_le fun x hx => (lay_ints zs x hx).2
  unfold zD
  simp only [PyData.canLay0, h1, PyData.depth]
  exact ⟨trivial, by omega⟩
theorem lay_Pg (p : Pg) : p.d.canLay0 = true ∧ p.d.depth ≤ 3 := by
  have h := lay_zD p.zones
  unfold Pg.d
  simp only [PyData.canLay0, PyData.canLayAll0, h.1, PyData.depth, PyData.depthAll, Bool.and_self]
  exact ⟨trivial, by omega⟩
theorem shapedPs (ps : List Pg) : SeqAt.shaped (.list (ps.map Pg.d)) = true := shapedL fun x hx => by
  obtain ⟨p, _, rfl⟩ := List.mem_map.mp hx
  exact ⟨(lay_Pg p).1, Nat.le_trans (lay_Pg p).2 (by omega)⟩
theorem ne_nil_list {xs : List PyData} : gNe (.list xs) (.list []) = if SeqAt.shaped (.list xs) = true then some (.d (.bool (!PyData.eqv (.list xs) (.list [])))) else none := by
  unfold gNe
  have : SeqAt.shaped (.list []) = true := by decide
  rw [this, Bool.and_true]
theorem passages_turn (ts : List Tk) (ht : ∀ t ∈ ts, t.ok) (hts : 1 ≤ ts.length) (hts2 : ts.length ≤ 8) (many : Int) (i : Nat) (hi : i < 10) (ρ : Rho) (h : PgsI (.list (ts.map Tk.d)) many i ρ) (d : Int) : W (gdName 4 (.d (.int d)) ρ) fun ρ1 => W (l__law_passages_4 ρ1) fun
      | .nx ρ2 => PgsI (.list (ts.map Tk.d)) many (i + 1) ρ2
      | _ => False := by
  obtain ⟨ps, a, b, s4, s5, s6, s7, s8, s9, s10, h1, h2, h3, rfl⟩ := h
  simp only [x_gdName, W_some, l__law_passages_4]
  have hz : ps.length < sizeLine := small_lt (by omega)
  refine W_seq ?_
  simp
  refine W_fn (ds := []) passage_W rfl h3 rfl rfl fun d a b ⟨p0, p0k, hp0⟩ ha => ?_
  subst hp0
  simp
  refine SeqK.nx ?_
  -- all that is left is the append
  have fin : ∀ (p1 : Pg) (a b : Int) (s4 s6 s7 s8 s9 s10 : Sl), p1.ok → 0 ≤ a → W (sSeq (sExpr (eMeth opAppend 3 (aCons (eVar 5) aNil))) sNil [pot a b, .d (.list (ts.map Tk.d)), .d (.int many), .l (ps.map Pg.d), s4, .d p1.d, s6, s7, s8, s9, s10]) fun
      | .nx ρ2 => PgsI (.list (ts.map Tk.d)) many (i + 1) ρ2
      | _ => False := fun p1 a b s4 s6 s7 s8 s9 s10 hk ha => by
    refine W_last ?_
    simp [hz]
    refine ⟨ps ++ [p1], a, b, s4, .d p1.d, s6, s7, s8, s9, s10, fun u hu => ?_, by simp [h2], ha, by rw [List.map_append]; rfl⟩
    rcases List.mem_append.mp hu with hu | hu
    · exact h1 u hu
    · rw [List.mem_singleton.mp hu]; exact hk
  refine W_seq ?_
  have hne : gNe (.list (ps.map Pg.d)) (.list []) = some (.d (.bool (!ps.isEmpty))) := by
    rw [ne_nil_list, if_pos (shapedPs ps), eqv_nilL, List.isEmpty_map]
  cases hps : ps with
  | nil =>
    subst hps
    simp at hne
    simp [q__law_passages_3, hne]
    exact SeqK.nx (fin p0 a b _ _ _ _ _ _ p0k ha)
  | cons pz pr =>
    have hps' : ps.isEmpty = false := by rw [hps]; rfl
    rw [← hps]
    rw [hps'] at hne
    simp [q__law_passages_3, hne]
    refine W_draw rfl ha rfl (by omega) (by omega) fun d1 a b hd1 hd2 ha => ?_
    simp
    split
    · -- another passage
      refine W_seq ?_
      simp
      refine W_pickPP rfl ha rfl (by omega) (by rw [hps]; simp) (by simp; omega) fun dd hdd a b ha => ?_
      obtain ⟨pp, hpp, rfl⟩ := List.mem_map.mp hdd
      have ppk := h1 pp hpp
      simp [Pg.d]
      refine SeqK.nx (W_seq ?_)
      simp
      refine W_pick rfl ?_
      simp
      refine ⟨_, .inl rfl, by simp; intro z; subst z; simp at hts, by simp; omega, a, b, ha, rfl, fun dt hdt a b ha => ?_⟩
      obtain ⟨tt, htt, rfl⟩ := List.mem_map.mp hdt
      have ttk := ht tt htt
      simp [Tk.d]
      refine SeqK.nx (W_seq ?_)
      simp [q__law_passages_2]
      refine W_pick rfl ?_
      simp
      refine ⟨_, .inl rfl, by simp, by simp, a, b, ha, rfl, fun dl hdl a b ha => ?_⟩
      have hl : ∃ l : Int, 0 ≤ l ∧ dl = .int l := by
        have q1 := ppk.b
        have q2 := ppk.l
        have q3 := ttk.m.1
        simp only [List.mem_cons, List.not_mem_nil, or_false] at hdl
        rcases hdl with rfl | rfl | rfl | rfl | rfl <;> exact ⟨_, by omega, rfl⟩
      obtain ⟨l, l0, rfl⟩ := hl
      simp
      refine SeqK.nx (W_last ?_)
      simp
      split
      · refine W_last ?_
        simp [q__law_passages_1]
        refine W_draw rfl ha rfl (by omega) (by omega) fun d2 a b hd3 hd4 ha => ?_
        simp
        refine W_pick rfl ?_
        simp [Pg.d]
        refine ⟨_, .inl rfl, by simp, by simp, a, b, ha, rfl, fun dz hdz a b ha => ?_⟩
        have hz : ∃ zs, zOk zs ∧ dz = zD zs := by
          simp only [List.mem_cons, List.not_mem_nil, or_false] at hdz
          rcases hdz with rfl | rfl
          · exact ⟨_, ppk.z, rfl⟩
          · exact ⟨_, p0k.z, rfl⟩
        obtain ⟨zs, z1, rfl⟩ := hz
        simp
        refine SeqK.nx (fin ⟨l, if l + 1 + d2 < 9999 then l + 1 + d2 else 9999, zs⟩ a b _ _ _ _ _ _ ⟨l0, ?_, ?_, z1⟩ ha)
        · show l < if l + 1 + d2 < 9999 then l + 1 + d2 else 9999
          split <;> omega
        · show (if l + 1 + d2 < 9999 then l + 1 + d2 else 9999) ≤ 9999
          split <;> omega
      · try simp
        exact SeqK.nx (fin p0 a b _ _ _ _ _ _ p0k ha)
    · try simp
      exact SeqK.nx (fin p0 a b _ _ _ _ _ _ p0k ha)
theorem passages_W (ts : List Tk) (ht : ∀ t ∈ ts, t.ok) (hts : 1 ≤ ts.length) (hts2 : ts.length ≤ 8) (many : Nat) (hm : many ≤ 10) (a b : Int) (ha : 0 ≤ a) : W (m__law_passages [pot a b, .d (.list (ts.map Tk.d)), .d (.int many)]) (PgsP many) := by
  have hr : range1D [.int (many : Int)] = some (rngD 0 1 many) := x_range1 (by omega) (by omega)
  refine W_body (W_seq ?_)
  simp
  refine SeqK.nx (W_seq ?_)
  simp [sFor, hr]
  have key := for_nx (gd := gdName 4) (g := l__law_passages_4) id (PgsI (.list (ts.map Tk.d)) many) (xs := rngD 0 1 many) (ρ := [pot a b, .d (.list (ts.map Tk.d)), .d (.int many), .l [], .u, .u, .u, .u, .u, .u, .u])
    ⟨[], a, b, .u, .u, .u, .u, .u, .u, .u, by simp, rfl, ha, rfl⟩ fun i d hd ρ h => by
      obtain ⟨hi, rfl⟩ := rngD_get hd
      exact passages_turn ts ht hts hts2 many i (by omega) ρ h _
  rw [List.map_id] at key
  refine key.mono fun o ⟨ρ', h1, ps, a, b, s4, s5, s6, s7, s8, s9, s10, h2, h3, h4, h5⟩ => ?_
  subst h1 h5
  refine SeqK.nx (W_last ?_)
  simp
  refine BodyK.ret (by simp) ?_
  simp [keepP]
  exact ⟨ps, a, b, h2, by simpa using h3, h4, rfl⟩
end K9
end PK92F
section PK92G
set_option maxHeartbeats 2000000
open PySem PySem.Spec PyProof.Rows L2 DL
namespace K9
/-! the program's own checks -/
theorem is_integer_v (v : PyData) : m_is_integer [.d v] = some (.d (.bool (isIntD v)), [.u]) := by
  refine W_eq.mp (W_body (W_last ?_))
  cases h1 : isIntD v <;> cases h2 : isBoolD v <;> simp [h1, h2]
  all_goals first
    | exact BodyK.ret (by simp) rfl
    | (cases v <;> simp [isIntD, isBoolD] at h1 h2)
def btw (v : PyData) (l m : Int) : Bool := match v with
  | .int i => decide (l ≤ i) && decide (i ≤ m)
  | _ => false
theorem is_between_v (v : PyData) (l m : Int) : m_is_between [.d v, .d (.int l), .d (.int m)] = some (.d (.bool (btw v l m)), [.u, .u, .u]) := by
  refine W_eq.mp (W_body (W_last ?_))
  have out : ∀ b, btw v l m = b → BodyK 3 (fun x => x = (.d (.bool (btw v l m)), [.u, .u, .u])) (.ret (.d (.bool b)) [.d v, .d (.int l), .d (.int m)]) := fun b h => BodyK.ret (by simp) (by simp [keepP, h])
  cases v with
  | int i =>
    by_cases h : l ≤ i
    · simp [is_integer_v, h]
      exact out _ (by simp [btw, h])
    · simp [is_integer_v, h]
      exact out _ (by simp [btw, h])
  | none => simp [is_integer_v, isIntD]; exact out _ rfl
  | bool _ => simp [is_integer_v, isIntD]; exact out _ rfl
  | str _ => simp [is_integer_v, isIntD]; exact out _ rfl
  | list _ => simp [is_integer_v, isIntD]; exact out _ rfl
  | tuple _ => simp [is_integer_v, isIntD]; exact out _ rfl
  | dict _ => simp [is_integer_v, isIntD]; exact out _ rfl
def riseB (ns : List Int) : Bool := (ns.zip (ns.drop 1)).all fun p => decide (p.1 < p.2)
theorem riseB_iff : ∀ ns : List Int, riseB ns = true ↔ ns.Pairwise (· < ·)
  | [] => by simp [riseB]
  | [a] => by simp [riseB]
  | a :: b :: ns => by
    have ih := riseB_iff (b :: ns)
    have e : riseB (a :: b :: ns) = (decide (a < b) && riseB (b :: ns)) := by simp [riseB]
    rw [e, Bool.and_eq_true, decide_eq_true_eq, ih, List.pairwise_cons (a := a)]
    constructor
    · rintro ⟨h1, h2⟩
      refine ⟨fun x hx => ?_, h2⟩
      rcases List.mem_cons.mp hx with rfl | hx
      · exact h1
      · exact Int.lt_trans h1 ((List.pairwise_cons.mp h2).1 x hx)
    · rintro ⟨h1, h2⟩
      exact ⟨h1 b List.mem_cons_self, h2⟩
def pairD (p : Int × Int) : PyData := .tuple [.int p.1, .int p.2]
theorem zip_ints : ∀ ns ms : List Int, zipD (ns.map .int) (ms.map .int) = (ns.zip ms).map pairD
  | [], _ => rfl
  | _ :: _, [] => rfl
  | n :: ns, m :: ms => by
    have ih := zip_ints ns ms
    unfold zipD at ih ⊢
    simp only [List.map_cons, List.zipWith_cons_cons, List.zip_cons_cons, ih]
    rfl
theorem are_rising_v (ns : List Int) (hz : ns.length ≤ 1000) : m_are_rising [.d (.tuple (ns.map .int))] = some (.d (.bool (riseB ns)), [.u]) := by
  refine W_eq.mp (W_body (W_last ?_))
  simp only [q_are_rising_1, x_sRet, x_eApp, x_aCons, W_bind, W_map]
  refine W_compA pairD (fun p => .bool (decide (p.1 < p.2))) (ns.zip (ns.drop 1)) (ρ' := [.d (.tuple (ns.map .int)), .u, .u]) ?_ (fun p hp => by simp [pairD]) ?_ ?_
  · simp only [List.cons_append, List.nil_append, List.replicate]
    simp [zip2D, cut1]
    have e : (ns.map PyData.int).tail = ns.tail.map .int := by cases ns <;> rfl
    rw [e, zip_ints]
  · simp only [List.length_zip]
    omega
  · simp only [x_data_l, x_aNil, x_oms, W_some, all_M]
    exact BodyK.ret (by simp) rfl
theorem btw_true {i l m : Int} (h1 : l ≤ i) (h2 : i ≤ m) : btw (.int i) l m = true := by simp [btw, h1, h2]
theorem are_zones_ok (zs : List Int) (h : zOk zs) : m_are_zones [.d (zD zs)] = some (.d (.bool true), [.u]) := by
  obtain ⟨h0, h1, h2, h3⟩ := h
  have hl : 0 < zs.length := List.length_pos_iff.mpr h0
  have c1 : (1 : Int) ≤ zs.length := by omega
  have c2 : (zs.length : Int) ≤ 4 := by omega
  refine W_eq.mp (W_body (W_seq ?_))
  simp [q_are_zones_2, zD, c1, c2]
  refine SeqK.nx (W_last ?_)
  simp only [q_are_zones_1, x_sRet, x_eAnd, x_eApp, x_aCons, W_bind, W_map]
  refine W_compA .int (fun _ => .bool true) zs (ρ' := [.d (.tuple (zs.map .int)), .u]) (by simp) (fun z hz => by
    have := h2 z hz
    simp [is_between_v, btw_true this.1 this.2]) (by omega) ?_
  have e : gAll [.list (zs.map fun _ => PyData.bool true)] = some (.d (.bool true)) := by rw [all_M]; simp
  simp [e, are_rising_v zs (by omega), (riseB_iff zs).mpr h3]
  exact BodyK.ret (by simp) rfl
theorem Tk.ticket (t : Tk) (h : t.ok) : m_is_ticket [.d t.d] = some (.d (.bool true), [.u]) := by
  refine W_eq.mp (W_body (W_seq ?_))
  have hs : gNe (.str "ticket") (.str "ticket") = some (.d (.bool false)) := by
    unfold gNe
    rw [if_pos (by decide +kernel)]
    simp [PyData.eqv]
  simp [q_is_ticket_3, Tk.d, hs]
  refine SeqK.nx (W_seq ?_)
  simp [q_is_ticket_2, is_between_v, btw_true h.p.1 h.p.2, btw_true h.m.1 h.m.2]
  refine SeqK.nx (W_last ?_)
  simp [q_is_ticket_1, are_zones_ok _ h.z, is_between_v, btw_true h.n.1 h.n.2]
  exact BodyK.ret (by simp) rfl
theorem Pg.passage (p : Pg) (h : p.ok) : m_is_passage [.d p.d] = some (.d (.bool true), [.u]) := by
  have h1 := h.b
  have h2 := h.l
  have h3 := h.e
  refine W_eq.mp (W_body (W_seq ?_))
  simp [q_is_passage_3, Pg.d]
  refine SeqK.nx (W_seq ?_)
  simp [q_is_passage_2, is_between_v, btw_true h.b (show p.b ≤ 9999 by omega), btw_true (show 0 ≤ p.e by omega) h.e]
  refine SeqK.nx (W_last ?_)
  simp [q_is_passage_1, are_zones_ok _ h.z, h2]
  exact BodyK.ret (by simp) rfl
/-- a list, a tuple -/
inductive SeqOf (xs : List PyData) : PyData → Prop
  | l : SeqOf xs (.list xs)
  | t : SeqOf xs (.tuple xs)
theorem all_true {α : Type} (xs : List α) : gAll [.list (xs.map fun _ => PyData.bool true)] = some (.d (.bool true)) := by rw [all_M]; simp
theorem want_tickets_ok (ts : List Tk) (ht : ∀ t ∈ ts, t.ok) (h1 : 1 ≤ ts.length) (h2 : ts.length ≤ 8) {v : PyData} (hv : SeqOf (ts.map Tk.d) v) : m_want_tickets [.d v] = some (.d v, [.u]) := by
  have c1 : (1 : Int) ≤ ts.length := by omega
  have c2 : (ts.length : Int) ≤ 8 := by omega
  have are : m_are_tickets [.d v] = some (.d (.bool true), [.u]) := by
    refine W_eq.mp (W_body (W_seq ?_))
    have go : ∀ ρ, ρ = [Sl.d v, Sl.u] → W (sSeq (sRet (eApp gAll (aCons (eComp [1] (iSeq (eVar 0)) (gdName 1) tAll (eCall 1 m_is_ticket (aCons (eVar 1) aNil))) aNil))) sNil ρ) (BodyK 1 fun x => x = (.d (.bool true), [.u])) := fun ρ hρ => by
      subst hρ
      refine W_last ?_
      simp only [x_sRet, x_eApp, x_aCons, W_bind, W_map]
      refine W_compA Tk.d (fun _ => .bool true) ts (ρ' := [.d v, .u]) (by cases hv <;> simp) (fun t h => by simp [t.ticket (ht t h)]) (by omega) ?_
      simp [all_true]
      exact BodyK.ret (by simp) rfl
    cases hv
    · simp [q_are_tickets_1, c1, c2]
      exact SeqK.nx (go _ rfl)
    · simp [q_are_tickets_1, c1, c2]
      exact SeqK.nx (go _ rfl)
  refine W_eq.mp (W_body (W_seq ?_))
  simp [are]
  refine SeqK.nx (W_last ?_)
  simp
  exact BodyK.ret (by simp) rfl
theorem want_passages_ok (ps : List Pg) (hp : ∀ p ∈ ps, p.ok) (h2 : ps.length ≤ 10) {v : PyData} (hv : SeqOf (ps.map Pg.d) v) : m_want_passages [.d v] = some (.d v, [.u]) := by
  have c2 : ¬ (10 : Int) < ps.length := by omega
  have are : m_are_passages [.d v] = some (.d (.bool true), [.u]) := by
    refine W_eq.mp (W_body (W_seq ?_))
    have go : ∀ ρ, ρ = [Sl.d v, Sl.u] → W (sSeq (sRet (eApp gAll (aCons (eComp [1] (iSeq (eVar 0)) (gdName 1) tAll (eCall 1 m_is_passage (aCons (eVar 1) aNil))) aNil))) sNil ρ) (BodyK 1 fun x => x = (.d (.bool true), [.u])) := fun ρ hρ => by
      subst hρ
      refine W_last ?_
      simp only [x_sRet, x_eApp, x_aCons, W_bind, W_map]
      refine W_compA Pg.d (fun _ => .bool true) ps (ρ' := [.d v, .u]) (by cases hv <;> simp) (fun t h => by simp [t.passage (hp t h)]) (by omega) ?_
      simp [all_true]
      exact BodyK.ret (by simp) rfl
    cases hv
    · simp [q_are_passages_1, c2]
      exact SeqK.nx (go _ rfl)
    · simp [q_are_passages_1, c2]
      exact SeqK.nx (go _ rfl)
  refine W_eq.mp (W_body (W_seq ?_))
  simp [are]
  refine SeqK.nx (W_last ?_)
  simp
  exact BodyK.ret (by simp) rfl
end K9
end PK92G
section PK92Hh
set_option maxHeartbeats 2000000
open PySem PySem.Spec PyProof.Rows L2 DL
namespace K9
/-! when a ticket covers passages -/
def at' (o : Pg) (m : Int) : Bool := decide (o.b ≤ m) && decide (m < o.e)
def cnt (ps : List Pg) (m : Int) : Int := (ps.filter fun o => at' o m).length
def minB : List Pg → Int
  | [] => 0
  | p :: ps => minI p.b (ps.map Pg.b)
def inZ (t : Tk) (p : Pg) : Bool := p.zones.all fun z => decide (z ∈ t.zones)
def okAt (t : Tk) (m : Int) (p : Pg) : Bool := !decide (t.minutes ≤ p.b - m) && inZ t p
def covB (t : Tk) (ps : List Pg) : Bool := (ps.all (okAt t (minB ps))) && ps.all fun p => decide (cnt ps p.b ≤ t.persons)
def most (ps : List Pg) (qs : List Pg) : Int := qs.foldl (fun f p => if cnt ps p.b > f then cnt ps p.b else f) 0
theorem most_le (ps : List Pg) (k : Int) : ∀ (qs : List Pg) (f : Int), qs.foldl (fun f p => if cnt ps p.b > f then cnt ps p.b else f) f ≤ k ↔ f ≤ k ∧ ∀ p ∈ qs, cnt ps p.b ≤ k
  | [], f => by simp
  | q :: qs, f => by
    rw [List.foldl_cons, most_le ps k qs]
    constructor
    · rintro ⟨h1, h2⟩
      refine ⟨by split at h1 <;> omega, fun p hp => ?_⟩
      rcases List.mem_cons.mp hp with rfl | hp
      · split at h1 <;> omega
      · exact h2 p hp
    · rintro ⟨h1, h2⟩
      have := h2 q List.mem_cons_self
      exact ⟨by split <;> omega, fun p hp => h2 p (List.mem_cons_of_mem _ hp)⟩
theorem take_at {α : Type} {xs : List α} {i : Nat} {x : α} (h : xs[i]? = some x) : xs.take (i + 1) = xs.take i ++ [x] := by
  rw [List.take_add_one, h]
  rfl
theorem most_take (ps qs : List Pg) {i : Nat} {p : Pg} (h : qs[i]? = some p) : most ps (qs.take (i + 1)) = if cnt ps p.b > most ps (qs.take i) then cnt ps p.b else most ps (qs.take i) := by
  unfold most
  rw [take_at h, List.foldl_append]
  rfl
theorem most_at_once_v (ps : List Pg) (hz : ps.length ≤ 1000) : m_most_at_once [.d (.list (ps.map Pg.d))] = some (.d (.int (most ps ps)), [.u]) := by
  refine W_eq.mp (W_body (W_seq ?_))
  simp
  refine SeqK.nx (W_seq ?_)
  simp [sFor]
  have key := for_nx (gd := gdTup 3 (gdCons (gdName 2) (gdCons (gdName 3) (gdCons (gdName 4) gdNil)))) (g := l_most_at_once_2) Pg.d (fun i ρ => ∃ s2 s3 s4 s5, ρ = [.d (.list (ps.map Pg.d)), .d (.int (most ps (ps.take i))), s2, s3, s4, s5, .u]) (xs := ps) (ρ := [.d (.list (ps.map Pg.d)), .d (.int 0), .u, .u, .u, .u, .u]) ⟨_, _, _, _, rfl⟩ fun i p hp ρ h => by
    obtain ⟨s2, s3, s4, s5, rfl⟩ := h
    simp [Pg.d, l_most_at_once_2]
    refine W_seq ?_
    simp only [q_most_at_once_1, x_sSet, W_map]
    refine W_comp Pg.d (fun o => at' o p.b) Pg.d ps (ρ' := [.d (.list (ps.map Pg.d)), .d (.int (most ps (ps.take i))), .d (.int p.b), .d (.int p.e), .d (zD p.zones), s5, .u]) (by simp) (fun o ho => ?_) (by omega) ?_
    · simp [Pg.d]
      by_cases h : o.b ≤ p.b <;> simp [h, at']
    · simp
      refine SeqK.nx (W_last ?_)
      simp
      rw [most_take ps ps hp]
      rfl
  refine key.mono fun o ⟨ρ', h1, s2, s3, s4, s5, h2⟩ => ?_
  subst h1 h2
  refine SeqK.nx (W_last ?_)
  simp
  exact BodyK.ret (by simp) rfl
theorem zD_in (z : Int) (t : Tk) : gIn true (.int z) (zD t.zones) = some (.d (.bool (!decide (z ∈ t.zones)))) := by
  unfold zD
  rw [in_ints]
  simp
theorem does_cover_v (t : Tk) (ps : List Pg) (h0 : ps ≠ []) (hz : ps.length ≤ 1000) (hzo : ∀ p ∈ ps, p.zones.length ≤ 10000) (hn : 0 ≤ t.persons) : m_does_cover [.d t.d, .d (.list (ps.map Pg.d))] = some (.d (.bool (covB t ps)), [.u, .u]) := by
  refine W_eq.mp (W_body (W_seq ?_))
  simp only [x_sSet, x_eApp, x_aCons, W_bind, W_map]
  refine W_compA Pg.d (fun p => .int p.b) ps (ρ' := [.d t.d, .d (.list (ps.map Pg.d)), .u, .u, .u, .u, .u, .u]) (by simp) (fun p hp => by simp [Pg.d]) (by omega) ?_
  have hm : gMin [.list (ps.map fun p => PyData.int p.b)] = some (.d (.int (minB ps))) := by
    cases ps with
    | nil => exact absurd rfl h0
    | cons p ps =>
      have := min_L p.b (ps.map Pg.b)
      simp only [List.map_cons, List.map_map] at this
      exact this
  simp [hm]
  refine SeqK.nx (W_seq ?_)
  simp [sFor]
  have key := for_gen (gd := gdTup 3 (gdCons (gdName 3) (gdCons (gdName 4) (gdCons (gdName 5) gdNil)))) (g := l_does_cover_2) Pg.d (fun i ρ => (∀ p ∈ ps.take i, okAt t (minB ps) p = true) ∧ ∃ s3 s4 s5, ρ = [.d t.d, .d (.list (ps.map Pg.d)), .d (.int (minB ps)), s3, s4, s5, .u, .u])
    (fun i r ρ => r = .d (.bool false) ∧ (∃ p ∈ ps, okAt t (minB ps) p = false) ∧ ∃ s2 s3 s4 s5 s6 s7, ρ = [.d t.d, .d (.list (ps.map Pg.d)), s2, s3, s4, s5, s6, s7]) ps 0 [.d t.d, .d (.list (ps.map Pg.d)), .d (.int (minB ps)), .u, .u, .u, .u, .u] ⟨by simp, _, _, _, rfl⟩ fun i p hp ρ h => by
    obtain ⟨hall, s3, s4, s5, rfl⟩ := h
    have hpm := List.mem_of_getElem? hp
    simp only [Nat.zero_add] at hall ⊢
    simp [Pg.d, l_does_cover_2]
    refine W_last ?_
    have ix2 : gIx t.d (.int 2) = some (.d (.int t.minutes)) := by simp [Tk.d]
    have ix3 : gIx t.d (.int 3) = some (.d (zD t.zones)) := by simp [Tk.d]
    by_cases hc : t.minutes ≤ p.b - minB ps
    · simp [q_does_cover_1, ix2, hc]
      refine W_last ?_
      simp
      exact ⟨p, hpm, by simp [okAt, hc]⟩
    · simp [q_does_cover_1, ix2, hc]
      refine W_compA .int (fun z => .bool (!decide (z ∈ t.zones))) p.zones (ρ' := [.d t.d, .d (.list (ps.map Pg.d)), .d (.int (minB ps)), .d (.int p.b), .d (.int p.e), .d (zD p.zones), .u, .u]) (by simp [zD]) (fun z hz => by simp [ix3, zD_in]) (hzo p hpm) ?_
      have e : gAny [.list (p.zones.map fun z => PyData.bool (!decide (z ∈ t.zones)))] = some (.d (.bool (!inZ t p))) := by
        rw [any_M]
        unfold inZ
        rw [List.not_all_eq_any_not]
      cases hin : inZ t p with
      | true =>
        simp [e, hin]
        rw [take_at hp]
        intro q hq
        rcases List.mem_append.mp hq with hq | hq
        · exact hall q hq
        · rw [List.mem_singleton.mp hq]; simp [okAt, hc, hin]
      | false =>
        simp [e, hin]
        refine W_last ?_
        simp
        exact ⟨p, hpm, by simp [okAt, hin]⟩
  have ix4 : gIx t.d (.int 4) = some (.d (.int t.persons)) := by simp [Tk.d]
  refine key.mono fun o h => ?_
  rcases h with ⟨ρ', rfl, hall, s3, s4, s5, rfl⟩ | ⟨i, r, ρ', hi, rfl, rfl, ⟨p, hp, hb⟩, s2, s3, s4, s5, s6, s7, rfl⟩
  · refine SeqK.nx (W_last ?_)
    simp [most_at_once_v ps hz, ix4]
    refine BodyK.ret (by simp) ?_
    have e : covB t ps = decide (most ps ps ≤ t.persons) := by
      have h1 : ps.all (okAt t (minB ps)) = true := List.all_eq_true.mpr fun p hp => hall p (by simpa using hp)
      unfold covB
      rw [h1, Bool.true_and, Bool.eq_iff_iff, decide_eq_true_eq, List.all_eq_true]
      have := most_le ps t.persons ps 0
      unfold most
      rw [this]
      simp [hn]
    simp [keepP, e]
  · have e : covB t ps = false := by
      unfold covB
      rw [Bool.and_eq_false_iff]
      exact .inl (List.all_eq_false.mpr ⟨p, hp, by simp [hb]⟩)
    exact SeqK.ret (BodyK.ret (by simp) (by simp [keepP, e]))
end K9
end PK92Hh
section PK92I
set_option maxHeartbeats 2000000
open PySem PySem.Spec PyProof.Rows L2 DL
namespace K9
def bsOf (ps : List Pg) : List PyData := ps.map fun p => PyData.int p.b
theorem min_bs {ps : List Pg} (h : ps ≠ []) : gMin [.list (bsOf ps)] = some (.d (.int (minB ps))) := by
  cases ps with
  | nil => exact absurd rfl h
  | cons p ps =>
    have := min_L p.b (ps.map Pg.b)
    simp only [List.map_cons, List.map_map] at this
    exact this
def LcS (t : Tk) (ps : List Pg) (s7 s8 s9 s10 : Sl) : Rho := [.d t.d, .d (.list (ps.map Pg.d)), .d (.str "ticket"), .d (.int t.price), .d (.int t.minutes), .d (zD t.zones), .d (.int t.persons), s7, s8, s9, s10, .u, .u]
def LcI (t : Tk) (ps : List Pg) (i : Nat) (ρ : Rho) : Prop := (∀ p ∈ ps.take i, okAt t (minB ps) p = true) ∧ ∃ s7 s8 s9 s10, (s7 = .l (bsOf ps) ∨ s7 = .d (.list (bsOf ps))) ∧ ρ = LcS t ps s7 s8 s9 s10
def LcR (t : Tk) (ps : List Pg) (i : Nat) (r : Rs) (ρ : Rho) : Prop := r = .d (.bool false) ∧ (∃ p ∈ ps, okAt t (minB ps) p = false) ∧ ∃ s7 s8 s9 s10, ρ = LcS t ps s7 s8 s9 s10
theorem lc_turn (t : Tk) (ps : List Pg) (hzo : ∀ p ∈ ps, p.zones.length ≤ 1000) (i : Nat) (p : Pg) (hp : ps[i]? = some p) (ρ : Rho) (h : LcI t ps i ρ) : W (gdTup 3 (gdCons (gdName 8) (gdCons (gdName 9) (gdCons (gdName 10) gdNil))) (.d p.d) ρ) fun ρ1 => W (l__law_covers_2 ρ1) fun
      | .nx ρ2 => LcI t ps (i + 1) ρ2
      | .ct ρ2 => LcI t ps (i + 1) ρ2
      | .ret r ρ2 => LcR t ps i r ρ2
      | .bk _ => False := by
  obtain ⟨hall, s7, s8, s9, s10, h7, rfl⟩ := h
  have hpm := List.mem_of_getElem? hp
  have hm := min_bs (List.ne_nil_of_mem hpm)
  have e := ne_nil (xs := (p.zones.filter fun z => !decide (z ∈ t.zones)).map .int) (shaped_ints _)
  have e2 : ((p.zones.filter fun z => !decide (z ∈ t.zones)).map PyData.int).isEmpty = inZ t p := by
    rw [List.isEmpty_map, Bool.eq_iff_iff, List.isEmpty_iff, List.filter_eq_nil_iff]
    simp [inZ]
  rw [e2] at e
  have good : okAt t (minB ps) p = true → LcI t ps (i + 1) (LcS t ps (.d (.list (bsOf ps))) (.d (.int p.b)) (.d (.int p.e)) (.d (zD p.zones))) := fun hk => by
    refine ⟨fun q hq => ?_, _, _, _, _, .inr rfl, rfl⟩
    rw [take_at hp] at hq
    rcases List.mem_append.mp hq with hq | hq
    · exact hall q hq
    · rw [List.mem_singleton.mp hq]; exact hk
  have bad : okAt t (minB ps) p = false → LcR t ps i (.d (.bool false)) (LcS t ps (.d (.list (bsOf ps))) (.d (.int p.b)) (.d (.int p.e)) (.d (zD p.zones))) := fun hk => ⟨rfl, ⟨p, hpm, hk⟩, _, _, _, _, rfl⟩
  rcases h7 with rfl | rfl
  all_goals
    simp [Pg.d, l__law_covers_2, LcS]
    refine W_last ?_
    by_cases hc : t.minutes ≤ p.b - minB ps
    · simp [q__law_covers_1, hm, hc]
      refine W_last ?_
      simp
      exact bad (by simp [okAt, hc])
    · simp [q__law_covers_1, hm, hc]
      refine W_comp .int (fun z => !decide (z ∈ t.zones)) .int p.zones (ρ' := LcS t ps (.d (.list (bsOf ps))) (.d (.int p.b)) (.d (.int p.e)) (.d (zD p.zones))) (by simp [zD, LcS]) (fun z hz => by simp [zD_in, LcS]) (Nat.le_trans (hzo p hpm) (by omega)) ?_
      simp [LcS]
      cases hin : inZ t p with
      | true =>
        rw [hin] at e
        simp at e
        simp [e]
        exact good (by simp [okAt, hc, hin])
      | false =>
        rw [hin] at e
        simp at e
        simp [e]
        refine W_last ?_
        simp
        exact bad (by simp [okAt, hin])
theorem law_covers_v (t : Tk) (ps : List Pg) (hz : ps.length ≤ 1000) (hzo : ∀ p ∈ ps, p.zones.length ≤ 1000) : m__law_covers [.d t.d, .d (.list (ps.map Pg.d))] = some (.d (.bool (covB t ps)), [.u, .u]) := by
  refine W_eq.mp (W_body (W_seq ?_))
  simp [Tk.d]
  refine SeqK.nx (W_seq ?_)
  simp only [x_sSet, W_map]
  refine W_compA Pg.d (fun p => .int p.b) ps (ρ' := LcS t ps .u .u .u .u) (by simp [Tk.d, LcS]) (fun p hp => by simp [Pg.d, LcS]) (by omega) ?_
  simp [LcS]
  refine SeqK.nx (W_seq ?_)
  simp [sFor]
  have key := for_gen (gd := gdTup 3 (gdCons (gdName 8) (gdCons (gdName 9) (gdCons (gdName 10) gdNil)))) (g := l__law_covers_2) Pg.d (LcI t ps) (LcR t ps) ps 0 (LcS t ps (.l (bsOf ps)) .u .u .u) ⟨by simp, _, _, _, _, .inl rfl, rfl⟩ fun i p hp ρ h => by
    rw [Nat.zero_add] at h ⊢
    exact lc_turn t ps hzo i p hp ρ h
  refine key.mono fun o h => ?_
  rcases h with ⟨ρ', rfl, hall, s7, s8, s9, s10, h7, rfl⟩ | ⟨i, r, ρ', hi, rfl, rfl, ⟨p, hp, hb⟩, s7, s8, s9, s10, rfl⟩
  · refine SeqK.nx (W_last ?_)
    have h1 : ps.all (okAt t (minB ps)) = true := List.all_eq_true.mpr fun p hp => hall p (by simpa using hp)
    have e : covB t ps = ps.all fun p => decide (cnt ps p.b ≤ t.persons) := by
      unfold covB
      rw [h1, Bool.true_and]
    rw [e]
    simp only [q__law_covers_3, x_sRet, x_eApp, x_aCons, W_bind, W_map]
    refine W_compI (fun i acc ρ => acc = (ps.take i).map (fun p => PyData.bool (decide (cnt ps p.b ≤ t.persons))) ∧ ∃ s8 s9 s10, ρ = LcS t ps (.d (.list (bsOf ps))) s8 s9 s10) (bsOf ps) (ρ' := LcS t ps (.d (.list (bsOf ps))) s8 s9 s10) (by rcases h7 with rfl | rfl <;> simp [LcS]) ⟨by simp, s8, s9, s10, by simp [LcS]⟩ (fun i d hd acc ρ h => ?_) fun acc ρ h => ?_
    · obtain ⟨h2, s8, s9, s10, rfl⟩ := h
      obtain ⟨q, hq, rfl⟩ : ∃ q : Pg, ps[i]? = some q ∧ d = .int q.b := by
        unfold bsOf at hd
        rw [List.getElem?_map] at hd
        cases z : ps[i]? with
        | none => rw [z] at hd; cases hd
        | some q => rw [z] at hd; exact ⟨q, rfl, (Option.some.inj hd).symm⟩
      simp [LcS]
      refine W_comp Pg.d (fun o => at' o q.b) (fun _ => .int 1) ps (ρ' := [.d t.d, .d (.list (ps.map Pg.d)), .d (.str "ticket"), .d (.int t.price), .d (.int t.minutes), .d (zD t.zones), .d (.int t.persons), .d (.list (bsOf ps)), s8, s9, s10, .u, .d (.int q.b)]) (by simp) (fun o ho => ?_) (by omega) ?_
      · simp [Pg.d]
        by_cases h : o.b ≤ q.b <;> simp [h, at']
      · have hlt := (List.getElem?_eq_some_iff.mp hq).1
        have hc : ((ps.filter fun o => at' o q.b).length : Int) = cnt ps q.b := rfl
        simp [hc, h2]
        refine ⟨small_lt (by omega), ?_⟩
        rw [← List.map_take, ← List.map_take, take_at hq, List.map_append]
        rfl
    · obtain ⟨h2, s8, s9, s10, rfl⟩ := h
      have hl : (bsOf ps).length = ps.length := by simp [bsOf]
      rw [hl, List.take_length] at h2
      subst h2
      simp [all_M]
      exact BodyK.ret (by simp [LcS]) (by simp [LcS, keepP])
  · have e : covB t ps = false := by
      unfold covB
      rw [Bool.and_eq_false_iff]
      exact .inl (List.all_eq_false.mpr ⟨p, hp, by simp [hb]⟩)
    exact SeqK.ret (BodyK.ret (by simp [LcS]) (by simp [keepP, e, LcS]))
end K9
end PK92I
section PK92J
set_option maxHeartbeats 2000000
open PySem PySem.Spec PyProof.Rows L2 DL
namespace K9
def optD : Option Int → PyData
  | none => .none
  | some i => .int i
def minO : List Int → Option Int
  | [] => none
  | n :: ns => some (minI n ns)
def sgl (ts : List Tk) (ps : List Pg) : Option Int := minO ((ts.filter fun t => covB t ps).map Tk.price)
end K9
end PK92J
section PK92K
set_option maxHeartbeats 2000000
open PySem PySem.Spec PyProof.Rows L2 DL
namespace K9
/-! places of a number -/
def natD (n : Nat) : PyData := .int (n : Int)
def plk (n p : Nat) : List Nat := (List.range p).filter fun j => n.testBit j
/-- the places of a number below 2 ^ 20 -/
def plc (n : Nat) : List Nat := plk n 20
theorem plk_stop {n p q : Nat} (h : n < 2 ^ p) (hq : p ≤ q) : plk n q = plk n p := by
  induction hq with
  | refl => rfl
  | @step q hq ih =>
    have : n.testBit q = false := Nat.testBit_lt_two_pow (Nat.lt_of_lt_of_le h (Nat.pow_le_pow_right (by omega) hq))
    unfold plk at ih ⊢
    rw [List.range_succ, List.filter_append, ih]
    simp [this]
theorem plk_eq {n p : Nat} (h : n < 2 ^ p) (hp : p ≤ 20) : plk n p = plc n := (plk_stop h hp).symm
theorem plk_succ (n p : Nat) : plk n (p + 1) = plk n p ++ if n.testBit p = true then [p] else [] := by
  unfold plk
  rw [List.range_succ, List.filter_append]
  cases h : n.testBit p <;> simp [h]
theorem shr_nat (n p : Nat) : gShr (.int n) (.int p) = some (.d (.int ((n / 2 ^ p : Nat) : Int))) := by
  unfold gShr gI
  simp only
  rw [if_pos (by simp)]
  simp
theorem plk_len (n p : Nat) : (plk n p).length ≤ p := by
  unfold plk
  exact Nat.le_trans (List.length_filter_le _ _) (by simp)
def PlI (n m : Nat) (ρ : Rho) : Prop := ∃ p : Nat, m = n / 2 ^ p ∧ p ≤ 20 ∧ ρ = [.d (.int n), .l ((plk n p).map natD), .d (.int p)]
def PlP (n : Nat) (ρ : Rho) : Prop := ∃ p : Nat, ρ = [.d (.int n), .l ((plc n).map natD), .d (.int p)]
theorem places_in_v (n : Nat) (h : n < 2 ^ 20) : m_places_in [.d (natD n)] = some (.l ((plc n).map natD), [.u]) := by
  refine W_eq.mp (W_body (W_seq ?_))
  simp [natD]
  refine SeqK.nx (W_seq ?_)
  have key := while_run (t := tVal (eBin gGt (eBin gShr (eVar 0) (eVar 2)) (eK (.int 0)))) (g := l_places_in_2) (PlI n) (PlP n) (fun m ρ hm => ?_) (n / 2 ^ 0) [.d (.int n), .l [], .d (.int 0)] ⟨0, rfl, by omega, rfl⟩
  · refine key.mono fun o ⟨ρ', h1, p, h2⟩ => ?_
    subst h1 h2
    refine SeqK.nx (W_last ?_)
    simp
    exact BodyK.ret (by simp) rfl
  · obtain ⟨p, h1, h2, rfl⟩ := hm
    have hs := shr_nat n p
    obtain ⟨q, hq⟩ : ∃ q, q = n / 2 ^ p := ⟨_, rfl⟩
    rw [← hq] at hs
    have hb : gEq (.int (Builtin.bitAnd (q : Int) 1)) (.int 1) = some (.d (.bool (n.testBit p))) := by
      rw [bitAnd_m1, x_eqI, Nat.testBit_eq_decide_div_mod_eq, hq]
      congr 3
      simp only [decide_eq_decide]
      omega
    by_cases hpos : 0 < q
    · have hp : p < 20 := by
        by_cases hc : p < 20
        · exact hc
        · have e : p = 20 := by omega
          subst e
          rw [Nat.div_eq_of_lt h] at hq
          omega
      have nxt : n / 2 ^ (p + 1) < m := by
        rw [h1, Nat.pow_succ, ← Nat.div_div_eq_div_mul, ← hq]
        omega
      have go : ∀ xs : List PyData, xs = (plk n (p + 1)).map natD → W (sSeq (sSet 2 (eBin gAdd (eVar 2) (eK (.int 1)))) sNil [.d (.int n), .l xs, .d (.int p)]) fun
          | .nx ρ2 => ∃ m', m' < m ∧ PlI n m' ρ2
          | _ => False := fun xs hx => by
        refine W_last ?_
        simp
        exact ⟨_, nxt, p + 1, rfl, by omega, by rw [hx]; rfl⟩
      simp [hs, hpos]
      refine W_seq ?_
      have hl : (plk n p).length < sizeLine := small_lt (by have := plk_len n p; omega)
      cases hbit : n.testBit p with
      | true =>
        rw [hbit] at hb
        simp [q_places_in_1, hs, hb]
        refine W_last ?_
        simp [hl]
        refine SeqK.nx (go _ ?_)
        rw [plk_succ, hbit, if_pos rfl, List.map_append]
        rfl
      | false =>
        rw [hbit] at hb
        simp [q_places_in_1, hs, hb]
        refine SeqK.nx (go _ ?_)
        rw [plk_succ, hbit, if_neg (by simp), List.append_nil]
    · simp [hs, hpos]
      have h0 : q = 0 := by omega
      have hlt : n < 2 ^ p := by
        rw [h0] at hq
        exact Nat.lt_of_div_eq_zero (Nat.pow_pos (by omega)) hq.symm
      exact ⟨p, by rw [plk_eq hlt h2]⟩
end K9
end PK92K
section PK92L
set_option maxHeartbeats 2000000
open PySem PySem.Spec PyProof.Rows L2 DL
namespace K9
/-! parts of a number: the numbers whose places are among its -/
def Sub (s n : Nat) : Prop := s &&& n = s
theorem sub_bits {s n : Nat} : Sub s n ↔ ∀ i, s.testBit i = true → n.testBit i = true := by
  unfold Sub
  constructor
  · intro h i hi
    rw [← h, Nat.testBit_and] at hi
    exact (Bool.and_eq_true_iff.mp hi).2
  · intro h
    apply Nat.eq_of_testBit_eq
    intro i
    rw [Nat.testBit_and]
    cases hs : s.testBit i with
    | false => rfl
    | true => rw [h i hs]; rfl
theorem sub_le {s n : Nat} (h : Sub s n) : s ≤ n := by
  rw [← h]
  exact Nat.and_le_right
theorem sub_half {s n : Nat} (h : Sub s n) : Sub (s / 2) (n / 2) := by
  rw [sub_bits] at h ⊢
  intro i hi
  rw [Nat.testBit_div_two] at hi ⊢
  exact h _ hi
theorem sub_odd {s n : Nat} (h : Sub s n) (hs : s % 2 = 1) : n % 2 = 1 := by
  have := sub_bits.mp h 0
  simp only [Nat.testBit_zero, decide_eq_true_eq] at this
  exact this hs
/-- the next smaller part is the greatest that is smaller -/
theorem next_part : ∀ (n x s : Nat), Sub x n → Sub s n → s < x → s ≤ (x - 1) &&& n := by
  intro n
  induction n using Nat.strongRecOn with
  | ind n ih =>
    intro x s hx hs hlt
    by_cases hn : n = 0
    · subst hn
      have := sub_le hx
      omega
    · have d1 : ((x - 1) &&& n) / 2 = (x - 1) / 2 &&& n / 2 := Nat.and_div_two
      have hx2 := sub_half hx
      have hs2 := sub_half hs
      have m1 : ((x - 1) &&& n) % 2 = 1 ↔ (x - 1) % 2 = 1 ∧ n % 2 = 1 := Nat.and_mod_two_eq_one
      have ih2 := ih (n / 2) (by omega) (x / 2) (s / 2) hx2 hs2
      by_cases ox : x % 2 = 1
      · -- x - 1 has the halves of x
        have e : (x - 1) / 2 = x / 2 := by omega
        rw [e, hx2] at d1
        omega
      · have hlt2 : s / 2 < x / 2 := by omega
        have := ih2 hlt2
        have e : (x - 1) / 2 = x / 2 - 1 := by omega
        rw [e] at d1
        rw [← d1] at this
        by_cases os : s % 2 = 1
        · have on := sub_odd hs os
          have : ((x - 1) &&& n) % 2 = 1 := m1.mpr ⟨by omega, on⟩
          omega
        · omega
theorem sub_next {x n : Nat} : Sub ((x - 1) &&& n) n := by
  unfold Sub
  rw [Nat.and_assoc, Nat.and_self]
theorem next_lt {x n : Nat} (h : 0 < x) : (x - 1) &&& n < x := Nat.lt_of_le_of_lt Nat.and_le_left (by omega)
theorem add_or : ∀ (a b : Nat), a &&& b = 0 → a + b = a ||| b := by
  intro a
  induction a using Nat.strongRecOn with
  | ind a ih =>
    intro b h
    by_cases ha : a = 0
    · subst ha; simp
    · have h2 : a / 2 &&& b / 2 = 0 := by rw [← Nat.and_div_two, h]
      have i2 := ih (a / 2) (by omega) (b / 2) h2
      have d : (a ||| b) / 2 = a / 2 ||| b / 2 := Nat.or_div_two
      have m : (a ||| b) % 2 = 1 ↔ a % 2 = 1 ∨ b % 2 = 1 := Nat.or_mod_two_eq_one
      have c : ¬ (a % 2 = 1 ∧ b % 2 = 1) := fun z => by
        have := (Nat.and_mod_two_eq_one (a := a) (b := b)).mpr z
        rw [h] at this
        omega
      omega
/-- what is left when a part is taken out -/
theorem sub_minus {s n : Nat} (h : Sub s n) (i : Nat) : (n - s).testBit i = (n.testBit i && !s.testBit i) := by
  have hb := sub_bits.mp h
  have e1 : s &&& (n ^^^ s) = 0 := by
    apply Nat.eq_of_testBit_eq
    intro i
    rw [Nat.testBit_and, Nat.testBit_xor]
    cases hs : s.testBit i with
    | false => simp
    | true => rw [hb i hs]; simp
  have e2 : s ||| (n ^^^ s) = n := by
    apply Nat.eq_of_testBit_eq
    intro i
    rw [Nat.testBit_or, Nat.testBit_xor]
    cases hs : s.testBit i with
    | false => simp
    | true => rw [hb i hs]; simp
  have e3 := add_or s (n ^^^ s) e1
  rw [e2] at e3
  have e4 : n - s = n ^^^ s := by omega
  rw [e4, Nat.testBit_xor]
  cases hs : s.testBit i with
  | false => simp
  | true => rw [hb i hs]; rfl
theorem sub_add {s r : Nat} (h : s &&& r = 0) (i : Nat) : (s + r).testBit i = (s.testBit i || r.testBit i) := by
  rw [add_or s r h, Nat.testBit_or]
theorem pow_sub {n j : Nat} (h : n.testBit j = true) : Sub (2 ^ j) n := sub_bits.mpr fun i hi => by
  rw [Nat.testBit_two_pow, decide_eq_true_eq] at hi
  rw [← hi]
  exact h
theorem disj {a b : Nat} (h : ∀ i, a.testBit i = true → b.testBit i = false) : a &&& b = 0 := by
  apply Nat.eq_of_testBit_eq
  intro i
  rw [Nat.testBit_and, Nat.zero_testBit]
  cases ha : a.testBit i with
  | false => rfl
  | true => rw [h i ha]; rfl
/-- the parts of n that hold the place j -/
def HasPart (n j P : Nat) : Prop := Sub P n ∧ P.testBit j = true
theorem part_iff {n j P : Nat} (h : n.testBit j = true) : HasPart n j P ↔ ∃ s, Sub s (n - 2 ^ j) ∧ P = s + 2 ^ j := by
  have hp := pow_sub h
  constructor
  · rintro ⟨h1, h2⟩
    refine ⟨P - 2 ^ j, sub_bits.mpr fun i hi => ?_, ?_⟩
    · rw [sub_minus (pow_sub h2)] at hi
      rw [sub_minus hp]
      have := Bool.and_eq_true_iff.mp hi
      rw [sub_bits.mp h1 i this.1, this.2]
      rfl
    · have := sub_le (pow_sub h2)
      omega
  · rintro ⟨s, h1, rfl⟩
    have hd : s &&& 2 ^ j = 0 := disj fun i hi => by
      have := sub_bits.mp h1 i hi
      rw [sub_minus hp] at this
      simpa using (Bool.and_eq_true_iff.mp this).2
    refine ⟨sub_bits.mpr fun i hi => ?_, ?_⟩
    · rw [sub_add hd] at hi
      rcases Bool.or_eq_true_iff.mp hi with hi | hi
      · have := sub_bits.mp h1 i hi
        rw [sub_minus hp] at this
        exact (Bool.and_eq_true_iff.mp this).1
      · exact sub_bits.mp hp i hi
    · rw [sub_add hd, Nat.testBit_two_pow]
      simp
end K9
end PK92L
section PK92M
set_option maxHeartbeats 2000000
open PySem PySem.Spec PyProof.Rows L2 DL
namespace K9
theorem shl_one (j : Nat) (h : j ≤ 1000) : gShl (.int 1) (.int j) = some (.d (natD (2 ^ j))) := by
  have hc : cPow 1 (j : Int) = true := by
    unfold cPow
    simp
    omega
  unfold gShl gI
  simp only [hc, if_true]
  simp [natD]
def PtI (r j n m : Nat) (ρ : Rho) : Prop := ∃ fs : List Nat, Sub m r ∧ (∀ P, P ∈ fs ↔ ∃ s, Sub s r ∧ m < s ∧ P = s + 2 ^ j) ∧ fs.length + m ≤ r ∧ ρ = [.d (natD n), .d (natD j), .d (natD r), .l (fs.map natD), .d (natD m)]
def PtP (r j n : Nat) (ρ : Rho) : Prop := PtI r j n 0 ρ
theorem nat_lt_small {k : Nat} (h : k < 4096) : k < sizeLine := by rw [sizeLine_eq]; omega
theorem parts_with_v (n j : Nat) (hn : n < 2048) (hj : n.testBit j = true) (hj2 : j ≤ 20) : ∃ ps : List Nat, (∀ P, P ∈ ps ↔ HasPart n j P) ∧ m_parts_with [.d (natD n), .d (natD j)] = some (.l (ps.map natD), [.u, .u]) := by
  have hp := sub_le (pow_sub hj)
  obtain ⟨r, hr⟩ : ∃ r, r = n - 2 ^ j := ⟨_, rfl⟩
  have hr2 : r ≤ n := hr ▸ Nat.sub_le _ _
  have hsub : DL.gSub (natD n) (natD (2 ^ j)) = some (.d (natD r)) := by
    unfold natD
    rw [x_subI]
    congr 3
    omega
  suffices h : W (m_parts_with [.d (natD n), .d (natD j)]) fun x => ∃ ps : List Nat, (∀ P, P ∈ ps ↔ HasPart n j P) ∧ x = (.l (ps.map natD), [.u, .u]) by
    obtain ⟨x, e, ps, h1, rfl⟩ := h
    exact ⟨ps, h1, e⟩
  have hs : gShl (.int 1) (natD j) = some (.d (natD (2 ^ j))) := shl_one j (by omega)
  refine W_body (W_seq ?_)
  simp [hs, hsub]
  refine SeqK.nx (W_seq ?_)
  simp
  refine SeqK.nx (W_seq ?_)
  have key := while_run (t := tVal (eBin gGt (eVar 4) (eK (.int 0)))) (g := l_parts_with_1) (PtI r j n) (PtP r j n) (fun m ρ hm => ?_) r [.d (natD n), .d (natD j), .d (natD r), .l [], .d (natD r)]
    ⟨[], sub_bits.mpr fun _ h => h, fun P => ⟨fun h => (by cases h), fun ⟨s, h1, h2, h3⟩ => by have := sub_le h1; omega⟩, by simp, rfl⟩
  · refine key.mono fun o ⟨ρ', h1, fs, h2, h3, h4, h5⟩ => ?_
    subst h1 h5
    refine SeqK.nx (W_last ?_)
    have hl : (fs.map natD).length + ([natD (2 ^ j)] : List PyData).length ≤ sizeLine := by
      have := nat_lt_small (show fs.length + 1 < 4096 by omega)
      simp only [List.length_map, List.length_cons, List.length_nil]
      omega
    have ha : gAdd (.list (fs.map natD)) (.list [natD (2 ^ j)]) = some (.l (fs.map natD ++ [natD (2 ^ j)])) := if_pos hl
    simp [hs, ha]
    refine BodyK.ret (by simp) ⟨fs ++ [2 ^ j], fun P => ?_, by simp [keepP]⟩
    rw [List.mem_append, List.mem_singleton, h3 P, part_iff hj, ← hr]
    constructor
    · rintro (⟨s, h1, h2, h3⟩ | h)
      · exact ⟨s, h1, h3⟩
      · exact ⟨0, by simp [Sub], by omega⟩
    · rintro ⟨s, h1, h3⟩
      by_cases h0 : s = 0
      · right; omega
      · left; exact ⟨s, h1, by omega, h3⟩
  · obtain ⟨fs, h2, h3, h4, rfl⟩ := hm
    by_cases hpos : 0 < m
    · have hpos' : (0 : Int) < (m : Int) := by omega
      have hl : fs.length < sizeLine := nat_lt_small (by omega)
      have ha : gAdd (natD m) (natD (2 ^ j)) = some (.d (natD (m + 2 ^ j))) := by
        unfold natD
        rw [x_addI]
        congr 3
      have hsb : DL.gSub (natD m) (.int 1) = some (.d (natD (m - 1))) := by
        unfold natD
        rw [x_subI]
        congr 3
        omega
      have hand : gAnd (natD (m - 1)) (natD r) = some (.d (natD ((m - 1) &&& r))) := by
        unfold natD
        rw [x_andI, PySem.W.os_band]
      have hgt : gGt (natD m) (.int 0) = some (.d (.bool true)) := by
        unfold natD
        rw [x_gtI, decide_eq_true hpos']
      simp [hgt, l_parts_with_1]
      refine W_seq ?_
      simp [hs, ha, hl]
      refine SeqK.nx (W_last ?_)
      simp [hsb, hand]
      refine ⟨(m - 1) &&& r, next_lt hpos, fs ++ [m + 2 ^ j], sub_next, fun P => ?_, ?_, by simp⟩
      · rw [List.mem_append, List.mem_singleton, h3 P]
        constructor
        · rintro (⟨s, q1, q2, q3⟩ | h)
          · exact ⟨s, q1, Nat.lt_of_lt_of_le (next_lt hpos) (by omega), q3⟩
          · exact ⟨m, h2, next_lt hpos, h⟩
        · rintro ⟨s, q1, q2, q3⟩
          by_cases hs : m < s
          · exact .inl ⟨s, q1, hs, q3⟩
          · by_cases he : s = m
            · right; rw [q3, he]
            · have := next_part r m s h2 q1 (by omega)
              omega
      · have := next_lt (n := r) hpos
        simp only [List.length_append, List.length_cons, List.length_nil]
        omega
    · have h0 : m = 0 := by omega
      subst h0
      have hgt : gGt (natD 0) (.int 0) = some (.d (.bool false)) := rfl
      simp [hgt]
      exact ⟨fs, h2, h3, h4, rfl⟩
end K9
end PK92M
section PK92N
set_option maxHeartbeats 2000000
open PySem PySem.Spec PyProof.Rows L2 DL
namespace K9
abbrev minP (x : Int × Int) (xs : List (Int × Int)) : Int × Int := PySem.W.minOf x xs
theorem minP_spec (xs : List (Int × Int)) : ∀ x : Int × Int, minP x xs ∈ x :: xs ∧ ∀ y ∈ x :: xs, (minP x xs).1 ≤ y.1 := by
  induction xs with
  | nil => intro x; simp [minP, PySem.W.minOf]
  | cons y ys ih =>
    intro x
    have e : minP x (y :: ys) = minP (if PySem.W.DatumOrd.lt y x = true then y else x) ys := rfl
    rw [e]
    have hlt : PySem.W.DatumOrd.lt y x = if y.1 = x.1 then decide (y.2 < x.2) else decide (y.1 < x.1) := rfl
    by_cases h : PySem.W.DatumOrd.lt y x = true
    · rw [if_pos h]
      obtain ⟨h1, h2⟩ := ih y
      refine ⟨List.mem_cons_of_mem _ h1, fun z hz => ?_⟩
      have hy := h2 y List.mem_cons_self
      rw [hlt] at h
      have : y.1 ≤ x.1 := by
        by_cases he : y.1 = x.1
        · omega
        · rw [if_neg he, decide_eq_true_eq] at h; omega
      rcases List.mem_cons.mp hz with rfl | hz
      · omega
      · exact h2 z hz
    · rw [if_neg h]
      obtain ⟨h1, h2⟩ := ih x
      have hx := h2 x List.mem_cons_self
      rw [hlt] at h
      have : x.1 ≤ y.1 := by
        by_cases he : y.1 = x.1
        · omega
        · rw [if_neg he, decide_eq_true_eq] at h; omega
      refine ⟨?_, fun z hz => ?_⟩
      · rcases List.mem_cons.mp h1 with h1 | h1
        · rw [h1]; exact List.mem_cons_self
        · exact List.mem_cons_of_mem _ (List.mem_cons_of_mem _ h1)
      · rcases List.mem_cons.mp hz with rfl | hz
        · exact hx
        · rcases List.mem_cons.mp hz with rfl | hz
          · omega
          · exact h2 z (List.mem_cons_of_mem _ hz)
theorem pairD_toD (p : Int × Int) : pairD p = PySem.W.Datum.toD p := rfl
theorem min_pairs (x : Int × Int) (xs : List (Int × Int)) : gMin [.list ((x :: xs).map pairD)] = some (.d (pairD (minP x xs))) := by
  unfold gMin
  have hd : PyData.depthAll ((x :: xs).map pairD) ≤ 60 := by
    refine Nat.le_trans (depthAll_le (n := 2) fun d hd => ?_) (by omega)
    obtain ⟨p, _, rfl⟩ := List.mem_map.mp hd
    simp [pairD, PyData.depth, PyData.depthAll]
  have ha : alikeB ((x :: xs).map pairD) = true := by
    unfold alikeB
    rw [List.all_eq_true]
    intro a ha
    rw [List.all_eq_true]
    intro b hb
    obtain ⟨p, _, rfl⟩ := List.mem_map.mp ha
    obtain ⟨q, _, rfl⟩ := List.mem_map.mp hb
    exact PySem.W.DatumOrd.alike p q
  simp only [List.map_cons] at hd ha ⊢
  rw [if_pos]
  · exact congrArg (fun d => some (Rs.d d)) (PySem.W.minD_map x xs)
  · rw [Bool.and_eq_true, Bool.and_eq_true]
    exact ⟨⟨ha, rfl⟩, decide_eq_true hd⟩
def bAt (ps : List Pg) (j : Nat) : Int := (ps[j]?.map Pg.b).getD 0
theorem plc_mem {n j : Nat} (h : n < 2 ^ 20) : j ∈ plc n ↔ n.testBit j = true := by
  unfold plc plk
  rw [List.mem_filter, List.mem_range]
  refine ⟨fun h => h.2, fun hj => ⟨?_, hj⟩⟩
  rcases Nat.lt_or_ge j 20 with h1 | h1
  · exact h1
  · rw [Nat.testBit_lt_two_pow (Nat.lt_of_lt_of_le h (Nat.pow_le_pow_right (by omega) h1))] at hj
    cases hj
theorem bit_lt {n k j : Nat} (h : n < 2 ^ k) (hj : n.testBit j = true) : j < k := by
  rcases Nat.lt_or_ge j k with h1 | h1
  · exact h1
  · rw [Nat.testBit_lt_two_pow (Nat.lt_of_lt_of_le h (Nat.pow_le_pow_right (by omega) h1))] at hj
    cases hj
theorem pow20 {n k : Nat} (h : n < 2 ^ k) (hk : k ≤ 20) : n < 2 ^ 20 := Nat.lt_of_lt_of_le h (Nat.pow_le_pow_right (by omega) hk)
theorem plc_ne {n : Nat} (h0 : 0 < n) (h : n < 2 ^ 20) : plc n ≠ [] := fun e => by
  have hz : ∀ j, n.testBit j = false := fun j => by
    cases hb : n.testBit j with
    | false => rfl
    | true => have := (plc_mem h).mpr hb; rw [e] at this; cases this
  have : n = 0 := Nat.eq_of_testBit_eq fun j => by rw [hz j]; simp
  omega
theorem ix_seq {xs : List PyData} {v : PyData} (hv : SeqOf xs v) {j : Nat} {d : PyData} (h : xs[j]? = some d) : gIx v (natD j) = some (.d d) := by
  cases hv <;> simp [natD, DL.atI_nat, h]
theorem first_in_v (ps : List Pg) {v : PyData} (hv : SeqOf (ps.map Pg.d) v) (n : Nat) (h0 : 0 < n) (h : n < 2 ^ ps.length) (hl : ps.length ≤ 10) : ∃ j, n.testBit j = true ∧ j < ps.length ∧ m_first_in [.d v, .d (natD n)] = some (.d (natD j), [.u, .u]) := by
  have h20 := pow20 h (by omega)
  obtain ⟨a, r, hr⟩ := List.exists_cons_of_ne_nil (plc_ne h0 h20)
  have hm := min_pairs (bAt ps a, (a : Int)) (r.map fun j : Nat => (bAt ps j, (j : Int)))
  obtain ⟨hs, _⟩ := minP_spec (r.map fun j : Nat => (bAt ps j, (j : Int))) (bAt ps a, (a : Int))
  obtain ⟨j, hj, hje⟩ : ∃ j : Nat, j ∈ plc n ∧ minP (bAt ps a, (a : Int)) (r.map fun j : Nat => (bAt ps j, (j : Int))) = (bAt ps j, (j : Int)) := by
    rw [← List.map_cons (f := fun j : Nat => (bAt ps j, (j : Int)))] at hs
    obtain ⟨j, h1, h2⟩ := List.mem_map.mp hs
    exact ⟨j, hr ▸ h1, h2.symm⟩
  have hb := (plc_mem h20).mp hj
  refine ⟨j, hb, bit_lt h hb, W_eq.mp (W_body (W_last ?_))⟩
  rw [hje] at hm
  have hm' : gMin [.list ((plc n).map fun j : Nat => pairD (bAt ps j, (j : Int)))] = some (.d (pairD (bAt ps j, (j : Int)))) := by
    rw [hr, ← hm]
    simp [List.map_map]
    rfl
  have hc : eComp [2] (iSeq (eCall 1 m_places_in (aCons (eVar 1) aNil))) (gdName 2) tAll (eApp gTup (aCons (eBin gIx (eBin gIx (eVar 0) (eVar 2)) (eK (.int 0))) (aCons (eVar 2) aNil))) [.d v, .d (natD n), .u] = some (.l ((plc n).map fun j : Nat => pairD (bAt ps j, (j : Int))), [.d v, .d (natD n), .u]) := by
    refine W_eq.mp (W_compA natD (fun j : Nat => pairD (bAt ps j, (j : Int))) (plc n) (ρ' := [.d v, .d (natD n), .u]) ?_ (fun j hj => ?_) ?_ ?_)
    · simp [places_in_v n h20]
    · have hj' := bit_lt h ((plc_mem h20).mp hj)
      have hi : (ps.map Pg.d)[j]? = some (ps[j].d) := by simp [hj']
      have hi2 : gIx v (.int (j : Int)) = some (.d (ps[j].d)) := ix_seq hv hi
      simp [hi2, bAt, hj', pairD, natD, Pg.d]
    · exact Nat.le_trans (plk_len n 20) (by omega)
    · rfl
  simp [q_first_in_1, hc, hm']
  simp [pairD, natD]
  exact BodyK.ret (by simp) (by simp [keepP])
end K9
end PK92N
section PK92O
set_option maxHeartbeats 2000000
open PySem PySem.Spec PyProof.Rows L2 DL
namespace K9
structure Ok (ts : List Tk) (ps : List Pg) : Prop where
  tok : ∀ t ∈ ts, t.ok
  pok : ∀ p ∈ ps, p.ok
  t1 : 1 ≤ ts.length
  t8 : ts.length ≤ 8
  p10 : ps.length ≤ 10
def pks (ps : List Pg) (js : List Nat) : List Pg := js.filterMap fun j => ps[j]?
def pgD (ps : List Pg) (j : Nat) : PyData := (ps[j]?.map Pg.d).getD .none
def tkD (ts : List Tk) (k : Nat) : PyData := (ts[k]?.map Tk.d).getD .none
theorem pgD_map (ps : List Pg) : ∀ js : List Nat, (∀ j ∈ js, j < ps.length) → js.map (pgD ps) = (pks ps js).map Pg.d
  | [], _ => rfl
  | j :: js, h => by
    have hj := h j List.mem_cons_self
    have e := pgD_map ps js fun i hi => h i (List.mem_cons_of_mem _ hi)
    simp [pks, pgD, hj]
    exact e
theorem pks_mem {ps : List Pg} {js : List Nat} {p : Pg} (h : p ∈ pks ps js) : p ∈ ps := by
  obtain ⟨j, _, hj⟩ := List.mem_filterMap.mp h
  exact List.mem_of_getElem? hj
theorem pks_len (ps : List Pg) (js : List Nat) : (pks ps js).length ≤ js.length := List.length_filterMap_le _ _
theorem pks_ne {ps : List Pg} {js : List Nat} (h : js ≠ []) (hj : ∀ j ∈ js, j < ps.length) : pks ps js ≠ [] := by
  cases js with
  | nil => exact absurd rfl h
  | cons j js =>
    have := hj j List.mem_cons_self
    simp [pks, this]
def covAt (ts : List Tk) (qs : List Pg) (k : Nat) : Bool := match ts[k]? with
  | some t => covB t qs
  | none => false
def kds (ts : List Tk) (qs : List Pg) : List Nat := (List.range ts.length).filter fun k => covAt ts qs k
theorem enum_tk (ts : List Tk) : enumD (ts.map Tk.d) = (List.range ts.length).map fun k : Nat => PyData.tuple [.int (k : Int), tkD ts k] := by
  unfold enumD
  apply List.ext_getElem?
  intro i
  by_cases h : i < ts.length <;> simp [h, tkD]
theorem enum_seq {ts : List Tk} {v : PyData} (hv : SeqOf (ts.map Tk.d) v) : enum1D [v] = some ((List.range ts.length).map fun k : Nat => PyData.tuple [.int (k : Int), tkD ts k]) := by
  cases hv <;> exact congrArg some (enum_tk ts)
def KdI (ts : List Tk) (ps : List Pg) (v u : PyData) (n k : Nat) (acc : List PyData) (ρ : Rho) : Prop := acc = ((List.range k).filter fun k => covAt ts (pks ps (plc n)) k).map natD ∧ ∃ s3, (s3 = .l ((pks ps (plc n)).map Pg.d) ∨ s3 = .d (.list ((pks ps (plc n)).map Pg.d))) ∧ ρ = [.d v, .d u, .d (natD n), s3, .u, .u, .u]
theorem kinds_v {ts : List Tk} {ps : List Pg} (ok : Ok ts ps) {v u : PyData} (hv : SeqOf (ts.map Tk.d) v) (hu : SeqOf (ps.map Pg.d) u) (n : Nat) (h0 : 0 < n) (h : n < 2 ^ ps.length) : m_kinds_that_cover [.d v, .d u, .d (natD n)] = some (.l ((kds ts (pks ps (plc n))).map natD), [.u, .u, .u]) := by
  have h20 := pow20 h (Nat.le_trans ok.p10 (by omega))
  have hlt : ∀ j ∈ plc n, j < ps.length := fun j hj => bit_lt h ((plc_mem h20).mp hj)
  have hne := pks_ne (plc_ne h0 h20) hlt
  have hlen : (pks ps (plc n)).length ≤ 1000 := Nat.le_trans (pks_len _ _) (Nat.le_trans (plk_len n 20) (by omega))
  have hzo : ∀ p ∈ pks ps (plc n), p.zones.length ≤ 10000 := fun p hp => Nat.le_trans (ok.pok p (pks_mem hp)).z.2.1 (by omega)
  refine W_eq.mp (W_body (W_seq ?_))
  simp only [x_sSet, W_map]
  refine W_compA natD (pgD ps) (plc n) (ρ' := [.d v, .d u, .d (natD n), .u, .u, .u, .u]) (by simp [places_in_v n h20]) (fun j hj => ?_) (Nat.le_trans (plk_len n 20) (by omega)) ?_
  · have hj' := hlt j hj
    have hi : (ps.map Pg.d)[j]? = some (ps[j].d) := by simp [hj']
    have hi2 : gIx u (.int (j : Int)) = some (.d (ps[j].d)) := ix_seq hu hi
    simp [natD, hi2, pgD, hj']
  · rw [pgD_map ps _ hlt]
    simp
    refine SeqK.nx (W_last ?_)
    have he := enum_seq hv
    simp only [q_kinds_that_cover_1, x_sRet, W_map]
    refine W_compI (KdI ts ps v u n) ((List.range ts.length).map fun k : Nat => PyData.tuple [.int (k : Int), tkD ts k]) (ρ' := [.d v, .d u, .d (natD n), .l ((pks ps (plc n)).map Pg.d), .u, .u, .u]) (by simp [he]) ⟨by simp, _, .inl rfl, rfl⟩ (fun k d hk acc ρ hI => ?_) fun acc ρ hI => ?_
    · obtain ⟨hk', rfl⟩ : k < ts.length ∧ d = PyData.tuple [.int (k : Int), tkD ts k] := by
        obtain ⟨hlt', he'⟩ := List.getElem?_eq_some_iff.mp hk
        simp at hlt' he'
        exact ⟨hlt', he'.symm⟩
      obtain ⟨hacc, s3, h3, rfl⟩ := hI
      have ht := ok.tok (ts[k]) (List.getElem_mem hk')
      have hd := does_cover_v ts[k] (pks ps (plc n)) hne hlen hzo (by have := ht.n.1; omega)
      have hl : acc.length < sizeLine := by
        rw [hacc, List.length_map]
        refine small_lt (Nat.lt_of_le_of_lt (List.length_filter_le _ _) ?_)
        rw [List.length_range]
        have := ok.t8
        omega
      have hr : List.range (k + 1) = List.range k ++ [k] := List.range_succ
      cases hc : covB ts[k] (pks ps (plc n)) with
      | true =>
        rw [hc] at hd
        have hI' : KdI ts ps v u n (k + 1) (acc ++ [natD k]) [.d v, .d u, .d (natD n), .d (.list ((pks ps (plc n)).map Pg.d)), .u, .u, .u] := ⟨by rw [hr, List.filter_append, List.map_append, ← hacc]; simp [covAt, hk', hc], _, .inr rfl, rfl⟩
        rcases h3 with rfl | rfl
        all_goals
          simp [tkD, hk', hd, hl]
          exact hI'
      | false =>
        rw [hc] at hd
        have hI' : KdI ts ps v u n (k + 1) acc [.d v, .d u, .d (natD n), .d (.list ((pks ps (plc n)).map Pg.d)), .u, .u, .u] := ⟨by rw [hr, List.filter_append, List.map_append, ← hacc]; simp [covAt, hk', hc], _, .inr rfl, rfl⟩
        rcases h3 with rfl | rfl
        all_goals
          simp [tkD, hk', hd, hl]
          exact hI'
    · obtain ⟨hacc, s3, h3, rfl⟩ := hI
      rw [List.length_map, List.length_range] at hacc
      subst hacc
      exact BodyK.ret (by simp) (by simp [keepP, kds])
end K9
end PK92O
section PK92P
set_option maxHeartbeats 2000000
open PySem PySem.Spec PyProof.Rows L2 DL
namespace K9
theorem minO_iff {l : List Int} {x : Int} : minO l = some x ↔ x ∈ l ∧ ∀ y ∈ l, x ≤ y := by
  cases l with
  | nil => simp [minO]
  | cons n ns =>
    obtain ⟨h1, h2⟩ := minI_le n ns
    have h3 := minI_mem n ns
    simp only [minO, Option.some.injEq]
    constructor
    · rintro rfl
      exact ⟨h3, fun y hy => by
        rcases List.mem_cons.mp hy with rfl | hy
        · exact h1
        · exact h2 y hy⟩
    · rintro ⟨h4, h5⟩
      have a := h5 _ h3
      have b : minI n ns ≤ x := by
        rcases List.mem_cons.mp h4 with rfl | h4
        · exact h1
        · exact h2 x h4
      omega
theorem minO_none {l : List Int} : minO l = none ↔ l = [] := by cases l <;> simp [minO]
def opD : Option (Int × Int) → PyData
  | none => .none
  | some p => pairD p
def LkOk (ts : List Tk) (ps : List Pg) (n : Nat) (o : Option (Int × Int)) : Prop :=
  if n = 0 then o = none else o.map Prod.fst = sgl ts (pks ps (plc n)) ∧ ∀ c k, o = some (c, k) → ∃ (i : Nat) (t : Tk), k = (i : Int) ∧ ts[i]? = some t ∧ t.price = c ∧ covB t (pks ps (plc n)) = true
theorem lk_none {ts : List Tk} {ps : List Pg} {n : Nat} (h : kds ts (pks ps (plc n)) = []) : LkOk ts ps n none := by
  unfold LkOk
  by_cases h0 : n = 0
  · simp [h0]
  rw [if_neg h0]
  refine ⟨?_, fun c k e => by cases e⟩
  symm
  unfold sgl
  rw [Option.map_none, minO_none, List.map_eq_nil_iff, List.filter_eq_nil_iff]
  intro t ht hc
  obtain ⟨i, hi, rfl⟩ := List.getElem_of_mem ht
  have : i ∈ kds ts (pks ps (plc n)) := List.mem_filter.mpr ⟨List.mem_range.mpr hi, by simp [covAt, hi, hc]⟩
  rw [h] at this
  cases this
def prAt (ts : List Tk) (k : Nat) : Int := (ts[k]?.map Tk.price).getD 0
theorem kds_mem {ts : List Tk} {qs : List Pg} {k : Nat} : k ∈ kds ts qs ↔ ∃ t, ts[k]? = some t ∧ covB t qs = true := by
  unfold kds
  rw [List.mem_filter, List.mem_range]
  unfold covAt
  constructor
  · rintro ⟨h1, h2⟩
    refine ⟨ts[k], by simp [h1], ?_⟩
    simpa [h1] using h2
  · rintro ⟨t, h1, h2⟩
    obtain ⟨h3, h4⟩ := List.getElem?_eq_some_iff.mp h1
    exact ⟨h3, by simp [h1, h2]⟩
theorem lk_some {ts : List Tk} {ps : List Pg} {n : Nat} (h0 : n ≠ 0) {a : Nat} {r : List Nat} (h : kds ts (pks ps (plc n)) = a :: r) : LkOk ts ps n (some (minP (prAt ts a, (a : Int)) (r.map fun k : Nat => (prAt ts k, (k : Int))))) := by
  obtain ⟨h1, h2⟩ := minP_spec (r.map fun k : Nat => (prAt ts k, (k : Int))) (prAt ts a, (a : Int))
  rw [← List.map_cons (f := fun k : Nat => (prAt ts k, (k : Int))), ← h] at h1 h2
  obtain ⟨k, hk, he⟩ := List.mem_map.mp h1
  rw [← he] at h2 ⊢
  obtain ⟨t, ht, hc⟩ := kds_mem.mp hk
  have hp : prAt ts k = t.price := by simp [prAt, ht]
  unfold LkOk
  rw [if_neg h0]
  refine ⟨?_, fun c q e => ?_⟩
  · symm
    unfold sgl
    rw [Option.map_some, minO_iff]
    refine ⟨List.mem_map.mpr ⟨t, List.mem_filter.mpr ⟨List.mem_of_getElem? ht, hc⟩, hp.symm⟩, fun y hy => ?_⟩
    obtain ⟨u, hu, rfl⟩ := List.mem_map.mp hy
    obtain ⟨hu1, hu2⟩ := List.mem_filter.mp hu
    obtain ⟨i, hi, rfl⟩ := List.getElem_of_mem hu1
    have := h2 (prAt ts i, (i : Int)) (List.mem_map.mpr ⟨i, kds_mem.mpr ⟨ts[i], by simp [hi], hu2⟩, rfl⟩)
    simpa [prAt, hi] using this
  · simp only [Option.some.injEq, Prod.mk.injEq] at e
    exact ⟨k, t, e.2.symm, ht, by rw [← e.1, hp], hc⟩
def LkI (ts : List Tk) (ps : List Pg) (v u : PyData) (i : Nat) (ρ : Rho) : Prop := ∃ (ls : List (Option (Int × Int))) (s3 s4 s5 : Sl), ls.length = i + 1 ∧ (∀ n o, ls[n]? = some o → LkOk ts ps n o) ∧ ρ = [.d v, .d u, .l (ls.map opD), s3, s4, s5]
theorem len_seq {xs : List PyData} {v : PyData} (hv : SeqOf xs v) : gLen [v] = some (.d (.int xs.length)) := by cases hv <;> simp
theorem pow_le {a : Nat} (h : a ≤ 10) : 2 ^ a ≤ 1024 := Nat.pow_le_pow_right (by omega) h
theorem range_pow {a : Nat} (h : a ≤ 10) : range2D [.int 1, natD (2 ^ a)] = some (rngD 1 1 (2 ^ a - 1)) := by
  have h1 := pow_le h
  have h2 := Nat.two_pow_pos a
  unfold range2D natD
  have hs : small62 1 = true := by decide
  have ht : small62 ((2 ^ a : Nat) : Int) = true := by
    unfold small62
    rw [Bool.and_eq_true, decide_eq_true_eq, decide_eq_true_eq]
    omega
  have hn : (((2 ^ a : Nat) : Int) - 1).toNat = 2 ^ a - 1 := by omega
  refine (if_pos (by rw [hs, ht]; rfl)).trans ?_
  rw [hn]
theorem optD_lay (o : Option (Int × Int)) : (opD o).canLay0 = true ∧ (opD o).depth ≤ 3 := by
  cases o <;> simp [opD, pairD, PyData.depth, PyData.depthAll, PyData.canLay0, PyData.canLayAll0]
theorem lk_turn {ts : List Tk} {ps : List Pg} (ok : Ok ts ps) {v u : PyData} (hv : SeqOf (ts.map Tk.d) v) (hu : SeqOf (ps.map Pg.d) u) (i : Nat) (hi : i < 2 ^ ps.length - 1) (ρ : Rho) (h : LkI ts ps v u i ρ) : W (gdName 3 (.d (natD (i + 1))) ρ) fun ρ1 => W (l_least_kinds_2 ρ1) fun
      | .nx ρ2 => LkI ts ps v u (i + 1) ρ2
      | _ => False := by
  obtain ⟨ls, s3, s4, s5, hlen, hls, rfl⟩ := h
  have hk := kinds_v ok hv hu (i + 1) (by omega) (by omega)
  have hsz : ls.length < sizeLine := by
    have := pow_le ok.p10
    exact nat_lt_small (by omega)
  obtain ⟨K, hK⟩ : ∃ K, K = kds ts (pks ps (plc (i + 1))) := ⟨_, rfl⟩
  rw [← hK] at hk
  have step : ∀ o s s', LkOk ts ps (i + 1) o → LkI ts ps v u (i + 1) [.d v, .d u, .l (ls.map opD ++ [opD o]), .d (natD (i + 1)), s, s'] := fun o s s' ho => by
    refine ⟨ls ++ [o], _, _, _, by simp [hlen], fun n o' hn => ?_, by rw [List.map_append]; rfl⟩
    rcases Nat.lt_or_ge n ls.length with h1 | h1
    · rw [List.getElem?_append_left h1] at hn
      exact hls n o' hn
    · rw [List.getElem?_append_right h1] at hn
      have h2 : n - ls.length = 0 := by
        rcases Nat.eq_zero_or_pos (n - ls.length) with h | h
        · exact h
        · rw [List.getElem?_eq_none (by simp; omega)] at hn; cases hn
      rw [h2] at hn
      simp at hn
      have : n = i + 1 := by omega
      rw [this, ← hn]
      exact ho
  simp [l_least_kinds_2]
  refine W_seq ?_
  simp [hk]
  refine SeqK.nx (W_last ?_)
  have e := ne_nil (xs := K.map natD) (by
    have := shaped_ints (K.map fun k : Nat => (k : Int))
    rw [List.map_map] at this
    exact this)
  cases hq : K with
  | nil =>
    rw [hq] at e
    simp at e
    simp [q_least_kinds_1, e, hsz]
    exact step none _ _ (lk_none (hK.symm.trans hq))
  | cons a r =>
    rw [hq] at e
    simp at e
    have hm := min_pairs (prAt ts a, (a : Int)) (r.map fun k : Nat => (prAt ts k, (k : Int)))
    rw [← List.map_cons (f := fun k : Nat => (prAt ts k, (k : Int))), List.map_map] at hm
    have hc : eComp [5] (iSeq (eVar 4)) (gdName 5) tAll (eApp DL.gTup (aCons (eBin gIx (eBin gIx (eVar 0) (eVar 5)) (eK (.int 1))) (aCons (eVar 5) aNil))) [.d v, .d u, .l (ls.map opD), .d (natD (i + 1)), .d (.list ((a :: r).map natD)), s5] = some (.l ((a :: r).map (pairD ∘ fun k : Nat => (prAt ts k, (k : Int)))), [.d v, .d u, .l (ls.map opD), .d (natD (i + 1)), .d (.list ((a :: r).map natD)), .u]) := by
      have hmem : ∀ k ∈ a :: r, ∃ t, ts[k]? = some t := fun k hk => by
        rw [← hq, hK] at hk
        obtain ⟨t, h1, _⟩ := kds_mem.mp hk
        exact ⟨t, h1⟩
      have hl8 : (a :: r).length ≤ 10000 := by
        rw [← hq, hK]
        unfold kds
        refine Nat.le_trans (List.length_filter_le _ _) ?_
        rw [List.length_range]
        have := ok.t8
        omega
      refine W_eq.mp (W_compA natD (pairD ∘ fun k : Nat => (prAt ts k, (k : Int))) (a :: r) (ρ' := [.d v, .d u, .l (ls.map opD), .d (natD (i + 1)), .d (.list ((a :: r).map natD)), s5]) (by simp) (fun k hk => ?_) hl8 rfl)
      obtain ⟨t, ht⟩ := hmem k hk
      have hi2 : gIx v (.int (k : Int)) = some (.d t.d) := ix_seq hv (by simp [ht])
      simp [natD, hi2, Tk.d, prAt, ht, pairD]
    simp only [List.map_cons] at hc hm
    have hm' : gMin [.list (pairD (prAt ts a, (a : Int)) :: r.map (pairD ∘ fun k : Nat => (prAt ts k, (k : Int))))] = some (.d (pairD (minP (prAt ts a, (a : Int)) (r.map fun k : Nat => (prAt ts k, (k : Int)))))) := hm
    simp [q_least_kinds_1, e, hsz, hc, hm']
    exact step (some _) _ _ (lk_some (by omega) (hK.symm.trans hq))
theorem shl_len {xs : List PyData} {v : PyData} (hv : SeqOf xs v) (h : xs.length ≤ 10) : (gLen [v]).bind (fun a => gShl (.int 1) a.data) = some (.d (natD (2 ^ xs.length))) := by
  rw [len_seq hv]
  exact shl_one xs.length (by omega)
theorem least_kinds_v {ts : List Tk} {ps : List Pg} (ok : Ok ts ps) {v u : PyData} (hv : SeqOf (ts.map Tk.d) v) (hu : SeqOf (ps.map Pg.d) u) : ∃ ls : List (Option (Int × Int)), ls.length = 2 ^ ps.length ∧ (∀ n o, ls[n]? = some o → LkOk ts ps n o) ∧ m_least_kinds [.d v, .d u] = some (.l (ls.map opD), [.u, .u]) := by
  suffices h : W (m_least_kinds [.d v, .d u]) fun x => ∃ ls : List (Option (Int × Int)), ls.length = 2 ^ ps.length ∧ (∀ n o, ls[n]? = some o → LkOk ts ps n o) ∧ x = (.l (ls.map opD), [.u, .u]) by
    obtain ⟨x, e, ls, h1, h2, rfl⟩ := h
    exact ⟨ls, h1, h2, e⟩
  have hr := range_pow ok.p10
  have hl := len_seq hu
  rw [List.length_map] at hl
  have hs := shl_one ps.length (by have := ok.p10; omega)
  have h2p := Nat.two_pow_pos ps.length
  refine W_body (W_seq ?_)
  simp
  refine SeqK.nx (W_seq ?_)
  simp [sFor, hr, hl, hs]
  have key := for_nx (gd := gdName 3) (g := l_least_kinds_2) id (LkI ts ps v u) (xs := rngD 1 1 (2 ^ ps.length - 1)) (ρ := [.d v, .d u, .l [.none], .u, .u, .u])
    ⟨[none], .u, .u, .u, rfl, (fun n o hn => by
      cases n with
      | zero => simp at hn; subst hn; simp [LkOk]
      | succ n => cases hn), rfl⟩ fun i d hd ρ h => by
      obtain ⟨hi, rfl⟩ := rngD_get hd
      have e0 : (1 : Int) + (i : Int) * 1 = ((i + 1 : Nat) : Int) := by omega
      have e : PyData.int (1 + (i : Int) * 1) = natD (i + 1) := congrArg PyData.int e0
      show W (gdName 3 (.d (.int (1 + (i : Int) * 1))) ρ) _
      rw [e]
      exact lk_turn ok hv hu i hi ρ h
  rw [List.map_id] at key
  refine key.mono fun o ⟨ρ', h1, ls, s3, s4, s5, h2, h3, h4⟩ => ?_
  subst h1 h4
  refine SeqK.nx (W_last ?_)
  simp
  refine BodyK.ret (by simp) ⟨ls, ?_, h3, by simp [keepP]⟩
  rw [h2, rngD_len]
  omega
end K9
end PK92P
section PK92Q
set_option maxHeartbeats 2000000
open PySem PySem.Spec PyProof.Rows L2 DL
namespace K9
structure Row where
  c : Int
  k : Int
  p : Int
def Row.d (r : Row) : PyData := .tuple [.int r.c, .int r.k, .int r.p]
def rowD : Option Row → PyData
  | none => .none
  | some r => r.d
def cand (ls : List (Option (Int × Int))) (rs : List (Option Row)) (n q : Nat) : Option Row := match ls[q]?, rs[n - q]? with
  | some (some (s, k)), some (some r) => some ⟨s + r.c, k, q⟩
  | _, _ => none
/-- the least of the candidates of qs -/
structure Least (ls : List (Option (Int × Int))) (rs : List (Option Row)) (n : Nat) (qs : List Nat) (o : Option Row) : Prop where
  get : ∀ r, o = some r → ∃ q ∈ qs, cand ls rs n q = some r
  low : ∀ q ∈ qs, ∀ r, cand ls rs n q = some r → ∃ r', o = some r' ∧ r'.c ≤ r.c
def rowLt (a b : Row) : Bool := HT.lexLt [a.c, a.k, a.p] [b.c, b.k, b.p]
theorem row_lt (a b : Row) : gLt a.d b.d = some (.d (.bool (rowLt a b))) := rfl
theorem rowLt_true {a b : Row} (h : rowLt a b = true) : a.c ≤ b.c := by
  unfold rowLt at h
  rw [HT.lexLt_cons] at h
  by_cases he : a.c = b.c
  · omega
  · rw [if_neg he, decide_eq_true_eq] at h; omega
theorem rowLt_false {a b : Row} (h : rowLt a b = false) : b.c ≤ a.c := by
  unfold rowLt at h
  rw [HT.lexLt_cons] at h
  by_cases he : a.c = b.c
  · omega
  · rw [if_neg he, decide_eq_false_iff_not] at h; omega
def pickRow (o : Option Row) (r : Row) : Row := match o with
  | none => r
  | some b => if rowLt r b = true then r else b
theorem least_none {ls : List (Option (Int × Int))} {rs : List (Option Row)} {n q : Nat} {qs : List Nat} {o : Option Row} (h : Least ls rs n qs o) (hc : cand ls rs n q = none) : Least ls rs n (qs ++ [q]) o := by
  refine ⟨fun r hr => ?_, fun x hx r hr => ?_⟩
  · obtain ⟨x, hx, hx2⟩ := h.get r hr
    exact ⟨x, List.mem_append_left _ hx, hx2⟩
  · rcases List.mem_append.mp hx with hx | hx
    · exact h.low x hx r hr
    · rw [List.mem_singleton] at hx
      subst hx
      rw [hc] at hr
      cases hr
theorem least_some {ls : List (Option (Int × Int))} {rs : List (Option Row)} {n q : Nat} {qs : List Nat} {o : Option Row} (h : Least ls rs n qs o) {r : Row} (hc : cand ls rs n q = some r) : Least ls rs n (qs ++ [q]) (some (pickRow o r)) := by
  have hq : q ∈ qs ++ [q] := List.mem_append_right _ (List.mem_singleton.mpr rfl)
  cases o with
  | none =>
    refine ⟨fun x hx => ⟨q, hq, by cases hx; exact hc⟩, fun x hx y hy => ⟨_, rfl, ?_⟩⟩
    rcases List.mem_append.mp hx with hx | hx
    · obtain ⟨z, hz, _⟩ := h.low x hx y hy
      cases hz
    · rw [List.mem_singleton] at hx
      subst hx
      rw [hc] at hy
      cases hy
      exact Int.le_refl _
  | some b =>
    cases hlt : rowLt r b with
    | true =>
      have e : pickRow (some b) r = r := by simp [pickRow, hlt]
      rw [e]
      refine ⟨fun x hx => ⟨q, hq, by cases hx; exact hc⟩, fun x hx y hy => ⟨_, rfl, ?_⟩⟩
      rcases List.mem_append.mp hx with hx | hx
      · obtain ⟨z, hz, hz2⟩ := h.low x hx y hy
        cases hz
        exact Int.le_trans (rowLt_true hlt) hz2
      · rw [List.mem_singleton] at hx
        subst hx
        rw [hc] at hy
        cases hy
        exact Int.le_refl _
    | false =>
      have e : pickRow (some b) r = b := by simp [pickRow, hlt]
      rw [e]
      refine ⟨fun x hx => ?_, fun x hx y hy => ⟨_, rfl, ?_⟩⟩
      · obtain ⟨z, hz, hz2⟩ := h.get x hx
        exact ⟨z, List.mem_append_left _ hz, hz2⟩
      · rcases List.mem_append.mp hx with hx | hx
        · obtain ⟨z, hz, hz2⟩ := h.low x hx y hy
          cases hz
          exact hz2
        · rw [List.mem_singleton] at hx
          subst hx
          rw [hc] at hy
          cases hy
          exact rowLt_false hlt
def LrI (v u : PyData) (ls : List (Option (Int × Int))) (rs : List (Option Row)) (n : Nat) (qs : List Nat) (i : Nat) (ρ : Rho) : Prop := ∃ (o : Option Row) (s2 s6 s7 s8 s9 s10 : Sl), (s2 = .l (ls.map opD) ∨ s2 = .d (.list (ls.map opD))) ∧ Least ls rs n (qs.take i) o ∧ ρ = [.d v, .d u, s2, .l (rs.map rowD), .d (natD n), .d (rowD o), s6, s7, s8, s9, s10]
theorem lr_turn {v u : PyData} {ls : List (Option (Int × Int))} {rs : List (Option Row)} {n : Nat} {qs : List Nat} (hls : n < ls.length) (hrs : rs.length = n) (hq : ∀ q ∈ qs, 0 < q ∧ q ≤ n) (i : Nat) (q : Nat) (hi : qs[i]? = some q) (ρ : Rho) (h : LrI v u ls rs n qs i ρ) : W (gdName 6 (.d (natD q)) ρ) fun ρ1 => W (l_least_rows_2 ρ1) fun
      | .nx ρ2 => LrI v u ls rs n qs (i + 1) ρ2
      | _ => False := by
  obtain ⟨o, s2, s6, s7, s8, s9, s10, h2, hl, rfl⟩ := h
  obtain ⟨hq0, hqn⟩ := hq q (List.mem_of_getElem? hi)
  have hq1 : q < ls.length := by omega
  have hr1 : n - q < rs.length := by omega
  obtain ⟨so, hso⟩ : ∃ so, ls[q]? = some so := ⟨ls[q], by simp [hq1]⟩
  obtain ⟨ro, hro⟩ : ∃ ro, rs[n - q]? = some ro := ⟨rs[n - q], by simp [hr1]⟩
  have hsub : DL.gSub (natD n) (natD q) = some (.d (natD (n - q))) := by
    unfold natD
    rw [x_subI]
    congr 3
    omega
  have hat : atI (rs.map rowD) ((n - q : Nat) : Int) = some (rowD ro) := by rw [DL.atI_nat]; simp [hro]
  have hls2 : gIx (.list (ls.map opD)) (natD q) = some (.d (opD so)) := ix_seq .l (by simp [hso])
  have stepN : cand ls rs n q = none → ∀ s2 s6 s7 s8 s9 s10, (s2 = .l (ls.map opD) ∨ s2 = .d (.list (ls.map opD))) → LrI v u ls rs n qs (i + 1) [.d v, .d u, s2, .l (rs.map rowD), .d (natD n), .d (rowD o), s6, s7, s8, s9, s10] := fun hc s2 s6 s7 s8 s9 s10 h2 => by
    refine ⟨o, s2, s6, s7, s8, s9, s10, h2, ?_, rfl⟩
    rw [take_at hi]
    exact least_none hl hc
  have stepS : ∀ r, cand ls rs n q = some r → ∀ s2 s6 s7 s8 s9 s10, (s2 = .l (ls.map opD) ∨ s2 = .d (.list (ls.map opD))) → LrI v u ls rs n qs (i + 1) [.d v, .d u, s2, .l (rs.map rowD), .d (natD n), .d (pickRow o r).d, s6, s7, s8, s9, s10] := fun r hc s2 s6 s7 s8 s9 s10 h2 => by
    refine ⟨some (pickRow o r), s2, s6, s7, s8, s9, s10, h2, ?_, rfl⟩
    rw [take_at hi]
    exact least_some hl hc
  simp [l_least_rows_2]
  refine W_seq ?_
  have hsub2 : DL.gSub (natD n) (natD q) = some (.d (.int ((n - q : Nat) : Int))) := hsub
  simp [hsub2, hat]
  refine SeqK.nx (W_last ?_)
  cases so with
  | none =>
    have hc : cand ls rs n q = none := by simp [cand, hso]
    rcases h2 with rfl | rfl
    all_goals
      simp [q_least_rows_1, hls2, opD]
      exact stepN hc _ _ _ _ _ _ (.inr rfl)
  | some sk =>
    obtain ⟨s, k⟩ := sk
    cases ro with
    | none =>
      have hc : cand ls rs n q = none := by simp [cand, hso, hro]
      rcases h2 with rfl | rfl
      all_goals
        simp [q_least_rows_1, hls2, opD, rowD, pairD]
        exact stepN hc _ _ _ _ _ _ (.inr rfl)
    | some r =>
      have hc : cand ls rs n q = some ⟨s + r.c, k, q⟩ := by simp [cand, hso, hro]
      have hrow : PyData.tuple [.int (s + r.c), .int k, natD q] = Row.d ⟨s + r.c, k, q⟩ := rfl
      have fin := stepS _ hc
      have hls3 : gIx (.list (ls.map opD)) (natD q) = some (.d (.tuple [.int s, .int k])) := hls2
      cases o with
      | none =>
        rcases h2 with rfl | rfl
        all_goals
          simp [q_least_rows_1, hls3, rowD, Row.d]
          refine W_seq ?_
          simp [hls3]
          refine SeqK.nx (W_seq ?_)
          simp
          refine SeqK.nx (W_last ?_)
          simp
          exact fin _ _ _ _ _ _ (.inr rfl)
      | some b =>
        have hlt := row_lt ⟨s + r.c, k, q⟩ b
        have hlt2 : gLt (.tuple [.int (s + r.c), .int k, natD q]) (.tuple [.int b.c, .int b.k, .int b.p]) = some (.d (.bool (rowLt ⟨s + r.c, k, q⟩ b))) := hlt
        cases hb : rowLt ⟨s + r.c, k, q⟩ b with
        | true =>
          rw [hb] at hlt2
          simp only [pickRow, hb, if_true] at fin
          rcases h2 with rfl | rfl
          all_goals
            simp [q_least_rows_1, hls3, rowD, Row.d]
            refine W_seq ?_
            simp [hls3]
            refine SeqK.nx (W_seq ?_)
            simp
            refine SeqK.nx (W_last ?_)
            simp [hlt2]
            exact fin _ _ _ _ _ _ (.inr rfl)
        | false =>
          rw [hb] at hlt2
          have hp : pickRow (some b) ⟨s + r.c, k, q⟩ = b := by simp [pickRow, hb]
          rw [hp] at fin
          rcases h2 with rfl | rfl
          all_goals
            simp [q_least_rows_1, hls3, rowD, Row.d]
            refine W_seq ?_
            simp [hls3]
            refine SeqK.nx (W_seq ?_)
            simp
            refine SeqK.nx (W_last ?_)
            simp [hlt2]
            exact fin _ _ _ _ _ _ (.inr rfl)
end K9
end PK92Q
section PK92R
set_option maxHeartbeats 2000000
open PySem PySem.Spec PyProof.Rows L2 DL
namespace K9
def RowOk (ls : List (Option (Int × Int))) (rs : List (Option Row)) (ps : List Pg) (m : Nat) (o : Option Row) : Prop :=
  if m = 0 then o = some ⟨0, 0, 0⟩ else ∃ (j : Nat) (qs : List Nat), m.testBit j = true ∧ j < ps.length ∧ (∀ P, P ∈ qs ↔ HasPart m j P) ∧ Least ls (rs.take m) m qs o
def RowsOk (ls : List (Option (Int × Int))) (ps : List Pg) (rs : List (Option Row)) : Prop := ∀ m o, rs[m]? = some o → RowOk ls rs ps m o
theorem rows_snoc {ls : List (Option (Int × Int))} {ps : List Pg} {rs : List (Option Row)} (h : RowsOk ls ps rs) {o : Option Row} {j : Nat} {qs : List Nat} (h0 : rs.length ≠ 0) (hb : rs.length.testBit j = true) (hj : j < ps.length) (hq : ∀ P, P ∈ qs ↔ HasPart rs.length j P) (hl : Least ls rs rs.length qs o) : RowsOk ls ps (rs ++ [o]) := by
  intro m x hm
  rcases Nat.lt_or_ge m rs.length with h1 | h1
  · rw [List.getElem?_append_left h1] at hm
    have := h m x hm
    unfold RowOk at this ⊢
    rw [List.take_append_of_le_length (Nat.le_of_lt h1)]
    exact this
  · rw [List.getElem?_append_right h1] at hm
    have h2 : m - rs.length = 0 := by
      rcases Nat.eq_zero_or_pos (m - rs.length) with h | h
      · exact h
      · rw [List.getElem?_eq_none (by simp; omega)] at hm; cases hm
    rw [h2] at hm
    simp at hm
    have e : m = rs.length := by omega
    subst e
    subst hm
    unfold RowOk
    rw [if_neg h0]
    refine ⟨j, qs, hb, hj, hq, ?_⟩
    rw [List.take_append_of_le_length (Nat.le_refl _), List.take_length]
    exact hl
def LrO (ps : List Pg) (v u : PyData) (ls : List (Option (Int × Int))) (i : Nat) (ρ : Rho) : Prop := ∃ (rs : List (Option Row)) (s2 s4 s5 s6 s7 s8 s9 s10 : Sl), (s2 = .l (ls.map opD) ∨ s2 = .d (.list (ls.map opD))) ∧ rs.length = i + 1 ∧ RowsOk ls ps rs ∧ ρ = [.d v, .d u, s2, .l (rs.map rowD), s4, s5, s6, s7, s8, s9, s10]
theorem lo_turn {ps : List Pg} {v u : PyData} {ls : List (Option (Int × Int))} (hp : ps.length ≤ 10) (hu : SeqOf (ps.map Pg.d) u) (hls : ls.length = 2 ^ ps.length) (i : Nat) (hi : i < 2 ^ ps.length - 1) (ρ : Rho) (h : LrO ps v u ls i ρ) : W (gdName 4 (.d (natD (i + 1))) ρ) fun ρ1 => W (l_least_rows_4 ρ1) fun
      | .nx ρ2 => LrO ps v u ls (i + 1) ρ2
      | _ => False := by
  obtain ⟨rs, s2, s4, s5, s6, s7, s8, s9, s10, h2, hlen, hrs, rfl⟩ := h
  have h1024 := pow_le hp
  obtain ⟨j, hb, hj, hf⟩ := first_in_v ps hu (i + 1) (by omega) (by omega) hp
  obtain ⟨qs, hqs, hparts⟩ := parts_with_v (i + 1) j (by omega) hb (by omega)
  have hq : ∀ q ∈ qs, 0 < q ∧ q ≤ i + 1 := fun q hq => by
    obtain ⟨h1, h2⟩ := (hqs q).mp hq
    refine ⟨?_, sub_le h1⟩
    rcases Nat.eq_zero_or_pos q with h | h
    · subst h; simp at h2
    · exact h
  have hsz : rs.length < sizeLine := nat_lt_small (by omega)
  simp [l_least_rows_4]
  refine W_seq ?_
  simp
  refine SeqK.nx (W_seq ?_)
  simp [q_least_rows_3, sFor, hf, hparts]
  have key := for_nx (gd := gdName 6) (g := l_least_rows_2) natD (LrI v u ls rs (i + 1) qs) (xs := qs) (ρ := [.d v, .d u, s2, .l (rs.map rowD), .d (natD (i + 1)), .d (rowD none), s6, s7, s8, s9, s10])
    ⟨none, s2, s6, s7, s8, s9, s10, h2, ⟨fun r hr => (by cases hr), fun q hq => (by simp at hq)⟩, rfl⟩ fun k q hk ρ h => lr_turn (by omega) hlen hq k q hk ρ h
  refine key.mono fun o ⟨ρ', e1, o', t2, t6, t7, t8, t9, t10, e2, e3, e4⟩ => ?_
  subst e1 e4
  rw [List.take_length] at e3
  refine SeqK.nx (W_last ?_)
  simp [hsz]
  refine ⟨rs ++ [o'], t2, _, _, _, _, _, _, _, e2, by simp [hlen], ?_, by rw [List.map_append]; rfl⟩
  rw [← hlen] at hb hqs e3
  exact rows_snoc hrs (by omega) hb hj hqs e3
theorem least_rows_v {ts : List Tk} {ps : List Pg} (ok : Ok ts ps) {v u : PyData} (hv : SeqOf (ts.map Tk.d) v) (hu : SeqOf (ps.map Pg.d) u) : ∃ (ls : List (Option (Int × Int))) (rs : List (Option Row)), ls.length = 2 ^ ps.length ∧ (∀ n o, ls[n]? = some o → LkOk ts ps n o) ∧ rs.length = 2 ^ ps.length ∧ RowsOk ls ps rs ∧ m_least_rows [.d v, .d u] = some (.l (rs.map rowD), [.u, .u]) := by
  obtain ⟨ls, hl1, hl2, hl3⟩ := least_kinds_v ok hv hu
  suffices h : W (m_least_rows [.d v, .d u]) fun x => ∃ rs : List (Option Row), rs.length = 2 ^ ps.length ∧ RowsOk ls ps rs ∧ x = (.l (rs.map rowD), [.u, .u]) by
    obtain ⟨x, e, rs, h1, h2, rfl⟩ := h
    exact ⟨ls, rs, hl1, hl2, h1, h2, e⟩
  have hr := range_pow ok.p10
  have hl := len_seq hu
  rw [List.length_map] at hl
  have hs := shl_one ps.length (by have := ok.p10; omega)
  have h2p := Nat.two_pow_pos ps.length
  refine W_body (W_seq ?_)
  simp [q_least_rows_5, hl3]
  refine SeqK.nx (W_seq ?_)
  simp [sFor, hr, hl, hs]
  have key := for_nx (gd := gdName 4) (g := l_least_rows_4) id (LrO ps v u ls) (xs := rngD 1 1 (2 ^ ps.length - 1)) (ρ := [.d v, .d u, .l (ls.map opD), .l [.tuple [.int 0, .int 0, .int 0]], .u, .u, .u, .u, .u, .u, .u])
    ⟨[some ⟨0, 0, 0⟩], _, .u, .u, .u, .u, .u, .u, .u, .inl rfl, rfl, (fun m o hm => by
      cases m with
      | zero => simp at hm; subst hm; simp [RowOk]
      | succ m => cases hm), rfl⟩ fun i d hd ρ h => by
      obtain ⟨hi, rfl⟩ := rngD_get hd
      have e0 : (1 : Int) + (i : Int) * 1 = ((i + 1 : Nat) : Int) := by omega
      have e : PyData.int (1 + (i : Int) * 1) = natD (i + 1) := congrArg PyData.int e0
      show W (gdName 4 (.d (.int (1 + (i : Int) * 1))) ρ) _
      rw [e]
      exact lo_turn ok.p10 hu hl1 i hi ρ h
  rw [List.map_id] at key
  refine key.mono fun o ⟨ρ', h1, rs, s2, s4, s5, s6, s7, s8, s9, s10, h2, h3, h4, h5⟩ => ?_
  subst h1 h5
  refine SeqK.nx (W_last ?_)
  simp
  refine BodyK.ret (by simp) ⟨rs, ?_, h4, by simp [keepP]⟩
  rw [h3, rngD_len]
  omega
end K9
end PK92R
section PK92T
set_option maxHeartbeats 2000000
open PySem PySem.Spec PyProof.Rows L2 DL
namespace K9
def sg (ts : List Tk) (ps : List Pg) (q : Nat) : Option Int := sgl ts (pks ps (plc q))
structure Dp (ts : List Tk) (ps : List Pg) (rs : List (Option Row)) : Prop where
  len : rs.length = 2 ^ ps.length
  zero : rs[0]? = some (some ⟨0, 0, 0⟩)
  get : ∀ m r, 0 < m → rs[m]? = some (some r) → ∃ (q i : Nat) (t : Tk) (r' : Row), r.p = (q : Int) ∧ Sub q m ∧ 0 < q ∧ r.k = (i : Int) ∧ ts[i]? = some t ∧ covB t (pks ps (plc q)) = true ∧ sg ts ps q = some t.price ∧ rs[m - q]? = some (some r') ∧ r.c = t.price + r'.c
  low : ∀ m, 0 < m → m < rs.length → ∃ j, m.testBit j = true ∧ ∀ q, HasPart m j q → ∀ s r', sg ts ps q = some s → rs[m - q]? = some (some r') → ∃ r, rs[m]? = some (some r) ∧ r.c ≤ s + r'.c
theorem pos_of_bit {q j : Nat} (h : q.testBit j = true) : 0 < q := by
  rcases Nat.eq_zero_or_pos q with e | e
  · subst e; simp at h
  · exact e
theorem cand_some {ls : List (Option (Int × Int))} {rs : List (Option Row)} {n q : Nat} {r : Row} (h : cand ls rs n q = some r) : ∃ s k r', ls[q]? = some (some (s, k)) ∧ rs[n - q]? = some (some r') ∧ r = ⟨s + r'.c, k, q⟩ := by
  unfold cand at h
  split at h
  · rename_i s k r' h1 h2
    cases h
    exact ⟨s, k, r', h1, h2, rfl⟩
  · cases h
theorem dp_of {ts : List Tk} {ps : List Pg} {ls : List (Option (Int × Int))} {rs : List (Option Row)} (hll : ls.length = 2 ^ ps.length) (hl : ∀ n o, ls[n]? = some o → LkOk ts ps n o) (hrl : rs.length = 2 ^ ps.length) (hr : RowsOk ls ps rs) : Dp ts ps rs := by
  have h2p := Nat.two_pow_pos ps.length
  have zero : rs[0]? = some (some ⟨0, 0, 0⟩) := by
    have h0 : rs[0]? = some rs[0] := by simp
    have := hr 0 _ h0
    unfold RowOk at this
    rw [if_pos rfl] at this
    rw [h0, this]
  have tk : ∀ {m q : Nat} {x : Option Row}, 0 < q → q ≤ m → ((rs.take m)[m - q]? = some x ↔ rs[m - q]? = some x) := fun {m q x} h0 h1 => by
    rw [List.getElem?_take, if_pos (by omega)]
  refine ⟨hrl, zero, fun m r hm h => ?_, fun m hm hlt => ?_⟩
  · have := hr m _ h
    unfold RowOk at this
    rw [if_neg (by omega)] at this
    obtain ⟨j, qs, hb, hj, hqs, hls⟩ := this
    obtain ⟨q, hq, hc⟩ := hls.get r rfl
    obtain ⟨hsub, hqj⟩ := (hqs q).mp hq
    have hq0 := pos_of_bit hqj
    obtain ⟨s, k, r', h1, h2, rfl⟩ := cand_some hc
    rw [tk hq0 (sub_le hsub)] at h2
    have hk := hl q _ h1
    unfold LkOk at hk
    rw [if_neg (by omega)] at hk
    obtain ⟨i, t, e1, e2, e3, e4⟩ := hk.2 s k rfl
    exact ⟨q, i, t, r', rfl, hsub, hq0, e1, e2, e4, by unfold sg; rw [← hk.1, e3]; rfl, h2, by rw [e3]⟩
  · obtain ⟨o, ho⟩ : ∃ o, rs[m]? = some o := ⟨rs[m], by simp [hlt]⟩
    have := hr m _ ho
    unfold RowOk at this
    rw [if_neg (by omega)] at this
    obtain ⟨j, qs, hb, hj, hqs, hls⟩ := this
    refine ⟨j, hb, fun q hq s r' hs hr' => ?_⟩
    have hq0 := pos_of_bit hq.2
    have hqm := sub_le hq.1
    obtain ⟨so, hso⟩ : ∃ so, ls[q]? = some so := ⟨ls[q]'(by omega), by simp⟩
    have hk := hl q _ hso
    unfold LkOk at hk
    rw [if_neg (by omega)] at hk
    unfold sg at hs
    rw [hs] at hk
    cases so with
    | none => cases hk.1
    | some sk =>
      obtain ⟨s', k⟩ := sk
      have e : s' = s := by simpa using hk.1
      subst e
      obtain ⟨r, hr1, hr2⟩ := hls.low q ((hqs q).mpr hq) ⟨s' + r'.c, k, q⟩ (by
        unfold cand
        rw [hso, (tk hq0 hqm).mpr hr'])
      exact ⟨r, by rw [ho, hr1], hr2⟩
theorem least_rows_dp {ts : List Tk} {ps : List Pg} (ok : Ok ts ps) {v u : PyData} (hv : SeqOf (ts.map Tk.d) v) (hu : SeqOf (ps.map Pg.d) u) : ∃ rs : List (Option Row), Dp ts ps rs ∧ m_least_rows [.d v, .d u] = some (.l (rs.map rowD), [.u, .u]) := by
  obtain ⟨ls, rs, h1, h2, h3, h4, h5⟩ := least_rows_v ok hv hu
  exact ⟨rs, dp_of h1 h2 h3 h4, h5⟩
/-- a list of parts of m: each more than none, no place twice -/
inductive Part : Nat → List Nat → Prop
  | nil : Part 0 []
  | cons {m q : Nat} {L : List Nat} : 0 < q → Sub q m → Part (m - q) L → Part m (q :: L)
def sumO : List (Option Int) → Option Int
  | [] => some 0
  | none :: _ => none
  | some x :: r => (sumO r).map (x + ·)
theorem Part.has {m : Nat} {L : List Nat} (h : Part m L) : ∀ {j : Nat}, m.testBit j = true → ∃ q ∈ L, q.testBit j = true := by
  induction h with
  | nil => intro j hj; simp at hj
  | @cons m q L h0 hs hp ih =>
    intro j hj
    cases hq : q.testBit j with
    | true => exact ⟨q, List.mem_cons_self, hq⟩
    | false =>
      obtain ⟨x, hx, hx2⟩ := ih (j := j) (by rw [sub_minus hs, hj, hq]; rfl)
      exact ⟨x, List.mem_cons_of_mem _ hx, hx2⟩
theorem sub_trans {a b c : Nat} (h : Sub a b) (h2 : Sub b c) : Sub a c := sub_bits.mpr fun i hi => sub_bits.mp h2 i (sub_bits.mp h i hi)
theorem sub_less {q m : Nat} (h : Sub q m) : Sub (m - q) m := sub_bits.mpr fun i hi => by
  rw [sub_minus h] at hi
  simp at hi
  exact hi.1
theorem Part.sub {m : Nat} {L : List Nat} (h : Part m L) : ∀ q ∈ L, 0 < q ∧ Sub q m := by
  induction h with
  | nil => intro q hq; cases hq
  | @cons m q L h0 hs hp ih =>
    intro x hx
    rcases List.mem_cons.mp hx with rfl | hx
    · exact ⟨h0, hs⟩
    · exact ⟨(ih x hx).1, sub_trans (ih x hx).2 (sub_less hs)⟩
theorem sub_swap {a b m : Nat} (h : Sub a m) (h2 : Sub b (m - a)) : Sub b m ∧ Sub a (m - b) := by
  have hb := sub_trans h2 (sub_less h)
  refine ⟨hb, sub_bits.mpr fun i hi => ?_⟩
  rw [sub_minus hb, sub_bits.mp h i hi]
  cases hbi : b.testBit i with
  | false => rfl
  | true =>
    have := sub_bits.mp h2 i hbi
    rw [sub_minus h, hi] at this
    simp at this
theorem Part.inv {m q : Nat} {L : List Nat} (h : Part m (q :: L)) : 0 < q ∧ Sub q m ∧ Part (m - q) L := by
  cases h with
  | cons h0 hs h => exact ⟨h0, hs, h⟩
theorem Part.perm {L L' : List Nat} (hp : L.Perm L') : ∀ {m : Nat}, Part m L → Part m L' := by
  induction hp with
  | nil => intro m h; exact h
  | cons x hp ih =>
    intro m h
    cases h with
    | cons h0 hs h => exact .cons h0 hs (ih h)
  | swap x y l =>
    intro m h
    obtain ⟨h0, hs, h⟩ := h.inv
    obtain ⟨h1, ht, h⟩ := h.inv
    obtain ⟨a, b⟩ := sub_swap hs ht
    refine .cons h1 a (.cons h0 b ?_)
    have : m - x - y = m - y - x := by omega
    rw [this]
    exact h
  | trans h1 h2 i1 i2 => intro m h; exact i2 (i1 h)
theorem sumO_perm {l l' : List (Option Int)} (hp : l.Perm l') : sumO l = sumO l' := by
  induction hp with
  | nil => rfl
  | cons x hp ih => cases x <;> simp [sumO, ih]
  | swap x y l =>
    cases x <;> cases y <;> cases h : sumO l <;> simp [sumO, h] <;> omega
  | trans h1 h2 i1 i2 => exact i1.trans i2
/-- no partition is cheaper than the rows say -/
theorem Dp.low_all {ts : List Tk} {ps : List Pg} {rs : List (Option Row)} (D : Dp ts ps rs) : ∀ (k m : Nat), m < k → m < rs.length → ∀ (L : List Nat) (S : Int), Part m L → sumO (L.map (sg ts ps)) = some S → ∃ r, rs[m]? = some (some r) ∧ r.c ≤ S
  | 0, m, hk, _, _, _, _, _ => absurd hk (Nat.not_lt_zero m)
  | k + 1, m, hk, hm, L, S, hp, hS => by
    rcases Nat.eq_zero_or_pos m with h0 | h0
    · subst h0
      cases L with
      | nil =>
        simp [sumO] at hS
        exact ⟨_, D.zero, by rw [← hS]; exact Int.le_refl _⟩
      | cons q L =>
        obtain ⟨h1, h2, _⟩ := hp.inv
        have := sub_le h2
        omega
    · obtain ⟨j, hj, hlow⟩ := D.low m h0 hm
      obtain ⟨q, hq, hqj⟩ := hp.has hj
      have pe := List.perm_cons_erase hq
      obtain ⟨h1, h2, h3⟩ := (hp.perm pe).inv
      rw [sumO_perm (pe.map (sg ts ps)), List.map_cons] at hS
      cases hs : sg ts ps q with
      | none => rw [hs] at hS; simp [sumO] at hS
      | some s =>
        rw [hs] at hS
        cases hr : sumO ((L.erase q).map (sg ts ps)) with
        | none => simp [sumO, hr] at hS
        | some R =>
          simp [sumO, hr] at hS
          have hqm := sub_le h2
          obtain ⟨r', hr1, hr2⟩ := D.low_all k (m - q) (by omega) (by omega) _ R h3 hr
          obtain ⟨r, e1, e2⟩ := hlow q ⟨h2, hqj⟩ s r' hs hr1
          exact ⟨r, e1, by omega⟩
/-- what the rows say is the price of a partition -/
theorem Dp.get_all {ts : List Tk} {ps : List Pg} {rs : List (Option Row)} (D : Dp ts ps rs) : ∀ (k m : Nat) (r : Row), m < k → rs[m]? = some (some r) → ∃ L, Part m L ∧ sumO (L.map (sg ts ps)) = some r.c
  | 0, m, _, hk, _ => absurd hk (Nat.not_lt_zero m)
  | k + 1, m, r, hk, hr => by
    rcases Nat.eq_zero_or_pos m with h0 | h0
    · subst h0
      rw [D.zero] at hr
      cases hr
      exact ⟨[], .nil, rfl⟩
    · obtain ⟨q, i, t, r', _, h2, h3, _, _, _, h4, h5, h6⟩ := D.get m r h0 hr
      have := sub_le h2
      obtain ⟨L, hL, hS⟩ := D.get_all k (m - q) r' (by omega) h5
      exact ⟨q :: L, .cons h3 h2 hL, by rw [List.map_cons, h4]; simp [sumO, hS, h6]⟩
end K9
end PK92T
section PK92X
set_option maxHeartbeats 2000000
open PySem PySem.Spec PyProof.Rows L2 DL
namespace K9
def cst (rs : List (Option Row)) (m : Nat) : Option Int := (rs[m]?.join).map Row.c
theorem rows_last {ts : List Tk} {ps : List Pg} {rs : List (Option Row)} (D : Dp ts ps rs) : atI rs (-1) = rs[2 ^ ps.length - 1]? := by
  have h2 := Nat.two_pow_pos ps.length
  have hl := D.len
  unfold L2.atI L2.ixN
  rw [if_neg (by omega), if_pos (by omega)]
  simp only [Option.bind_some]
  congr 1
  omega
theorem atI_map {α β : Type} (f : α → β) (xs : List α) (i : Int) : atI (xs.map f) i = (atI xs i).map f := by
  unfold L2.atI
  rw [List.length_map]
  cases L2.ixN xs.length i <;> simp
theorem least_prices_v {ts : List Tk} {ps : List Pg} (ok : Ok ts ps) {v u : PyData} (hv : SeqOf (ts.map Tk.d) v) (hu : SeqOf (ps.map Pg.d) u) : ∃ rs : List (Option Row), Dp ts ps rs ∧ m_least_prices [.d v, .d u] = some (.l (rs.map fun o => optD (o.map Row.c)), [.u, .u]) := by
  obtain ⟨rs, D, hm⟩ := least_rows_dp ok hv hu
  refine ⟨rs, D, W_eq.mp (W_body (W_last ?_))⟩
  have hl : rs.length ≤ 10000 := by rw [D.len]; have := pow_le ok.p10; omega
  simp only [q_least_prices_1, x_sRet, W_map]
  refine W_compA rowD (fun o => optD (o.map Row.c)) rs (ρ' := [.d v, .d u, .u]) (by simp [hm]) (fun o ho => ?_) hl ?_
  · cases o <;> simp [rowD, Row.d, optD]
  · exact BodyK.ret (by simp) (by simp [keepP])
theorem cheapest_of_v {ts : List Tk} {ps : List Pg} (ok : Ok ts ps) {v u : PyData} (hv : SeqOf (ts.map Tk.d) v) (hu : SeqOf (ps.map Pg.d) u) : ∃ rs : List (Option Row), Dp ts ps rs ∧ m_cheapest_of [.d v, .d u] = some (.d (optD (cst rs (2 ^ ps.length - 1))), [.u, .u]) := by
  obtain ⟨rs, D, hm⟩ := least_prices_v ok hv hu
  refine ⟨rs, D, W_eq.mp (W_body (W_last ?_))⟩
  have h2 := Nat.two_pow_pos ps.length
  have hl := D.len
  have hlt : 2 ^ ps.length - 1 < rs.length := by omega
  have ha : atI (rs.map fun o => optD (o.map Row.c)) (-1) = some (optD (cst rs (2 ^ ps.length - 1))) := by
    rw [atI_map, rows_last D]
    simp [hlt, cst]
  simp [hm, ha]
  exact BodyK.ret (by simp) (by simp [keepP])
theorem cheapest_v {ts : List Tk} {ps : List Pg} (ok : Ok ts ps) {v u : PyData} (hv : SeqOf (ts.map Tk.d) v) (hu : SeqOf (ps.map Pg.d) u) : ∃ rs : List (Option Row), Dp ts ps rs ∧ m_cheapest [.d v, .d u] = some (.d (optD (cst rs (2 ^ ps.length - 1))), [.u, .u]) := by
  obtain ⟨rs, D, hm⟩ := cheapest_of_v ok hv hu
  refine ⟨rs, D, W_eq.mp (W_body (W_seq ?_))⟩
  have h1 := want_tickets_ok ts ok.tok ok.t1 ok.t8 hv
  have h2 := want_passages_ok ps ok.pok ok.p10 hu
  simp [h1]
  refine SeqK.nx (W_last ?_)
  simp [h2, hm]
  exact BodyK.ret (by simp) (by simp [keepP])
end K9
end PK92X
section PK92ZH
set_option maxHeartbeats 2000000
open PySem PySem.Spec PyProof.Rows L2 DL
namespace K9
/-! which covers are right -/
theorem plk_split {m q : Nat} (h : Sub q m) : ∀ p, (plk m p).Perm (plk q p ++ plk (m - q) p)
  | 0 => .refl _
  | p + 1 => by
    have ih := plk_split h p
    have hb := sub_minus h p
    have hs := sub_bits.mp h p
    rw [plk_succ, plk_succ, plk_succ]
    cases hm : m.testBit p with
    | false =>
      have hq : q.testBit p = false := by
        cases hq : q.testBit p with
        | false => rfl
        | true => rw [hs hq] at hm; cases hm
      rw [hb, hm, hq]
      simpa using ih
    | true =>
      cases hq : q.testBit p with
      | true =>
        rw [hb, hm, hq]
        simp
        refine (ih.append_right [p]).trans ?_
        rw [List.append_assoc]
        exact List.perm_append_comm.append_left _
      | false =>
        rw [hb, hm, hq]
        simp
        rw [← List.append_assoc]
        exact ih.append_right [p]
theorem Part.flat {m : Nat} {L : List Nat} (h : Part m L) : (L.flatMap plc).Perm (plc m) := by
  induction h with
  | nil =>
    have : plc 0 = [] := by decide
    rw [this]
    exact .refl _
  | @cons m q L h0 hs hp ih =>
    rw [List.flatMap_cons]
    exact (ih.append_left _).trans (plk_split hs 20).symm
end K9
end PK92ZH
section PK92MA
set_option maxHeartbeats 2000000
open PySem PySem.Spec PyProof.Rows L2 DL
namespace K9
/-! the place that counts first; the law's lot and first -/
structure IsFst (ps : List Pg) (n j : Nat) : Prop where
  bit : n.testBit j = true
  low : ∀ i, n.testBit i = true → bAt ps j < bAt ps i ∨ (bAt ps j = bAt ps i ∧ j ≤ i)
theorem IsFst.uni {ps : List Pg} {n j i : Nat} (h : IsFst ps n j) (g : IsFst ps n i) : j = i := by
  have h1 := h.low i g.bit
  have h2 := g.low j h.bit
  omega
theorem minP_lex (xs : List (Int × Int)) : ∀ x : Int × Int, ∀ y ∈ x :: xs, (minP x xs).1 < y.1 ∨ ((minP x xs).1 = y.1 ∧ (minP x xs).2 ≤ y.2) := by
  induction xs with
  | nil => intro x y hy; simp only [List.mem_singleton] at hy; subst hy; simp [minP, PySem.W.minOf]
  | cons y ys ih =>
    intro x z hz
    have e : minP x (y :: ys) = minP (if PySem.W.DatumOrd.lt y x = true then y else x) ys := rfl
    rw [e]
    have hlt : PySem.W.DatumOrd.lt y x = if y.1 = x.1 then decide (y.2 < x.2) else decide (y.1 < x.1) := rfl
    by_cases h : PySem.W.DatumOrd.lt y x = true
    · rw [if_pos h]
      have hy := ih y y List.mem_cons_self
      rw [hlt] at h
      have : y.1 < x.1 ∨ (y.1 = x.1 ∧ y.2 < x.2) := by
        by_cases he : y.1 = x.1
        · rw [if_pos he, decide_eq_true_eq] at h; exact .inr ⟨he, h⟩
        · rw [if_neg he, decide_eq_true_eq] at h; exact .inl h
      rcases List.mem_cons.mp hz with rfl | hz
      · omega
      · exact ih y z hz
    · rw [if_neg h]
      have hx := ih x x List.mem_cons_self
      rw [hlt] at h
      have : x.1 < y.1 ∨ (x.1 = y.1 ∧ x.2 ≤ y.2) := by
        by_cases he : y.1 = x.1
        · rw [if_pos he, decide_eq_true_eq] at h; exact .inr ⟨he.symm, by omega⟩
        · rw [if_neg he, decide_eq_true_eq] at h; exact .inl (by omega)
      rcases List.mem_cons.mp hz with rfl | hz
      · exact hx
      · rcases List.mem_cons.mp hz with rfl | hz
        · omega
        · exact ih x z (List.mem_cons_of_mem _ hz)
theorem first_in_x (ps : List Pg) {v : PyData} (hv : SeqOf (ps.map Pg.d) v) (n : Nat) (h0 : 0 < n) (h : n < 2 ^ ps.length) (hl : ps.length ≤ 10) : ∃ j, IsFst ps n j ∧ j < ps.length ∧ m_first_in [.d v, .d (natD n)] = some (.d (natD j), [.u, .u]) := by
  have h20 := pow20 h (by omega)
  obtain ⟨a, r, hr⟩ := List.exists_cons_of_ne_nil (plc_ne h0 h20)
  have hm := min_pairs (bAt ps a, (a : Int)) (r.map fun j : Nat => (bAt ps j, (j : Int)))
  obtain ⟨hs, _⟩ := minP_spec (r.map fun j : Nat => (bAt ps j, (j : Int))) (bAt ps a, (a : Int))
  have hx := minP_lex (r.map fun j : Nat => (bAt ps j, (j : Int))) (bAt ps a, (a : Int))
  obtain ⟨j, hj, hje⟩ : ∃ j : Nat, j ∈ plc n ∧ minP (bAt ps a, (a : Int)) (r.map fun j : Nat => (bAt ps j, (j : Int))) = (bAt ps j, (j : Int)) := by
    rw [← List.map_cons (f := fun j : Nat => (bAt ps j, (j : Int)))] at hs
    obtain ⟨j, h1, h2⟩ := List.mem_map.mp hs
    exact ⟨j, hr ▸ h1, h2.symm⟩
  have hb := (plc_mem h20).mp hj
  have fst : IsFst ps n j := ⟨hb, fun i hi => by
    have := hx (bAt ps i, (i : Int)) (by
      rw [← List.map_cons (f := fun j : Nat => (bAt ps j, (j : Int))), ← hr]
      exact List.mem_map.mpr ⟨i, (plc_mem h20).mpr hi, rfl⟩)
    rw [hje] at this
    simp only at this
    omega⟩
  refine ⟨j, fst, bit_lt h hb, W_eq.mp (W_body (W_last ?_))⟩
  rw [hje] at hm
  have hm' : gMin [.list ((plc n).map fun j : Nat => pairD (bAt ps j, (j : Int)))] = some (.d (pairD (bAt ps j, (j : Int)))) := by
    rw [hr, ← hm]
    simp [List.map_map]
    rfl
  have hc : eComp [2] (iSeq (eCall 1 m_places_in (aCons (eVar 1) aNil))) (gdName 2) tAll (eApp gTup (aCons (eBin gIx (eBin gIx (eVar 0) (eVar 2)) (eK (.int 0))) (aCons (eVar 2) aNil))) [.d v, .d (natD n), .u] = some (.l ((plc n).map fun j : Nat => pairD (bAt ps j, (j : Int))), [.d v, .d (natD n), .u]) := by
    refine W_eq.mp (W_compA natD (fun j : Nat => pairD (bAt ps j, (j : Int))) (plc n) (ρ' := [.d v, .d (natD n), .u]) ?_ (fun j hj => ?_) ?_ ?_)
    · simp [places_in_v n h20]
    · have hj' := bit_lt h ((plc_mem h20).mp hj)
      have hi : (ps.map Pg.d)[j]? = some (ps[j].d) := by simp [hj']
      have hi2 : gIx v (.int (j : Int)) = some (.d (ps[j].d)) := ix_seq hv hi
      simp [hi2, bAt, hj', pairD, natD, Pg.d]
    · exact Nat.le_trans (plk_len n 20) (by omega)
    · rfl
  simp [q_first_in_1, hc, hm']
  simp [pairD, natD]
  exact BodyK.ret (by simp) (by simp [keepP])
/-! ### the law's -/
theorem rngD_nats (n : Nat) : rngD 0 1 n = (List.range n).map natD := by
  refine List.ext_getElem? fun i => ?_
  rw [List.getElem?_map]
  cases h : (rngD 0 1 n)[i]? with
  | none =>
    have : n ≤ i := by simpa using List.getElem?_eq_none_iff.mp h
    rw [List.getElem?_eq_none (by simpa using this)]
    rfl
  | some d =>
    obtain ⟨h1, rfl⟩ := rngD_get h
    simp [h1, natD]
theorem bit_int (n p : Nat) : (gShr (natD n) (natD p)).bind (fun a => (gAnd a.data (.int 1)).bind fun b => gEq b.data (.int 1)) = some (.d (.bool (n.testBit p))) := by
  have hs := shr_nat n p
  unfold natD
  rw [hs]
  obtain ⟨q, hq⟩ : ∃ q, q = n / 2 ^ p := ⟨_, rfl⟩
  simp only [Option.bind_some]
  show (gAnd (.int ((n / 2 ^ p : Nat) : Int)) (.int 1)).bind _ = _
  rw [x_andI]
  simp only [Option.bind_some]
  show gEq (.int (Builtin.bitAnd ((n / 2 ^ p : Nat) : Int) 1)) (.int 1) = _
  rw [bitAnd_m1, x_eqI, Nat.testBit_eq_decide_div_mod_eq, ← hq]
  congr 3
  simp only [decide_eq_decide]
  omega
theorem law_lot_v (n m : Nat) (hm : m ≤ 10) (h : n < 2 ^ m) : m__law_lot [.d (natD n), .d (.int (m : Int))] = some (.l ((plc n).map natD), [.u, .u]) := by
  refine W_eq.mp (W_body (W_last ?_))
  have hr := x_range1 (n := (m : Int)) (by omega) (by omega)
  rw [Int.toNat_natCast, rngD_nats] at hr
  simp only [q__law_lot_1, x_sRet, W_map]
  refine W_comp natD (fun p => n.testBit p) natD (List.range m) (ρ' := [.d (natD n), .d (.int (m : Int)), .u]) (by simp [hr]) (fun p hp => ?_) (by simp; omega) ?_
  · have hb := bit_int n p
    obtain ⟨a, e1, e2⟩ : ∃ a, gShr (natD n) (natD p) = some a ∧ (gAnd a.data (.int 1)).bind (fun b => gEq b.data (.int 1)) = some (.d (.bool (n.testBit p))) := by
      cases e : gShr (natD n) (natD p) with
      | none => rw [e] at hb; cases hb
      | some a => rw [e] at hb; exact ⟨a, rfl, hb⟩
    obtain ⟨b, e3, e4⟩ : ∃ b, gAnd a.data (.int 1) = some b ∧ gEq b.data (.int 1) = some (.d (.bool (n.testBit p))) := by
      cases e : gAnd a.data (.int 1) with
      | none => rw [e] at e2; cases e2
      | some b => rw [e] at e2; exact ⟨b, rfl, e2⟩
    simp [e1, e3, e4]
  · have e : (List.range m).filter (fun p => n.testBit p) = plc n := plk_eq h (by omega)
    rw [e]
    exact BodyK.ret (by simp) (by simp [keepP])
def FiJ (ps : List Pg) (n : Nat) (v : PyData) (js : List Nat) (k : Nat) (ρ : Rho) : Prop := ∃ (j : Nat) (s3 : Sl), j ∈ plc n ∧ (∀ i ∈ js.take k, bAt ps j < bAt ps i ∨ (bAt ps j = bAt ps i ∧ j ≤ i)) ∧ (∀ i ∈ js.drop k, j ≤ i) ∧ ρ = [.d v, .d (.list (js.map natD)), .d (natD j), s3]
theorem law_first_v (ps : List Pg) (n : Nat) (h0 : 0 < n) (h : n < 2 ^ ps.length) (hl : ps.length ≤ 10) : ∃ j, IsFst ps n j ∧ j < ps.length ∧ m__law_first [.d (.list (ps.map Pg.d)), .d (.list ((plc n).map natD))] = some (.d (natD j), [.u, .u]) := by
  have h20 := pow20 h (by omega)
  suffices g : W (m__law_first [.d (.list (ps.map Pg.d)), .d (.list ((plc n).map natD))]) fun x => ∃ j, IsFst ps n j ∧ j < ps.length ∧ x = (.d (natD j), [.u, .u]) by
    obtain ⟨x, e, j, h1, h2, rfl⟩ := g
    exact ⟨j, h1, h2, e⟩
  have hs : (plc n).Pairwise (· < ·) := List.Pairwise.filter _ List.pairwise_lt_range
  obtain ⟨a, r, hr⟩ := List.exists_cons_of_ne_nil (plc_ne h0 h20)
  have hfi : gIx (.list ((plc n).map natD)) (.int 0) = some (.d (natD a)) := by rw [hr, List.map_cons]; simp
  refine W_body (W_seq ?_)
  simp [hfi]
  refine SeqK.nx (W_seq ?_)
  have at' : ∀ i, i ∈ plc n → (ps[i]?.map Pg.d) = some (ps[i]?.map Pg.d |>.getD .none) ∧ gIx (.list (ps.map Pg.d)) (natD i) = some (.d ((ps[i]?.map Pg.d).getD .none)) ∧ gIx ((ps[i]?.map Pg.d).getD .none) (.int 0) = some (.d (.int (bAt ps i))) := fun i hi => by
    have hlt := bit_lt h ((plc_mem h20).mp hi)
    have e : (ps.map Pg.d)[i]? = some (ps[i].d) := by simp [hlt]
    have e2 : gIx (.list (ps.map Pg.d)) (natD i) = some (.d (ps[i].d)) := ix_seq .l e
    refine ⟨by simp [hlt], by simpa [hlt] using e2, by simp [hlt, bAt, Pg.d]⟩
  have key := for_nx (gd := gdName 3) (g := l__law_first_2) natD (FiJ ps n (.list (ps.map Pg.d)) (plc n)) (xs := plc n) (ρ := [.d (.list (ps.map Pg.d)), .d (.list ((plc n).map natD)), .d (natD a), .u]) ⟨a, .u, by rw [hr]; simp, by simp, fun i hi => by
    rw [List.drop_zero, hr] at hi
    rw [hr] at hs
    rcases List.mem_cons.mp hi with rfl | hi
    · omega
    · exact Nat.le_of_lt ((List.pairwise_cons.mp hs).1 i hi), rfl⟩ fun k i hi ρ hI => by
      obtain ⟨j, s3, hj, h1, h2, rfl⟩ := hI
      have hin := List.mem_of_getElem? hi
      have hklt := (List.getElem?_eq_some_iff.mp hi).1
      have hd : (plc n).drop k = i :: (plc n).drop (k + 1) := by
        rw [List.drop_eq_getElem_cons hklt]
        congr 1
        exact (List.getElem?_eq_some_iff.mp hi).2
      have hji : j ≤ i := h2 i (by rw [hd]; simp)
      have hup : ∀ x ∈ (plc n).drop (k + 1), i < x := fun x hx => by
        have hp := hs.sublist (List.drop_sublist k (plc n))
        rw [hd] at hp
        exact (List.pairwise_cons.mp hp).1 x hx
      obtain ⟨_, i1, i2⟩ := at' i hin
      obtain ⟨_, j1, j2⟩ := at' j hj
      simp
      refine W_last ?_
      by_cases hc : bAt ps i < bAt ps j
      · simp [q__law_first_1, i1, i2, j1, j2, hc]
        refine W_last ?_
        simp
        refine ⟨i, _, hin, fun x hx => ?_, fun x hx => Nat.le_of_lt (hup x hx), rfl⟩
        rw [take_at hi] at hx
        rcases List.mem_append.mp hx with hx | hx
        · have := h1 x hx; omega
        · rw [List.mem_singleton.mp hx]; omega
      · simp [q__law_first_1, i1, i2, j1, j2, hc]
        refine ⟨j, _, hj, fun x hx => ?_, fun x hx => h2 x (by rw [hd]; exact List.mem_cons_of_mem _ hx), rfl⟩
        rw [take_at hi] at hx
        rcases List.mem_append.mp hx with hx | hx
        · exact h1 x hx
        · rw [List.mem_singleton.mp hx]; omega
  simp [sFor]
  refine key.mono fun o ⟨ρ', h1, j, s3, hj, h2, _, h3⟩ => ?_
  subst h1 h3
  refine SeqK.nx (W_last ?_)
  rw [List.take_length] at h2
  have hb := (plc_mem h20).mp hj
  simp
  exact BodyK.ret (by simp) ⟨j, ⟨hb, fun i hi => h2 i ((plc_mem h20).mpr hi)⟩, bit_lt h hb, by simp [keepP]⟩
end K9
end PK92MA
section PK92MB
set_option maxHeartbeats 2000000
open PySem PySem.Spec PyProof.Rows L2 DL
namespace K9
/-! the law's prices and its least sums -/
theorem for_rng {gd : GD} {g : SM} {k : Nat} (Inv : Nat → Rho → Prop) {ρ : Rho} (h0 : Inv 0 ρ) (hs : ∀ i, i < k → ∀ ρ, Inv i ρ → W (gd (.d (natD (i + 1))) ρ) fun ρ1 => W (g ρ1) fun
      | .nx ρ2 => Inv (i + 1) ρ2
      | _ => False) : W (forRun gd g (rngD 1 1 k) ρ) fun o => ∃ ρ', o = .nx ρ' ∧ Inv k ρ' := by
  have key := for_nx (gd := gd) (g := g) id Inv (xs := rngD 1 1 k) (ρ := ρ) h0 fun i d hd ρ h => by
    obtain ⟨hi, rfl⟩ := rngD_get hd
    have e0 : (1 : Int) + (i : Int) * 1 = ((i + 1 : Nat) : Int) := by omega
    have e : PyData.int (1 + (i : Int) * 1) = natD (i + 1) := congrArg PyData.int e0
    show W (gd (.d (.int (1 + (i : Int) * 1))) ρ) _
    rw [e]
    exact hs i hi ρ h
  rw [List.map_id, rngD_len] at key
  exact key
def prs (ts : List Tk) (ps : List Pg) (q : Nat) : List Int := if q = 0 then [] else (ts.filter fun t => covB t (pks ps (plc q))).map Tk.price
def prD (ts : List Tk) (ps : List Pg) (q : Nat) : PyData := .list ((prs ts ps q).map .int)
def prsD (ts : List Tk) (ps : List Pg) (k : Nat) : List PyData := (List.range k).map (prD ts ps)
def LpI (ts : List Tk) (ps : List Pg) (i : Nat) (ρ : Rho) : Prop := ∃ s3 s4 : Sl, ρ = [.d (.list (ts.map Tk.d)), .d (.list (ps.map Pg.d)), .l (prsD ts ps (i + 1)), s3, s4, .u, .u]
theorem law_prices_v {ts : List Tk} {ps : List Pg} (ok : Ok ts ps) : m__law_prices [.d (.list (ts.map Tk.d)), .d (.list (ps.map Pg.d))] = some (.l (prsD ts ps (2 ^ ps.length)), [.u, .u]) := by
  have hr := range_pow ok.p10
  have hs := shl_one ps.length (by have := ok.p10; omega)
  have h2p := Nat.two_pow_pos ps.length
  have h1k := pow_le ok.p10
  refine W_eq.mp (W_body (W_seq ?_))
  simp
  refine SeqK.nx (W_seq ?_)
  simp [sFor, hr, hs]
  have key := for_rng (gd := gdName 3) (g := l__law_prices_3) (k := 2 ^ ps.length - 1) (LpI ts ps) (ρ := [.d (.list (ts.map Tk.d)), .d (.list (ps.map Pg.d)), .l [.list []], .u, .u, .u, .u]) ⟨.u, .u, rfl⟩ fun i hi ρ h => by
    obtain ⟨s3, s4, rfl⟩ := h
    have hlt : i + 1 < 2 ^ ps.length := by omega
    have h20 := pow20 hlt (by have := ok.p10; omega)
    have hlot := law_lot_v (i + 1) ps.length ok.p10 hlt
    simp
    refine W_seq ?_
    have hj : ∀ j ∈ plc (i + 1), j < ps.length := fun j hj => bit_lt hlt ((plc_mem h20).mp hj)
    simp only [q__law_prices_2, x_sSet, W_map]
    refine W_compA natD (pgD ps) (plc (i + 1)) (ρ' := [.d (.list (ts.map Tk.d)), .d (.list (ps.map Pg.d)), .l (prsD ts ps (i + 1)), .d (natD (i + 1)), s4, .u, .u]) (by simp [hlot]) (fun j hj2 => ?_) (Nat.le_trans (plk_len _ 20) (by omega)) ?_
    · have hi3 := hj j hj2
      have hi2 : gIx (.list (ps.map Pg.d)) (natD j) = some (.d (ps[j].d)) := ix_seq .l (by simp [hi3])
      simp [hi2, pgD, hi3]
    · rw [pgD_map ps _ hj]
      simp
      refine SeqK.nx (W_last ?_)
      have hlen : (pks ps (plc (i + 1))).length ≤ 1000 := Nat.le_trans (pks_len _ _) (Nat.le_trans (plk_len _ 20) (by omega))
      have hzo : ∀ p ∈ pks ps (plc (i + 1)), p.zones.length ≤ 1000 := fun p hp => by
        have := (ok.pok p (pks_mem hp)).z.2.1
        omega
      obtain ⟨X, hX⟩ : ∃ X, X = (pks ps (plc (i + 1))).map Pg.d := ⟨_, rfl⟩
      simp only [q__law_prices_1, x_sExpr, x_eMeth, x_aCons, x_aNil, W_bind, W_map]
      rw [← hX]
      refine ⟨_, rfl, _, rfl, ?_⟩
      refine W_compI (fun k acc ρ => acc = (((ts.take k).filter fun t => covB t (pks ps (plc (i + 1)))).map Tk.price).map .int ∧ ∃ s4 : Sl, (s4 = .l X ∨ s4 = .d (.list X)) ∧ ρ = [.d (.list (ts.map Tk.d)), .d (.list (ps.map Pg.d)), .l (prsD ts ps (i + 1)), .d (natD (i + 1)), s4, .u, .u]) (ts.map Tk.d) (ρ' := [.d (.list (ts.map Tk.d)), .d (.list (ps.map Pg.d)), .l (prsD ts ps (i + 1)), .d (natD (i + 1)), .l X, .u, .u]) rfl ⟨rfl, _, .inl rfl, rfl⟩ (fun k d hd acc ρ h => ?_) fun acc ρ h => ?_
      · obtain ⟨h1, s4, h4, rfl⟩ := h
        obtain ⟨t, ht, rfl⟩ := tk_ix ts hd
        have hcv := law_covers_v t (pks ps (plc (i + 1))) hlen hzo
        rw [← hX] at hcv
        have hklt := (List.getElem?_eq_some_iff.mp ht).1
        have hk8 := ok.t8
        rcases h4 with rfl | rfl
        all_goals
          simp [hcv]
          cases hb : covB t (pks ps (plc (i + 1))) with
          | true =>
            simp [Tk.d, h1]
            refine ⟨small_lt ?_, ?_⟩
            · have := List.length_filter_le (fun t => covB t (pks ps (plc (i + 1)))) (ts.take k)
              have h3 : (ts.take k).length ≤ k := by simp; omega
              omega
            · rw [take_at ht]
              simp [hb]
          | false =>
            simp [h1]
            rw [take_at ht]
            simp [hb]
      · obtain ⟨h1, s4, h4, rfl⟩ := h
        rw [List.length_map, List.take_length] at h1
        have hpr : prs ts ps (i + 1) = (ts.filter fun t => covB t (pks ps (plc (i + 1)))).map Tk.price := if_neg (by omega)
        rw [← hpr] at h1
        have hz : (prsD ts ps (i + 1)).length < sizeLine := nat_lt_small (by simp [prsD]; omega)
        simp [h1, hz]
        refine ⟨.d (natD (i + 1)), s4, ?_⟩
        rw [show prsD ts ps (i + 1 + 1) = prsD ts ps (i + 1) ++ [.list ((prs ts ps (i + 1)).map .int)] by simp [prsD, List.range_succ, prD]]
  refine key.mono fun o ⟨ρ', h1, s3, s4, h2⟩ => ?_
  subst h1 h2
  refine SeqK.nx (W_last ?_)
  simp
  refine BodyK.ret (by simp) ?_
  rw [show 2 ^ ps.length - 1 + 1 = 2 ^ ps.length by omega]
  simp [keepP]
end K9
end PK92MB
section PK92MC
set_option maxHeartbeats 2000000
open PySem PySem.Spec PyProof.Rows L2 DL
namespace K9
/-! the law's least sum -/
theorem od_n : optD none = .none := rfl
theorem od_s (i : Int) : optD (some i) = .int i := rfl
def vf (V : List (Option Int)) (k : Nat) : Option Int := V[k]?.join
def Cand (ts : List Tk) (ps : List Pg) (V : List (Option Int)) (n j : Nat) (x : Int) : Prop := ∃ q p r, HasPart n j q ∧ p ∈ prs ts ps q ∧ vf V (n - q) = some r ∧ x = r + p
structure LeastC (C : Int → Prop) (o : Option Int) : Prop where
  get : ∀ x, o = some x → C x
  low : ∀ x, C x → ∃ y, o = some y ∧ y ≤ x
theorem LeastC.congr {C D : Int → Prop} {o : Option Int} (h : LeastC C o) (e : ∀ x, C x ↔ D x) : LeastC D o := ⟨fun x hx => (e x).mp (h.get x hx), fun x hx => h.low x ((e x).mpr hx)⟩
theorem LeastC.uni {C : Int → Prop} {o o' : Option Int} (h : LeastC C o) (g : LeastC C o') : o = o' := by
  cases o with
  | none => cases o' with
    | none => rfl
    | some y => obtain ⟨z, e, _⟩ := h.low y (g.get y rfl); cases e
  | some x => 
    obtain ⟨y, e, h1⟩ := g.low x (h.get x rfl)
    obtain ⟨z, e2, h2⟩ := h.low y (g.get y e)
    cases e2
    rw [e]
    congr 1
    omega
def upd (o : Option Int) (a : Int) : Option Int := some (match o with
  | none => a
  | some y => if a < y then a else y)
theorem LeastC.step {C : Int → Prop} {o : Option Int} (h : LeastC C o) (a : Int) : LeastC (fun x => C x ∨ x = a) (upd o a) := by
  cases o with
  | none =>
    refine ⟨fun x hx => .inr (Option.some.inj hx).symm, fun x hx => ⟨a, rfl, ?_⟩⟩
    rcases hx with hx | rfl
    · obtain ⟨y, e, _⟩ := h.low x hx; cases e
    · omega
  | some y =>
    by_cases hc : a < y
    · have e : upd (some y) a = some a := by simp [upd, hc]
      rw [e]
      refine ⟨fun x hx => .inr (Option.some.inj hx).symm, fun x hx => ⟨a, rfl, ?_⟩⟩
      rcases hx with hx | rfl
      · obtain ⟨z, e, h1⟩ := h.low x hx; cases e; omega
      · omega
    · have e : upd (some y) a = some y := by simp [upd, hc]
      rw [e]
      refine ⟨fun x hx => .inl (h.get x hx), fun x hx => ⟨y, rfl, ?_⟩⟩
      rcases hx with hx | rfl
      · obtain ⟨z, e, h1⟩ := h.low x hx; cases e; exact h1
      · omega
def CandK (ts : List Tk) (ps : List Pg) (V : List (Option Int)) (n j k : Nat) (x : Int) : Prop := ∃ q p r, q ≤ k ∧ HasPart n j q ∧ p ∈ prs ts ps q ∧ vf V (n - q) = some r ∧ x = r + p
def LmS (ts : List Tk) (ps : List Pg) (tbl : PyData) (m j : Nat) (o : Option Int) (s6 s7 s8 : Sl) : Rho := [.d (.list (prsD ts ps (2 ^ ps.length))), .d (.list (ps.map Pg.d)), .d tbl, .d (natD m), .d (natD j), .d (optD o), s6, s7, s8]
def LmI (ts : List Tk) (ps : List Pg) (V : List (Option Int)) (tbl : PyData) (m j k : Nat) (ρ : Rho) : Prop := ∃ (o : Option Int) (s6 s7 s8 : Sl), LeastC (CandK ts ps V m j k) o ∧ ρ = LmS ts ps tbl m j o s6 s7 s8
def LmJ (ts : List Tk) (ps : List Pg) (V : List (Option Int)) (tbl : PyData) (m j k : Nat) (r : Int) (xs : List Int) (t : Nat) (ρ : Rho) : Prop := ∃ (o : Option Int) (s7 s8 : Sl), LeastC (fun x => CandK ts ps V m j k x ∨ ∃ p ∈ xs.take t, x = r + p) o ∧ ρ = LmS ts ps tbl m j o (.d (natD (k + 1))) s7 s8
theorem lm_turn {ts : List Tk} {ps : List Pg} (hp : ps.length ≤ 10) {V : List (Option Int)} {tbl : PyData} (hV : SeqOf (V.map optD) tbl) {m j : Nat} (hm : m < 2 ^ ps.length) (hl : m ≤ V.length) (k : Nat) (hk : k < m) (ρ : Rho) (h : LmI ts ps V tbl m j k ρ) : W (gdName 6 (.d (natD (k + 1))) ρ) fun ρ1 => W (l__law_most_3 ρ1) fun
      | .nx ρ2 => LmI ts ps V tbl m j (k + 1) ρ2
      | _ => False := by
  obtain ⟨o, s6, s7, s8, ho, rfl⟩ := h
  have hand : gAnd (natD (k + 1)) (natD m) = some (.d (natD ((k + 1) &&& m))) := by
    unfold natD
    rw [x_andI, PySem.W.os_band]
  have heq : gEq (natD ((k + 1) &&& m)) (natD (k + 1)) = some (.d (.bool (decide ((k + 1) &&& m = k + 1)))) := by
    unfold natD
    rw [x_eqI]
    congr 3
    simp only [decide_eq_decide]
    omega
  obtain ⟨a, b, e1, e2, e3⟩ : ∃ a b, gShr (natD (k + 1)) (natD j) = some a ∧ gAnd a.data (.int 1) = some b ∧ gEq b.data (.int 1) = some (.d (.bool ((k + 1).testBit j))) := by
    have hb := bit_int (k + 1) j
    cases e : gShr (natD (k + 1)) (natD j) with
    | none => rw [e] at hb; cases hb
    | some a =>
      rw [e, Option.bind_some] at hb
      cases e2 : gAnd a.data (.int 1) with
      | none => rw [e2] at hb; cases hb
      | some b => rw [e2] at hb; exact ⟨a, b, rfl, e2, hb⟩
  have hsub : DL.gSub (natD m) (natD (k + 1)) = some (.d (natD (m - (k + 1)))) := by
    unfold natD
    rw [x_subI]
    congr 3
    omega
  obtain ⟨w, hw⟩ : ∃ w, V[m - (k + 1)]? = some w := ⟨V[m - (k + 1)]'(by omega), by simp⟩
  have htb : gIx tbl (natD (m - (k + 1))) = some (.d (optD w)) := ix_seq hV (by simp [hw])
  have hvf : vf V (m - (k + 1)) = w := by unfold vf; rw [hw]; rfl
  have hpr : gIx (.list (prsD ts ps (2 ^ ps.length))) (natD (k + 1)) = some (.d (prD ts ps (k + 1))) := ix_seq .l (by simp [prsD, show k + 1 < 2 ^ ps.length by omega])
  have skip : (¬ HasPart m j (k + 1) ∨ w = none) → LeastC (CandK ts ps V m j (k + 1)) o := fun hn => ho.congr fun x => by
    constructor
    · rintro ⟨q, p, r, h1, h2⟩
      exact ⟨q, p, r, by omega, h2⟩
    · rintro ⟨q, p, r, h1, h2, h3, h4, h5⟩
      by_cases hq : q = k + 1
      · subst hq
        rcases hn with hn | hn
        · exact absurd h2 hn
        · rw [hvf, hn] at h4; cases h4
      · exact ⟨q, p, r, by omega, h2, h3, h4, h5⟩
  simp [LmS]
  refine W_last ?_
  by_cases hc : (k + 1) &&& m = k + 1
  · have hc0 := hc
    rw [hc, decide_eq_true rfl] at heq
    rw [hc] at hand
    cases hb : (k + 1).testBit j with
    | false =>
      simp [q__law_most_2, hand, heq, e1, e2, e3, hb]
      exact ⟨o, _, _, _, skip (.inl fun z => by rw [z.2] at hb; cases hb), rfl⟩
    | true =>
      cases w with
      | none =>
        simp [q__law_most_2, hand, heq, e1, e2, e3, hb, hsub, htb, od_n, od_s]
        exact ⟨o, _, _, _, skip (.inr rfl), rfl⟩
      | some r =>
        simp [q__law_most_2, hand, heq, e1, e2, e3, hb, hsub, htb, od_n, od_s]
        refine W_last ?_
        simp [sFor, hpr, prD]
        have key := for_nx (gd := gdName 7) (g := l__law_most_1) PyData.int (LmJ ts ps V tbl m j k r (prs ts ps (k + 1))) (xs := prs ts ps (k + 1)) (ρ := LmS ts ps tbl m j o (.d (natD (k + 1))) s7 s8) ⟨o, _, _, ho.congr fun x => by simp, rfl⟩ fun t p hp ρ h => by
          obtain ⟨o, s7, s8, ho, rfl⟩ := h
          have hu : LmJ ts ps V tbl m j k r (prs ts ps (k + 1)) (t + 1) (LmS ts ps tbl m j (upd o (r + p)) (.d (natD (k + 1))) (.d (.int p)) (.d (.int (r + p)))) := ⟨_, _, _, (ho.step (r + p)).congr fun x => by
            rw [take_at hp]
            constructor
            · rintro ((h | ⟨q, h1, h2⟩) | h)
              · exact .inl h
              · exact .inr ⟨q, List.mem_append_left _ h1, h2⟩
              · exact .inr ⟨p, by simp, h⟩
            · rintro (h | ⟨q, h1, h2⟩)
              · exact .inl (.inl h)
              · rcases List.mem_append.mp h1 with h1 | h1
                · exact .inl (.inr ⟨q, h1, h2⟩)
                · rw [List.mem_singleton.mp h1] at h2; exact .inr h2, rfl⟩
          simp [LmS]
          refine W_seq ?_
          simp [hsub, htb, od_n, od_s]
          refine SeqK.nx (W_last ?_)
          cases o with
          | none =>
            simp [od_n, od_s]
            exact hu
          | some y =>
            by_cases hy : r + p < y
            · simp [od_s, hy]
              simp only [upd, hy, if_true] at hu
              exact hu
            · simp [od_s, hy]
              simp only [upd, hy, if_false] at hu
              exact hu
        refine key.mono fun o' ⟨ρ', h1, o2, s7', s8', h2, h3⟩ => ?_
        subst h1 h3
        refine ⟨o2, _, _, _, h2.congr fun x => ?_, rfl⟩
        rw [List.take_length]
        constructor
        · rintro (⟨q, p, r, h1, h2⟩ | ⟨p, h1, h2⟩)
          · exact ⟨q, p, r, by omega, h2⟩
          · exact ⟨k + 1, p, r, by omega, ⟨hc, hb⟩, h1, hvf, h2⟩
        · rintro ⟨q, p, r', h1, h2, h3, h4, h5⟩
          by_cases hq : q = k + 1
          · subst hq
            rw [hvf] at h4
            cases h4
            exact .inr ⟨p, h3, h5⟩
          · exact .inl ⟨q, p, r', by omega, h2, h3, h4, h5⟩
  · simp [q__law_most_2, hand, heq, hc]
    exact ⟨o, _, _, _, skip (.inl fun z => hc z.1), rfl⟩
theorem law_most_v {ts : List Tk} {ps : List Pg} (hp : ps.length ≤ 10) {V : List (Option Int)} {tbl : PyData} (hV : SeqOf (V.map optD) tbl) {m : Nat} (h0 : 0 < m) (hm : m < 2 ^ ps.length) (hl : m ≤ V.length) : ∃ j o, IsFst ps m j ∧ LeastC (Cand ts ps V m j) o ∧ m__law_most [.d (.list (prsD ts ps (2 ^ ps.length))), .d (.list (ps.map Pg.d)), .d tbl, .d (natD m)] = some (.d (optD o), [.u, .u, .u, .u]) := by
  obtain ⟨j, hj, hjl, hf⟩ := law_first_v ps m h0 hm hp
  suffices g : W (m__law_most [.d (.list (prsD ts ps (2 ^ ps.length))), .d (.list (ps.map Pg.d)), .d tbl, .d (natD m)]) fun x => ∃ o, LeastC (Cand ts ps V m j) o ∧ x = (.d (optD o), [.u, .u, .u, .u]) by
    obtain ⟨x, e, o, h1, rfl⟩ := g
    exact ⟨j, o, hj, h1, e⟩
  have hlot := law_lot_v m ps.length hp hm
  have h1k := pow_le hp
  have hr : range2D [.int 1, .int ((m : Int) + 1)] = some (rngD 1 1 m) := by
    unfold range2D
    have hs : small62 1 = true := by decide
    have ht : small62 ((m : Int) + 1) = true := by
      unfold small62
      rw [Bool.and_eq_true, decide_eq_true_eq, decide_eq_true_eq]
      omega
    have hn : (((m : Int) + 1) - 1).toNat = m := by omega
    refine (if_pos (by rw [hs, ht]; rfl)).trans ?_
    rw [hn]
  refine W_body (W_seq ?_)
  simp [q__law_most_4, hlot, hf]
  refine SeqK.nx (W_seq ?_)
  have ha : gAdd (natD m) (.int 1) = some (.d (.int ((m : Int) + 1))) := by unfold natD; rw [x_addI]
  simp [sFor, ha, hr]
  have key := for_rng (gd := gdName 6) (g := l__law_most_3) (k := m) (LmI ts ps V tbl m j) (ρ := LmS ts ps tbl m j none .u .u .u) ⟨none, _, _, _, ⟨fun x hx => (by cases hx), fun x hx => by
    obtain ⟨q, p, r, h1, h2, h3⟩ := hx
    have := pos_of_bit h2.2
    omega⟩, rfl⟩ fun i hi ρ h => lm_turn hp hV hm hl i hi ρ h
  refine key.mono fun o ⟨ρ', h1, o2, s6, s7, s8, h2, h3⟩ => ?_
  subst h1 h3
  refine SeqK.nx (W_last ?_)
  simp [LmS]
  refine BodyK.ret (by simp) ⟨o2, h2.congr fun x => ?_, by simp [keepP]⟩
  constructor
  · rintro ⟨q, p, r, h1, h2⟩
    exact ⟨q, p, r, h2⟩
  · rintro ⟨q, p, r, h2⟩
    exact ⟨q, p, r, sub_le h2.1.1, h2⟩
end K9
end PK92MC
section PK92MD
set_option maxHeartbeats 2000000
open PySem PySem.Spec PyProof.Rows L2 DL
namespace K9
/-! tables: the law's own and the program's are the same -/
structure Dt (ts : List Tk) (ps : List Pg) (V : List (Option Int)) : Prop where
  len : V.length = 2 ^ ps.length
  zero : V[0]? = some (some 0)
  get : ∀ m x, 0 < m → V[m]? = some (some x) → ∃ (q : Nat) (s r : Int), Sub q m ∧ 0 < q ∧ sg ts ps q = some s ∧ V[m - q]? = some (some r) ∧ x = s + r
  low : ∀ m, 0 < m → m < V.length → ∃ j, m.testBit j = true ∧ ∀ q, HasPart m j q → ∀ s r, sg ts ps q = some s → V[m - q]? = some (some r) → ∃ x, V[m]? = some (some x) ∧ x ≤ s + r
variable {ts : List Tk} {ps : List Pg} {V V' : List (Option Int)}
theorem Dt.low_all (D : Dt ts ps V) : ∀ (k m : Nat), m < k → m < V.length → ∀ (L : List Nat) (S : Int), Part m L → sumO (L.map (sg ts ps)) = some S → ∃ x, V[m]? = some (some x) ∧ x ≤ S
  | 0, m, hk, _, _, _, _, _ => absurd hk (Nat.not_lt_zero m)
  | k + 1, m, hk, hm, L, S, hp, hS => by
    rcases Nat.eq_zero_or_pos m with h0 | h0
    · subst h0
      cases L with
      | nil =>
        simp [sumO] at hS
        exact ⟨_, D.zero, by rw [← hS]; exact Int.le_refl _⟩
      | cons q L =>
        obtain ⟨h1, h2, _⟩ := hp.inv
        have := sub_le h2
        omega
    · obtain ⟨j, hj, hlow⟩ := D.low m h0 hm
      obtain ⟨q, hq, hqj⟩ := hp.has hj
      have pe := List.perm_cons_erase hq
      obtain ⟨h1, h2, h3⟩ := (hp.perm pe).inv
      rw [sumO_perm (pe.map (sg ts ps)), List.map_cons] at hS
      cases hs : sg ts ps q with
      | none => rw [hs] at hS; simp [sumO] at hS
      | some s =>
        rw [hs] at hS
        cases hr : sumO ((L.erase q).map (sg ts ps)) with
        | none => simp [sumO, hr] at hS
        | some R =>
          simp [sumO, hr] at hS
          have hqm := sub_le h2
          obtain ⟨r', hr1, hr2⟩ := D.low_all k (m - q) (by omega) (by omega) _ R h3 hr
          obtain ⟨r, e1, e2⟩ := hlow q ⟨h2, hqj⟩ s r' hs hr1
          exact ⟨r, e1, by omega⟩
theorem Dt.get_all (D : Dt ts ps V) : ∀ (k m : Nat) (x : Int), m < k → V[m]? = some (some x) → ∃ L, Part m L ∧ sumO (L.map (sg ts ps)) = some x
  | 0, m, _, hk, _ => absurd hk (Nat.not_lt_zero m)
  | k + 1, m, x, hk, hr => by
    rcases Nat.eq_zero_or_pos m with h0 | h0
    · subst h0
      rw [D.zero] at hr
      cases hr
      exact ⟨[], .nil, rfl⟩
    · obtain ⟨q, s, r, h2, h3, h4, h5, h6⟩ := D.get m x h0 hr
      have := sub_le h2
      obtain ⟨L, hL, hS⟩ := D.get_all k (m - q) r (by omega) h5
      exact ⟨q :: L, .cons h3 h2 hL, by rw [List.map_cons, h4]; simp [sumO, hS, h6]⟩
theorem Dt.le (D : Dt ts ps V) (D' : Dt ts ps V') {m : Nat} {x : Int} (h : V[m]? = some (some x)) : ∃ y, V'[m]? = some (some y) ∧ y ≤ x := by
  obtain ⟨L, h1, h2⟩ := D.get_all (m + 1) m x (by omega) h
  have hlt := (List.getElem?_eq_some_iff.mp h).1
  exact D'.low_all (m + 1) m (by omega) (by rw [D'.len, ← D.len]; exact hlt) L x h1 h2
theorem Dt.uni (D : Dt ts ps V) (D' : Dt ts ps V') : V = V' := by
  refine List.ext_getElem? fun m => ?_
  have hl := D.len
  have hl' := D'.len
  rcases Nat.lt_or_ge m V.length with hm | hm
  · have e : V[m]? = some V[m] := by simp [hm]
    have hm' : m < V'.length := by omega
    have e' : V'[m]? = some V'[m] := by simp [hm']
    cases h : V[m] with
    | some x =>
      rw [h] at e
      obtain ⟨y, h1, h2⟩ := D.le D' e
      obtain ⟨z, h3, h4⟩ := D'.le D h1
      rw [e] at h3
      cases h3
      rw [e, h1]
      congr 2
      omega
    | none =>
      rw [h] at e
      cases h' : V'[m] with
      | none => rw [e, e', h']
      | some x =>
        rw [h'] at e'
        obtain ⟨y, h1, h2⟩ := D'.le D e'
        rw [e] at h1
        cases h1
  · rw [List.getElem?_eq_none hm, List.getElem?_eq_none (by omega)]
theorem Dp.dt {rs : List (Option Row)} (D : Dp ts ps rs) : Dt ts ps (rs.map fun o => o.map Row.c) := by
  have at1 : ∀ {m : Nat} {x : Int}, (rs.map fun o => o.map Row.c)[m]? = some (some x) → ∃ r, rs[m]? = some (some r) ∧ x = r.c := fun {m x} h => by
    rw [List.getElem?_map] at h
    cases e : rs[m]? with
    | none => rw [e] at h; cases h
    | some o =>
      cases o with
      | none => rw [e] at h; cases h
      | some r => rw [e] at h; exact ⟨r, rfl, by simpa using h.symm⟩
  refine ⟨by simp [D.len], by simp [D.zero], fun m x h0 h => ?_, fun m h0 h => ?_⟩
  · obtain ⟨r, hr, rfl⟩ := at1 h
    obtain ⟨q, i, t, r', _, h2, h3, _, _, _, h4, h5, h6⟩ := D.get m r h0 hr
    exact ⟨q, t.price, r'.c, h2, h3, h4, by simp [h5], h6⟩
  · obtain ⟨j, hj, hlow⟩ := D.low m h0 (by simpa using h)
    refine ⟨j, hj, fun q hq s r hs hr => ?_⟩
    obtain ⟨r', e, rfl⟩ := at1 hr
    obtain ⟨z, h1, h2⟩ := hlow q hq s r' hs e
    exact ⟨z.c, by simp [h1], h2⟩
theorem prs_sg {q : Nat} (h : 0 < q) : sg ts ps q = minO (prs ts ps q) := by
  unfold prs sg sgl
  rw [if_neg (by omega)]
theorem vf_some {m : Nat} {r : Int} : vf V m = some r ↔ V[m]? = some (some r) := by
  unfold vf
  cases V[m]? with
  | none => simp
  | some o => simp
structure Tbl (ts : List Tk) (ps : List Pg) (V : List (Option Int)) : Prop where
  len : V.length = 2 ^ ps.length
  zero : V[0]? = some (some 0)
  at' : ∀ m, 0 < m → m < V.length → ∃ j, IsFst ps m j ∧ LeastC (Cand ts ps V m j) (vf V m)
theorem Tbl.dt (T : Tbl ts ps V) : Dt ts ps V := by
  refine ⟨T.len, T.zero, fun m x h0 h => ?_, fun m h0 h => ?_⟩
  · obtain ⟨j, hj, hl⟩ := T.at' m h0 (List.getElem?_eq_some_iff.mp h).1
    obtain ⟨q, p, r, h1, h2, h3, h4⟩ := hl.get x (vf_some.mpr h)
    have hq := pos_of_bit h1.2
    refine ⟨q, p, r, h1.1, hq, ?_, vf_some.mp h3, by omega⟩
    rw [prs_sg hq, minO_iff]
    refine ⟨h2, fun y hy => ?_⟩
    obtain ⟨z, e, hz⟩ := hl.low (r + y) ⟨q, y, r, h1, hy, h3, rfl⟩
    rw [vf_some.mpr h] at e
    cases e
    omega
  · obtain ⟨j, hj, hl⟩ := T.at' m h0 h
    refine ⟨j, hj.bit, fun q hq s r hs hr => ?_⟩
    rw [prs_sg (pos_of_bit hq.2)] at hs
    obtain ⟨x, e, hx⟩ := hl.low (r + s) ⟨q, s, r, hq, (minO_iff.mp hs).1, vf_some.mpr hr, rfl⟩
    exact ⟨x, vf_some.mp e, by omega⟩
theorem Cand_congr {W' : List (Option Int)} {n j : Nat} (h : ∀ k, k < n → vf V k = vf W' k) (x : Int) : Cand ts ps V n j x ↔ Cand ts ps W' n j x := by
  constructor
  all_goals
    rintro ⟨q, p, r, h1, h2, h3, h4⟩
    have := pos_of_bit h1.2
    have := sub_le h1.1
    have e := h (n - q) (by omega)
    refine ⟨q, p, r, h1, h2, ?_, h4⟩
    rw [← h3, e]
/-! ### the law's table -/
def LlI (ts : List Tk) (ps : List Pg) (i : Nat) (ρ : Rho) : Prop := ∃ (V : List (Option Int)) (s3 : Sl), V.length = i + 1 ∧ V[0]? = some (some 0) ∧ (∀ m, 0 < m → m < V.length → ∃ j, IsFst ps m j ∧ LeastC (Cand ts ps V m j) (vf V m)) ∧ ρ = [.d (.list (prsD ts ps (2 ^ ps.length))), .d (.list (ps.map Pg.d)), .l (V.map optD), s3]
theorem law_least_v (hp : ps.length ≤ 10) : ∃ V, Tbl ts ps V ∧ m__law_least [.d (.list (prsD ts ps (2 ^ ps.length))), .d (.list (ps.map Pg.d))] = some (.l (V.map optD), [.u, .u]) := by
  have hr := range_pow hp
  have hs := shl_one ps.length (by omega)
  have h2p := Nat.two_pow_pos ps.length
  have h1k := pow_le hp
  suffices g : W (m__law_least [.d (.list (prsD ts ps (2 ^ ps.length))), .d (.list (ps.map Pg.d))]) fun x => ∃ V, Tbl ts ps V ∧ x = (.l (V.map optD), [.u, .u]) by
    obtain ⟨x, e, V, h1, rfl⟩ := g
    exact ⟨V, h1, e⟩
  refine W_body (W_seq ?_)
  simp
  refine SeqK.nx (W_seq ?_)
  simp [sFor, hr, hs]
  have key := for_rng (gd := gdName 3) (g := l__law_least_1) (k := 2 ^ ps.length - 1) (LlI ts ps) (ρ := [.d (.list (prsD ts ps (2 ^ ps.length))), .d (.list (ps.map Pg.d)), .l [.int 0], .u]) ⟨[some 0], .u, rfl, rfl, (fun m h0 h => by simp at h; omega), rfl⟩ fun i hi ρ h => by
    obtain ⟨V, s3, hl, hz, hV, rfl⟩ := h
    obtain ⟨j, o, hj, ho, hm⟩ := law_most_v (ts := ts) hp (V := V ++ [none]) (tbl := .list ((V ++ [none]).map optD)) .l (m := i + 1) (by omega) (by omega) (by simp; omega)
    have hsz : V.length < sizeLine := nat_lt_small (by omega)
    have hset : atI (V.map optD ++ [.none]) ((i + 1 : Nat) : Int) = some .none := by rw [DL.atI_nat]; simp [hl]
    rw [List.map_append] at hm
    have hm' : m__law_most [.d (.list (prsD ts ps (2 ^ ps.length))), .d (.list (ps.map Pg.d)), .d (.list (V.map optD ++ [.none])), .d (natD (i + 1))] = some (.d (optD o), [.u, .u, .u, .u]) := hm
    simp
    refine W_seq ?_
    simp [hsz]
    refine SeqK.nx (W_last ?_)
    simp [hm']
    have hix : ixN (V.length + 1) ((i + 1 : Nat) : Int) = some (i + 1) := by unfold L2.ixN; rw [if_pos (by omega), if_pos (by omega)]; simp
    refine ⟨by cases o <;> rfl, ?_⟩
    have hst : (V.map optD ++ [PyData.none]).set (i + 1) (optD o) = (V ++ [o]).map optD := by
      rw [← hl, ← List.length_map (f := optD) (as := V), List.set_append_right _ _ (Nat.le_refl _)]
      simp
    have hii : natD (i + 1) = .int ((i + 1 : Nat) : Int) := rfl
    simp [gdIx, hii, hix]
    rw [show ((i : Int) + 1) = ((i + 1 : Nat) : Int) by omega]
    refine W.of hix ?_
    rw [hst]
    have e1 : ∀ k, k ≤ i → ∀ w, vf (V ++ [w]) k = vf V k := fun k hk w => by unfold vf; rw [List.getElem?_append_left (by omega)]
    have e2 : vf (V ++ [o]) (i + 1) = o := by unfold vf; rw [← hl, List.getElem?_append_right (Nat.le_refl _)]; simp
    refine ⟨V ++ [o], _, by simp [hl], by rw [List.getElem?_append_left (by omega)]; exact hz, fun m h0 h => ?_, rfl⟩
    by_cases hm : m = i + 1
    · subst hm
      rw [e2]
      exact ⟨j, hj, ho.congr fun x => Cand_congr (fun k hk => by rw [e1 k (by omega), e1 k (by omega)]) x⟩
    · have hlt : m ≤ i := by simp at h; omega
      obtain ⟨j', h1, h2⟩ := hV m h0 (by omega)
      rw [e1 m hlt]
      exact ⟨j', h1, h2.congr fun x => Cand_congr (fun k hk => (e1 k (by omega) o).symm) x⟩
  refine key.mono fun o ⟨ρ', h1, V, s3, h2, h3, h4, h5⟩ => ?_
  subst h1 h5
  refine SeqK.nx (W_last ?_)
  simp
  exact BodyK.ret (by simp) ⟨V, ⟨by omega, h3, h4⟩, by simp [keepP]⟩
end K9
end PK92MD
section PK92ME
set_option maxHeartbeats 2000000
open PySem PySem.Spec PyProof.Rows L2 DL
namespace K9
/-! which tables the program lets pass -/
variable {ts : List Tk} {ps : List Pg} {V : List (Option Int)}
theorem price_table_v (ok : Ok ts ps) {v u : PyData} (hv : SeqOf (ts.map Tk.d) v) (hu : SeqOf (ps.map Pg.d) u) (T : Tbl ts ps V) : m_price_table [.d v, .d u] = some (.l (V.map optD), [.u, .u]) := by
  obtain ⟨rs, D, hm⟩ := least_prices_v ok hv hu
  have e := D.dt.uni T.dt
  refine W_eq.mp (W_body (W_seq ?_))
  have h1 := want_tickets_ok ts ok.tok ok.t1 ok.t8 hv
  have h2 := want_passages_ok ps ok.pok ok.p10 hu
  simp [h1]
  refine SeqK.nx (W_last ?_)
  simp [h2, hm]
  refine BodyK.ret (by simp) ?_
  rw [← e, List.map_map]
  simp [keepP]
def wthB (d : PyData) : Bool := isNone d || btw d 0 99999
theorem is_worth_v (d : PyData) : m_is_worth [.d d] = some (.d (.bool (wthB d)), [.u]) := by
  refine W_eq.mp (W_body (W_last ?_))
  cases h : isNone d with
  | true =>
    simp [h]
    exact BodyK.ret (by simp) (by simp [keepP, wthB, h])
  | false =>
    simp [h, is_between_v]
    exact BodyK.ret (by simp) (by simp [keepP, wthB, h])
theorem wth_some {d : PyData} (h : wthB d = true) : ∃ o : Option Int, d = optD o ∧ ∀ x, o = some x → 0 ≤ x ∧ x ≤ 99999 := by
  cases d with
  | none => exact ⟨none, rfl, fun x hx => by cases hx⟩
  | int i =>
    refine ⟨some i, rfl, fun x hx => ?_⟩
    cases hx
    simpa [wthB, isNone, btw] using h
  | bool _ => simp [wthB, isNone, btw] at h
  | str _ => simp [wthB, isNone, btw] at h
  | list _ => simp [wthB, isNone, btw] at h
  | tuple _ => simp [wthB, isNone, btw] at h
  | dict _ => simp [wthB, isNone, btw] at h
theorem wth_opt {o : Option Int} : wthB (optD o) = true ↔ ∀ x, o = some x → 0 ≤ x ∧ x ≤ 99999 := by
  cases o with
  | none => simp [wthB, optD, isNone]
  | some x => simp [wthB, optD, isNone, btw]
theorem wth_all : ∀ {ds : List PyData}, ds.all wthB = true → ∃ V : List (Option Int), ds = V.map optD ∧ ∀ x, some x ∈ V → 0 ≤ x ∧ x ≤ 99999
  | [], _ => ⟨[], rfl, fun x hx => by cases hx⟩
  | d :: ds, h => by
    rw [List.all_cons, Bool.and_eq_true] at h
    obtain ⟨o, rfl, ho⟩ := wth_some h.1
    obtain ⟨V, rfl, hV⟩ := wth_all h.2
    refine ⟨o :: V, rfl, fun x hx => ?_⟩
    rcases List.mem_cons.mp hx with hx | hx
    · exact ho x hx.symm
    · exact hV x hx
theorem all_wth {V : List (Option Int)} (h : ∀ x, some x ∈ V → 0 ≤ x ∧ x ≤ 99999) : (V.map optD).all wthB = true := by
  rw [List.all_eq_true]
  intro d hd
  obtain ⟨o, ho, rfl⟩ := List.mem_map.mp hd
  exact wth_opt.mpr fun x hx => h x (hx ▸ ho)
def bndB (w r : Option Int) (s : Option (Int × Int)) : Bool := match r, s with
  | some r, some s => (match w with
    | some w => decide (w ≤ r + s.1)
    | none => false)
  | _, _ => true
theorem is_bounded_v (w r : Option Int) (s : Option (Int × Int)) : m_is_bounded [.d (optD w), .d (optD r), .d (opD s)] = some (.d (.bool (bndB w r s)), [.u, .u, .u]) := by
  refine W_eq.mp (W_body (W_last ?_))
  have out : ∀ (b : Bool) (a1 a2 a3 : PyData), b = bndB w r s → BodyK 3 (fun x => x = (.d (.bool (bndB w r s)), [.u, .u, .u])) (.ret (.d (.bool b)) [.d a1, .d a2, .d a3]) := fun b a1 a2 a3 h => BodyK.ret (by simp) (by simp [keepP, h])
  cases r with
  | none =>
    simp [q_is_bounded_1, od_n, isNone]
    exact out _ _ _ _ (by simp [bndB])
  | some r =>
    cases s with
    | none =>
      simp [q_is_bounded_1, od_s, isNone, opD]
      exact out _ _ _ _ (by simp [bndB])
    | some s =>
      cases w with
      | none =>
        simp [q_is_bounded_1, od_s, od_n, isNone, opD, pairD]
        exact out _ _ _ _ (by simp [bndB])
      | some w =>
        simp [q_is_bounded_1, od_s, od_n, isNone, opD, pairD]
        exact out _ _ _ _ (by simp [bndB])
def Let (ts : List Tk) (ps : List Pg) (V : List (Option Int)) (m : Nat) : Prop := ∀ j, IsFst ps m j → ∀ x, Cand ts ps V m j x → ∃ y, vf V m = some y ∧ y ≤ x
noncomputable def letB (ts : List Tk) (ps : List Pg) (V : List (Option Int)) (m : Nat) : Bool := @decide (Let ts ps V m) (Classical.propDecidable _)
theorem letB_iff {m : Nat} : letB ts ps V m = true ↔ Let ts ps V m := by unfold letB; exact @decide_eq_true_iff _ (Classical.propDecidable _)
def RlI (ls : List (Option (Int × Int))) (u tbl : PyData) (V : List (Option Int)) (m : Nat) (qs : List Nat) (k : Nat) (ρ : Rho) : Prop := (∀ q ∈ qs.take k, ∀ s, ls[q]? = some s → bndB (vf V m) (vf V (m - q)) s = true) ∧ ∃ s4, ρ = [.d (.list (ls.map opD)), .d u, .d tbl, .d (natD m), s4]
def RlR (ls : List (Option (Int × Int))) (V : List (Option Int)) (m : Nat) (qs : List Nat) (r : Rs) (ρ : Rho) : Prop := r = .d (.bool false) ∧ (∃ q ∈ qs, ∃ s, ls[q]? = some s ∧ bndB (vf V m) (vf V (m - q)) s = false) ∧ ∃ s0 s1 s2 s3 s4, ρ = [.d s0, .d s1, .d s2, .d s3, s4]
theorem bnd_iff {ls : List (Option (Int × Int))} (hls : ∀ n o, ls[n]? = some o → LkOk ts ps n o) {m q : Nat} {s : Option (Int × Int)} (hq : 0 < q) (hs : ls[q]? = some s) : bndB (vf V m) (vf V (m - q)) s = true ↔ ∀ p r, p ∈ prs ts ps q → vf V (m - q) = some r → ∃ y, vf V m = some y ∧ y ≤ r + p := by
  have hk := hls q s hs
  unfold LkOk at hk
  rw [if_neg (by omega)] at hk
  have h1 : s.map Prod.fst = minO (prs ts ps q) := hk.1.trans (prs_sg hq)
  cases s with
  | none =>
    have : prs ts ps q = [] := minO_none.mp h1.symm
    rw [this]
    simp [bndB]
  | some s =>
    have hm := minO_iff.mp (show minO (prs ts ps q) = some s.1 from h1.symm)
    cases hr : vf V (m - q) with
    | none => simp [bndB]
    | some r =>
      cases hw : vf V m with
      | none =>
        simp only [bndB]
        refine ⟨fun h => (by cases h), fun h => ?_⟩
        obtain ⟨y, e, _⟩ := h s.1 r hm.1 rfl
        cases e
      | some w =>
        simp only [bndB, decide_eq_true_eq]
        constructor
        · intro h p r' hp hr'
          cases hr'
          have := hm.2 p hp
          exact ⟨w, rfl, by omega⟩
        · intro h
          obtain ⟨y, e, hy⟩ := h s.1 r hm.1 rfl
          cases e
          exact hy
theorem is_row_let_v (hp : ps.length ≤ 10) {ls : List (Option (Int × Int))} (hll : ls.length = 2 ^ ps.length) (hls : ∀ n o, ls[n]? = some o → LkOk ts ps n o) {u : PyData} (hu : SeqOf (ps.map Pg.d) u) {tbl : PyData} (hV : SeqOf (V.map optD) tbl) (hl : V.length = 2 ^ ps.length) {m : Nat} (h0 : 0 < m) (hm : m < 2 ^ ps.length) : m_is_row_let [.d (.list (ls.map opD)), .d u, .d tbl, .d (natD m)] = some (.d (.bool (letB ts ps V m)), [.u, .u, .u, .u]) := by
  obtain ⟨j, hj, hjl, hf⟩ := first_in_x ps hu m h0 hm hp
  have h1k := pow_le hp
  obtain ⟨qs, hqs, hpw⟩ := parts_with_v m j (by omega) hj.bit (by omega)
  have hbd : ∀ q ∈ qs, 0 < q ∧ q ≤ m := fun q hq => ⟨pos_of_bit ((hqs q).mp hq).2, sub_le ((hqs q).mp hq).1⟩
  have vat : ∀ k, k < 2 ^ ps.length → gIx tbl (natD k) = some (.d (optD (vf V k))) := fun k hk => ix_seq hV (by
    unfold vf
    have hk' : k < V.length := by omega
    simp [hk'])
  have good : (∀ q ∈ qs, ∀ s, ls[q]? = some s → bndB (vf V m) (vf V (m - q)) s = true) → letB ts ps V m = true := fun h => letB_iff.mpr fun j' hj' x hx => by
    obtain ⟨q, p, r, c1, c2, c3, c4⟩ := hx
    rw [hj'.uni hj] at c1
    have hq := (hqs q).mpr c1
    obtain ⟨b1, b2⟩ := hbd q hq
    obtain ⟨s, hs⟩ : ∃ s, ls[q]? = some s := ⟨ls[q]'(by omega), by simp⟩
    obtain ⟨y, e1, e2⟩ := (bnd_iff hls b1 hs).mp (h q hq s hs) p r c2 c3
    exact ⟨y, e1, by omega⟩
  have bad : (∃ q ∈ qs, ∃ s, ls[q]? = some s ∧ bndB (vf V m) (vf V (m - q)) s = false) → letB ts ps V m = false := fun ⟨q, hq, s, hs, hb⟩ => by
    rw [Bool.eq_false_iff]
    intro h
    obtain ⟨b1, b2⟩ := hbd q hq
    have := (bnd_iff (V := V) (m := m) hls b1 hs).mpr fun p r hp hr => letB_iff.mp h j hj (r + p) ⟨q, p, r, (hqs q).mp hq, hp, hr, rfl⟩
    rw [this] at hb
    cases hb
  refine W_eq.mp (W_body (W_seq ?_))
  simp [q_is_row_let_3, sFor, hf, hpw]
  have key := for_gen (gd := gdName 4) (g := l_is_row_let_2) natD (RlI ls u tbl V m qs) (fun _ => RlR ls V m qs) qs 0 [.d (.list (ls.map opD)), .d u, .d tbl, .d (natD m), .u] ⟨by simp, .u, rfl⟩ fun i q hi ρ h => by
    rw [Nat.zero_add] at h ⊢
    obtain ⟨h1, s4, rfl⟩ := h
    have hq := List.mem_of_getElem? hi
    obtain ⟨b1, b2⟩ := hbd q hq
    obtain ⟨s, hs⟩ : ∃ s, ls[q]? = some s := ⟨ls[q]'(by omega), by simp⟩
    have hsub : DL.gSub (natD m) (natD q) = some (.d (natD (m - q))) := by
      unfold natD
      rw [x_subI]
      congr 3
      omega
    have t1 := vat m hm
    have t2 := vat (m - q) (by omega)
    have t3 : gIx (.list (ls.map opD)) (natD q) = some (.d (opD s)) := ix_seq .l (by simp [hs])
    have hb := is_bounded_v (vf V m) (vf V (m - q)) s
    simp
    refine W_last ?_
    cases hbb : bndB (vf V m) (vf V (m - q)) s with
    | true =>
      rw [hbb] at hb
      simp [q_is_row_let_1, t1, t2, t3, hsub, hb]
      refine ⟨fun q' hq' s' hs' => ?_, _, rfl⟩
      rw [take_at hi] at hq'
      rcases List.mem_append.mp hq' with hq' | hq'
      · exact h1 q' hq' s' hs'
      · rw [List.mem_singleton.mp hq'] at hs' ⊢
        rw [hs] at hs'
        cases hs'
        exact hbb
    | false =>
      rw [hbb] at hb
      simp [q_is_row_let_1, t1, t2, t3, hsub, hb]
      refine W_last ?_
      simp
      exact ⟨rfl, ⟨q, hq, s, hs, hbb⟩, _, _, _, _, _, rfl⟩
  refine key.mono fun o h => ?_
  rcases h with ⟨ρ', rfl, hall, s4, rfl⟩ | ⟨i, r, ρ', hi, rfl, rfl, hb, s0, s1, s2, s3, s4, rfl⟩
  · refine SeqK.nx (W_last ?_)
    simp
    rw [Nat.zero_add, List.take_length] at hall
    exact BodyK.ret (by simp) (by simp [keepP, good hall])
  · exact SeqK.ret (BodyK.ret (by simp) (by simp [keepP, bad hb]))
end K9
end PK92ME
section PK92MF
set_option maxHeartbeats 2000000
open PySem PySem.Spec PyProof.Rows L2 DL
namespace K9
variable {ts : List Tk} {ps : List Pg}
structure TabOk (ts : List Tk) (ps : List Pg) (v : PyData) (V : List (Option Int)) : Prop where
  seq : SeqOf (V.map optD) v
  len : V.length = 2 ^ ps.length
  wth : ∀ x, some x ∈ V → 0 ≤ x ∧ x ≤ 99999
  zero : V[0]? = some (some 0)
  low : ∀ m, 0 < m → m < 2 ^ ps.length → Let ts ps V m
noncomputable def tabB (ts : List Tk) (ps : List Pg) (v : PyData) : Bool := @decide (∃ V, TabOk ts ps v V) (Classical.propDecidable _)
theorem tabB_iff {v : PyData} : tabB ts ps v = true ↔ ∃ V, TabOk ts ps v V := by unfold tabB; exact @decide_eq_true_iff _ (Classical.propDecidable _)
theorem tabB_no {v : PyData} (h : ∀ V, ¬ TabOk ts ps v V) : tabB ts ps v = false := by
  rw [Bool.eq_false_iff]
  intro e
  obtain ⟨V, hV⟩ := tabB_iff.mp e
  exact h V hV
theorem optD_inj : ∀ {o o' : Option Int}, optD o = optD o' → o = o'
  | none, none, _ => rfl
  | some x, some y, h => by cases h; rfl
  | none, some y, h => by cases h
  | some y, none, h => by cases h
theorem SeqOf.uni {xs ys : List PyData} {v : PyData} (h : SeqOf xs v) (g : SeqOf ys v) : xs = ys := by
  cases h <;> cases g <;> rfl
theorem opt_map_inj {V W : List (Option Int)} (h : V.map optD = W.map optD) : V = W := List.map_inj_right (fun _ _ e => optD_inj e) |>.mp h
theorem items_seq {ds : List PyData} {v : PyData} (h : SeqOf ds v) : itemsOf v = some ds := by cases h <;> rfl
theorem isi_seq {ds : List PyData} {v : PyData} (h : SeqOf ds v) : (isLstD v || isTupD v) = true := by cases h <;> rfl
theorem seq_isi {v : PyData} (h : (isLstD v || isTupD v) = true) : ∃ ds, SeqOf ds v := by
  cases v <;> first | exact ⟨_, .l⟩ | exact ⟨_, .t⟩ | cases h
theorem TabOk.of {v : PyData} {V W : List (Option Int)} (hV : SeqOf (V.map optD) v) (h : TabOk ts ps v W) : TabOk ts ps v V := by
  rw [opt_map_inj (hV.uni h.seq)]
  exact h
theorem range_one {n : Nat} (h0 : 0 < n) (h : n ≤ 100000) : range2D [.int 1, .int (n : Int)] = some (rngD 1 1 (n - 1)) := by
  unfold range2D
  have hs : small62 1 = true := by decide
  have ht : small62 (n : Int) = true := by
    unfold small62
    rw [Bool.and_eq_true, decide_eq_true_eq, decide_eq_true_eq]
    omega
  have hn : ((n : Int) - 1).toNat = n - 1 := by omega
  refine (if_pos (by rw [hs, ht]; rfl)).trans ?_
  rw [hn]
theorem rng1_nats (k : Nat) : rngD 1 1 k = (List.range k).map fun i => natD (i + 1) := by
  refine List.ext_getElem? fun i => ?_
  rw [List.getElem?_map]
  cases h : (rngD 1 1 k)[i]? with
  | none =>
    have : k ≤ i := by simpa using List.getElem?_eq_none_iff.mp h
    rw [List.getElem?_eq_none (by simpa using this)]
    rfl
  | some d =>
    obtain ⟨h1, rfl⟩ := rngD_get h
    simp [h1, natD]
    omega
theorem ne_zero (o : Option Int) : gNe (optD o) (.int 0) = some (.d (.bool (!decide (o = some 0)))) := by
  cases o with
  | none => rfl
  | some x => rw [od_s, x_neI]; simp
def ShortV (v : PyData) : Prop := ∀ ds, SeqOf ds v → ds.length ≤ 2000
theorem bounds_v (ok : Ok ts ps) {t u : PyData} (ht : SeqOf (ts.map Tk.d) t) (hu : SeqOf (ps.map Pg.d) u) (v : PyData) (hz : ShortV v) : m_bounds [.d t, .d u, .d v] = some (.d (.bool (tabB ts ps v)), [.u, .u, .u]) := by
  have hp := ok.p10
  have hs := shl_one ps.length (by omega)
  have h2p := Nat.two_pow_pos ps.length
  have h1k := pow_le hp
  have hlu := len_seq hu
  rw [List.length_map] at hlu
  have no : ∀ {r : Sl}, tabB ts ps v = false → BodyK 3 (fun x => x = (.d (.bool (tabB ts ps v)), [.u, .u, .u])) (.ret (.d (.bool false)) [.d t, .d u, .d v, .u, r, .u]) := fun h => BodyK.ret (by simp) (by simp [keepP, h])
  refine W_eq.mp (W_body (W_seq ?_))
  cases hi : isLstD v || isTupD v with
  | false =>
    have h1 : isLstD v = false := by cases h : isLstD v <;> simp_all
    have h2 : isTupD v = false := by cases h : isTupD v <;> simp_all
    simp [q_bounds_3, h1, h2]
    refine W_last ?_
    simp
    exact SeqK.ret (no (tabB_no fun V hV => by rw [isi_seq hV.seq] at hi; cases hi))
  | true =>
    obtain ⟨ds, hds⟩ := seq_isi hi
    have hlv := len_seq hds
    have hdl := hz ds hds
    have hn : gNe (.int (ds.length : Int)) (natD (2 ^ ps.length)) = some (.d (.bool (!decide (ds.length = 2 ^ ps.length)))) := by
      unfold natD
      rw [x_neI]
      congr 4
      simp only [decide_eq_decide]
      omega
    by_cases hl : ds.length = 2 ^ ps.length
    · rw [decide_eq_true hl] at hn
      simp [q_bounds_3, hi, hlu, hlv, hs, hn]
      refine SeqK.nx (W_seq ?_)
      have hc : eComp [4] (iSeq (eVar 2)) (gdName 4) tAll (eCall 1 m_is_worth (aCons (eVar 4) aNil)) [.d t, .d u, .d v, .u, .u, .u] = some (.l (ds.map fun d => PyData.bool (wthB d)), [.d t, .d u, .d v, .u, .u, .u]) := by
        refine W_eq.mp (W_compA id (fun d => PyData.bool (wthB d)) ds (ρ' := [.d t, .d u, .d v, .u, .u, .u]) (by simp [items_seq hds]) (fun d hd => ?_) (by omega) rfl)
        simp [is_worth_v]
      cases hw : ds.all wthB with
      | false =>
        simp [q_bounds_2, hc, all_M, hw]
        refine W_last ?_
        simp
        exact SeqK.ret (no (tabB_no fun V hV => by rw [hds.uni hV.seq, all_wth hV.wth] at hw; cases hw))
      | true =>
        obtain ⟨V, hVd, hwth⟩ := wth_all hw
        rw [hVd] at hds
        have hVl : V.length = 2 ^ ps.length := by rw [← hl, hVd, List.length_map]
        have h0 : gIx v (.int 0) = some (.d (optD (vf V 0))) := ix_seq (j := 0) hds (by
          unfold vf
          have h' : 0 < V.length := by omega
          simp [h'])
        have hne := ne_zero (vf V 0)
        by_cases hz0 : vf V 0 = some 0
        · rw [decide_eq_true hz0] at hne
          simp [q_bounds_2, hc, all_M, hw, h0, hne]
          obtain ⟨ls, hll, hls, hlk⟩ := least_kinds_v ok ht hu
          refine SeqK.nx (W_seq ?_)
          simp [hlk]
          refine SeqK.nx (W_last ?_)
          have hr := range_one (n := ds.length) (by omega) (by omega)
          obtain ⟨X, hX⟩ : ∃ X, X = ls.map opD := ⟨_, rfl⟩
          have hrow : ∀ i, i < 2 ^ ps.length - 1 → m_is_row_let [.d (.list X), .d u, .d v, .d (natD (i + 1))] = some (.d (.bool (letB ts ps V (i + 1))), [.u, .u, .u, .u]) := fun i hi => hX ▸ is_row_let_v hp hll hls hu hds hVl (by omega) (by omega)
          have hcr : W (eComp [5] (iApp range2D (aCons (eK (.int 1)) (aCons (eApp gLen (aCons (eVar 2) aNil)) aNil))) (gdName 5) tAll (eCall 4 m_is_row_let (aCons (eVar 3) (aCons (eVar 1) (aCons (eVar 2) (aCons (eVar 5) aNil))))) [.d t, .d u, .d v, .l X, .u, .u]) fun x => ∃ s3, x = (.l ((List.range (2 ^ ps.length - 1)).map fun i => PyData.bool (letB ts ps V (i + 1))), [.d t, .d u, .d v, s3, .u, .u]) := by
            refine W_compI (fun i acc ρ => acc = (List.range i).map (fun i => PyData.bool (letB ts ps V (i + 1))) ∧ ∃ s3 : Sl, (s3 = .l X ∨ s3 = .d (.list X)) ∧ ρ = [.d t, .d u, .d v, s3, .u, .u]) (rngD 1 1 (ds.length - 1)) (ρ' := [.d t, .d u, .d v, .l X, .u, .u]) (by simp [hlv, hr]) ⟨rfl, _, .inl rfl, rfl⟩ (fun i d hd acc ρ h => ?_) fun acc ρ h => ?_
            · obtain ⟨h1, s3, h3, rfl⟩ := h
              obtain ⟨hi, rfl⟩ := rngD_get hd
              have e : PyData.int (1 + (i : Int) * 1) = natD (i + 1) := congrArg PyData.int (by omega)
              have hrw := hrow i (by omega)
              have hsz : acc.length < sizeLine := nat_lt_small (by rw [h1]; simp; omega)
              rw [e]
              rcases h3 with rfl | rfl
              all_goals
                simp [hrw, hsz]
                rw [h1, List.range_succ, List.map_append]
                rfl
            · obtain ⟨h1, s3, h3, rfl⟩ := h
              rw [rngD_len, hl] at h1
              exact ⟨s3, by rw [h1]⟩
          obtain ⟨x, e, s3, rfl⟩ := hcr
          rw [← hX]
          simp [q_bounds_1, e, all_M]
          refine BodyK.ret (by simp) ?_
          have hb : ((List.range (2 ^ ps.length - 1)).all fun i => letB ts ps V (i + 1)) = tabB ts ps v := by
            rw [Bool.eq_iff_iff, tabB_iff, List.all_eq_true]
            constructor
            · intro h
              refine ⟨V, hds, hVl, hwth, vf_some.mp hz0, fun m h0 hm => ?_⟩
              have := h (m - 1) (by simp; omega)
              rw [show m - 1 + 1 = m by omega] at this
              exact letB_iff.mp this
            · rintro ⟨W, hW⟩ i hi
              exact letB_iff.mpr ((TabOk.of hds hW).low (i + 1) (by omega) (by simp at hi; omega))
          rw [hb]
          simp [keepP]
        · rw [decide_eq_false hz0] at hne
          simp [q_bounds_2, hc, all_M, hw, h0, hne]
          refine W_last ?_
          simp
          exact SeqK.ret (no (tabB_no fun W hW => hz0 (by rw [vf_some]; exact (TabOk.of hds hW).zero)))
    · simp [q_bounds_3, hi, hlu, hlv, hs, hn, hl]
      refine W_last ?_
      simp
      exact SeqK.ret (no (tabB_no fun V hV => hl (by rw [hds.uni hV.seq, List.length_map, hV.len])))
end K9
end PK92MF
section PK92MG
set_option maxHeartbeats 2000000
open PySem PySem.Spec PyProof.Rows L2 DL
namespace K9
variable {ts : List Tk} {ps : List Pg}
/-! the law's word on tables -/
def overB (o w : Option Int) : Bool := match o with
  | none => false
  | some x => (match w with
    | none => true
    | some y => decide (y > x))
theorem over_iff {V : List (Option Int)} {m j : Nat} {o : Option Int} (hj : IsFst ps m j) (ho : LeastC (Cand ts ps V m j) o) : overB o (vf V m) = false ↔ Let ts ps V m := by
  constructor
  · intro h j' hj' x hx
    rw [hj'.uni hj] at hx
    obtain ⟨y, rfl, hy⟩ := ho.low x hx
    cases hv : vf V m with
    | none => rw [hv] at h; simp [overB] at h
    | some z => rw [hv] at h; simp [overB] at h; exact ⟨z, rfl, by omega⟩
  · intro h
    cases o with
    | none => rfl
    | some x =>
      obtain ⟨y, e, hy⟩ := h j hj x (ho.get x rfl)
      simp [overB, e]
      omega
theorem law_is_table_v (hp : ps.length ≤ 10) (v : PyData) (hz : ShortV v) : m__law_is_table [.d (.list (prsD ts ps (2 ^ ps.length))), .d (.list (ps.map Pg.d)), .d v] = some (.d (.bool (tabB ts ps v)), [.u, .u, .u]) := by
  have hs := shl_one ps.length (by omega)
  have h2p := Nat.two_pow_pos ps.length
  have h1k := pow_le hp
  obtain ⟨PR, hPR⟩ : ∃ PR, PR = PyData.list (prsD ts ps (2 ^ ps.length)) := ⟨_, rfl⟩
  obtain ⟨u, hu⟩ : ∃ u, u = PyData.list (ps.map Pg.d) := ⟨_, rfl⟩
  have hlu : gLen [u] = some (.d (.int (ps.length : Int))) := by rw [hu]; simp
  have no : ∀ {r1 r2 r3 : Sl}, tabB ts ps v = false → BodyK 3 (fun x => x = (.d (.bool (tabB ts ps v)), [.u, .u, .u])) (.ret (.d (.bool false)) [.d PR, .d u, .d v, r1, r2, r3]) := fun h => BodyK.ret (by simp) (by simp [keepP, h])
  rw [← hPR, ← hu]
  refine W_eq.mp (W_body (W_seq ?_))
  cases hi : isLstD v || isTupD v with
  | false =>
    have h1 : isLstD v = false := by cases h : isLstD v <;> simp_all
    have h2 : isTupD v = false := by cases h : isTupD v <;> simp_all
    simp [q__law_is_table_6, h1, h2]
    refine W_last ?_
    simp
    exact SeqK.ret (no (tabB_no fun V hV => by rw [isi_seq hV.seq] at hi; cases hi))
  | true =>
    obtain ⟨ds, hds⟩ := seq_isi hi
    have hlv := len_seq hds
    have hdl := hz ds hds
    have hn : gNe (.int (ds.length : Int)) (natD (2 ^ ps.length)) = some (.d (.bool (!decide (ds.length = 2 ^ ps.length)))) := by
      unfold natD
      rw [x_neI]
      congr 4
      simp only [decide_eq_decide]
      omega
    by_cases hl : ds.length = 2 ^ ps.length
    · rw [decide_eq_true hl] at hn
      simp [q__law_is_table_6, hi, hlu, hlv, hs, hn]
      refine SeqK.nx (W_seq ?_)
      simp [sFor, items_seq hds]
      have key := for_gen (gd := gdName 3) (g := l__law_is_table_2) id (fun k ρ => (∀ d ∈ ds.take k, wthB d = true) ∧ ∃ s3, ρ = [.d PR, .d u, .d v, s3, .u, .u]) (fun _ r ρ => r = .d (.bool false) ∧ (∃ d ∈ ds, wthB d = false) ∧ ∃ s3, ρ = [.d PR, .d u, .d v, s3, .u, .u]) ds 0 [.d PR, .d u, .d v, .u, .u, .u] ⟨by simp, _, rfl⟩ fun i d hd ρ h => by
        rw [Nat.zero_add] at h ⊢
        obtain ⟨h1, s3, rfl⟩ := h
        have hin := List.mem_of_getElem? hd
        have good : wthB d = true → (∀ d ∈ ds.take (i + 1), wthB d = true) ∧ ∃ s3, ([.d PR, .d u, .d v, .d d, .u, .u] : Rho) = [.d PR, .d u, .d v, s3, .u, .u] := fun hg => by
          refine ⟨fun e he => ?_, _, rfl⟩
          rw [take_at hd] at he
          rcases List.mem_append.mp he with he | he
          · exact h1 e he
          · rw [List.mem_singleton.mp he]; exact hg
        have bad : wthB d = false → (Rs.d (.bool false)) = .d (.bool false) ∧ (∃ d ∈ ds, wthB d = false) ∧ ∃ s3, ([.d PR, .d u, .d v, .d d, .u, .u] : Rho) = [.d PR, .d u, .d v, s3, .u, .u] := fun hg => ⟨rfl, ⟨d, hin, hg⟩, _, rfl⟩
        simp
        refine W_last ?_
        cases d with
        | none => simp [q__law_is_table_1, isNone]; exact (good rfl).1
        | int x =>
          by_cases c1 : 0 ≤ x
          · by_cases c2 : x ≤ 99999
            · simp [q__law_is_table_1, isNone, c1, c2]
              exact (good (by simp [wthB, btw, c1, c2])).1
            · simp [q__law_is_table_1, isNone, c1, c2]
              refine W_last ?_
              simp
              exact (bad (by simp [wthB, btw, isNone, c2])).2.1
          · simp [q__law_is_table_1, isNone, c1]
            refine W_last ?_
            simp
            exact (bad (by simp [wthB, btw, isNone, c1])).2.1
        | bool _ =>
          simp [q__law_is_table_1, isNone, isBoolD]
          refine W_last ?_
          simp
          exact (bad rfl).2.1
        | str _ =>
          simp [q__law_is_table_1, isNone, isBoolD, isIntD]
          refine W_last ?_
          simp
          exact (bad rfl).2.1
        | list _ =>
          simp [q__law_is_table_1, isNone, isBoolD, isIntD]
          refine W_last ?_
          simp
          exact (bad rfl).2.1
        | tuple _ =>
          simp [q__law_is_table_1, isNone, isBoolD, isIntD]
          refine W_last ?_
          simp
          exact (bad rfl).2.1
        | dict _ =>
          simp [q__law_is_table_1, isNone, isBoolD, isIntD]
          refine W_last ?_
          simp
          exact (bad rfl).2.1
      rw [List.map_id] at key
      refine key.mono fun o h => ?_
      rcases h with ⟨ρ', rfl, hall, s3, rfl⟩ | ⟨i, r, ρ', hi, rfl, rfl, ⟨d, hd, hb⟩, s3, rfl⟩
      · refine SeqK.nx (W_seq ?_)
        rw [Nat.zero_add, List.take_length] at hall
        obtain ⟨V, hVd, hwth⟩ := wth_all (List.all_eq_true.mpr hall)
        rw [hVd] at hds
        have hVl : V.length = 2 ^ ps.length := by rw [← hl, hVd, List.length_map]
        have h0 : gIx v (.int 0) = some (.d (optD (vf V 0))) := ix_seq (j := 0) hds (by
          unfold vf
          have h' : 0 < V.length := by omega
          simp [h'])
        have hne := ne_zero (vf V 0)
        have nox : vf V 0 ≠ some 0 → tabB ts ps v = false := fun hz0 => tabB_no fun W hW => hz0 (by rw [vf_some]; exact (TabOk.of hds hW).zero)
        by_cases hz0 : vf V 0 = some 0
        · rw [decide_eq_true hz0] at hne
          rw [hz0, od_s] at h0 hne
          simp [q__law_is_table_5, h0, isNone]
          refine SeqK.nx (W_seq ?_)
          have hr := range_one (n := ds.length) (by omega) (by omega)
          simp [sFor, hlv, hr]
          have key := for_gen (gd := gdName 4) (g := l__law_is_table_4) (fun i : Nat => natD (i + 1)) (fun k ρ => (∀ m, 0 < m → m ≤ k → Let ts ps V m) ∧ ∃ s4 s5, ρ = [.d PR, .d u, .d v, s3, s4, s5]) (fun _ r ρ => r = .d (.bool false) ∧ (∃ m, 0 < m ∧ m < 2 ^ ps.length ∧ ¬ Let ts ps V m) ∧ ∃ s4 s5, ρ = [.d PR, .d u, .d v, s3, s4, s5]) (List.range (ds.length - 1)) 0 [.d PR, .d u, .d v, s3, .u, .u] ⟨fun m h0 h => by omega, _, _, rfl⟩ fun i i' hi' ρ h => by
            obtain ⟨hilt, rfl⟩ : i < ds.length - 1 ∧ i = i' := by
              have := (List.getElem?_eq_some_iff.mp hi')
              obtain ⟨q1, q2⟩ := this
              simp at q1 q2
              exact ⟨q1, q2⟩
            rw [Nat.zero_add] at h ⊢
            obtain ⟨h1, s4, s5, rfl⟩ := h
            obtain ⟨j, o, hj, ho, hm⟩ := law_most_v (ts := ts) hp hds (m := i + 1) (by omega) (by omega) (by omega)
            rw [← hPR, ← hu] at hm
            have hov := over_iff hj ho
            have h1x : gIx v (natD (i + 1)) = some (.d (optD (vf V (i + 1)))) := ix_seq hds (by
              unfold vf
              have h' : i + 1 < V.length := by omega
              simp [h'])
            have good : Let ts ps V (i + 1) → ∀ m, 0 < m → m ≤ i + 1 → Let ts ps V m := fun hg m h0 hm => by
              by_cases e : m = i + 1
              · rw [e]; exact hg
              · exact h1 m h0 (by omega)
            simp
            refine W_seq ?_
            simp [hm]
            refine SeqK.nx (W_last ?_)
            cases o with
            | none =>
              simp [q__law_is_table_3, od_n, isNone]
              exact good (hov.mp rfl)
            | some x =>
              cases hw : vf V (i + 1) with
              | none =>
                rw [hw] at h1x hov
                rw [od_n] at h1x
                simp [q__law_is_table_3, od_s, isNone, h1x]
                refine W_last ?_
                simp
                exact ⟨i + 1, by omega, by omega, fun hL => by have := hov.mpr hL; cases this⟩
              | some y =>
                rw [hw] at h1x hov
                rw [od_s] at h1x
                by_cases hc : y > x
                · simp [q__law_is_table_3, od_s, isNone, h1x, hc]
                  refine W_last ?_
                  simp
                  exact ⟨i + 1, by omega, by omega, fun hL => by have := hov.mpr hL; simp [overB, hc] at this⟩
                · simp [q__law_is_table_3, od_s, isNone, h1x, hc]
                  exact good (hov.mp (by simp [overB]; omega))
          rw [← rng1_nats] at key
          refine key.mono fun o h => ?_
          rcases h with ⟨ρ', rfl, hall, s4, s5, rfl⟩ | ⟨i, r, ρ', hi, rfl, rfl, ⟨m, m0, m1, m2⟩, s4, s5, rfl⟩
          · refine SeqK.nx (W_last ?_)
            simp
            have : tabB ts ps v = true := tabB_iff.mpr ⟨V, hds, hVl, hwth, vf_some.mp hz0, fun m h0 hm => hall m h0 (by simp; omega)⟩
            exact BodyK.ret (by simp) (by simp [keepP, this])
          · exact SeqK.ret (no (tabB_no fun W hW => m2 ((TabOk.of hds hW).low m m0 m1)))
        · rw [decide_eq_false hz0] at hne
          cases hv0 : vf V 0 with
          | none =>
            rw [hv0, od_n] at h0
            simp [q__law_is_table_5, h0, isNone]
            refine W_last ?_
            simp
            exact SeqK.ret (no (nox hz0))
          | some x =>
            rw [hv0, od_s] at h0 hne
            have hx : ¬ x = 0 := fun h => hz0 (by rw [hv0, h])
            simp [q__law_is_table_5, h0, isNone, hx]
            refine W_last ?_
            simp
            exact SeqK.ret (no (nox hz0))
      · exact SeqK.ret (no (tabB_no fun V hV => by
          have := List.all_eq_true.mp (all_wth hV.wth) d (by rw [← hds.uni hV.seq]; exact hd)
          rw [hb] at this
          cases this))
    · rw [decide_eq_false hl] at hn
      simp [q__law_is_table_6, hi, hlu, hlv, hs, hn]
      refine W_last ?_
      simp
      exact SeqK.ret (no (tabB_no fun V hV => hl (by rw [hds.uni hV.seq, List.length_map, hV.len])))
end K9
end PK92MG
section PK92MH
set_option maxHeartbeats 2000000
open PySem PySem.Spec PyProof.Rows L2 DL
namespace K9
variable {ts : List Tk} {ps : List Pg}
/-! which tables pass -/
theorem is_price_table_v (ok : Ok ts ps) {t u : PyData} (ht : SeqOf (ts.map Tk.d) t) (hu : SeqOf (ps.map Pg.d) u) (v : PyData) (hz : ShortV v) : m_is_price_table [.d t, .d u, .d v] = some (.d (.bool (tabB ts ps v)), [.u, .u, .u]) := by
  refine W_eq.mp (W_body (W_seq ?_))
  have h1 := want_tickets_ok ts ok.tok ok.t1 ok.t8 ht
  have h2 := want_passages_ok ps ok.pok ok.p10 hu
  simp [h1]
  refine SeqK.nx (W_last ?_)
  simp [h2, bounds_v ok ht hu v hz]
  exact BodyK.ret (by simp) (by simp [keepP])
theorem prs_le (ok : Ok ts ps) {q : Nat} {p : Int} (h : p ∈ prs ts ps q) : 1 ≤ p ∧ p ≤ 9999 := by
  unfold prs at h
  split at h
  · cases h
  · obtain ⟨t, ht, rfl⟩ := List.mem_map.mp h
    exact (ok.tok t (List.mem_filter.mp ht).1).p
theorem sum_le {f : Nat → Option Int} : ∀ (L : List Nat) (x : Int), (∀ q ∈ L, ∀ s, f q = some s → 1 ≤ s ∧ s ≤ 9999) → sumO (L.map f) = some x → 0 ≤ x ∧ x ≤ 9999 * (L.length : Int)
  | [], x, _, h => by
    simp [sumO] at h
    subst h
    simp
  | q :: L, x, hf, h => by
    rw [List.map_cons] at h
    cases hs : f q with
    | none => rw [hs] at h; simp [sumO] at h
    | some s =>
      rw [hs] at h
      cases hr : sumO (L.map f) with
      | none => simp [sumO, hr] at h
      | some r =>
        simp [sumO, hr] at h
        have h1 := hf q List.mem_cons_self s hs
        have h2 := sum_le L r (fun q' hq' => hf q' (List.mem_cons_of_mem _ hq')) hr
        simp only [List.length_cons, Int.natCast_add, Int.natCast_one]
        omega
theorem flat_ge : ∀ (L : List Nat), (∀ q ∈ L, plc q ≠ []) → L.length ≤ (L.flatMap plc).length
  | [], _ => by simp
  | q :: L, h => by
    have h1 := flat_ge L fun q' hq' => h q' (List.mem_cons_of_mem _ hq')
    have h2 := List.length_pos_iff.mpr (h q List.mem_cons_self)
    simp only [List.flatMap_cons, List.length_append, List.length_cons]
    omega
theorem Tbl.wth (ok : Ok ts ps) {V : List (Option Int)} (T : Tbl ts ps V) : ∀ x, some x ∈ V → 0 ≤ x ∧ x ≤ 99999 := fun x hx => by
  obtain ⟨m, hm, e⟩ := List.mem_iff_getElem.mp hx
  have hp := ok.p10
  obtain ⟨L, h1, h2⟩ := T.dt.get_all (m + 1) m x (by omega) (by rw [List.getElem?_eq_getElem hm, e])
  rw [T.len] at hm
  have hsum := sum_le L x (fun q hq s hs => by
    rw [prs_sg (h1.sub q hq).1] at hs
    exact prs_le ok (minO_iff.mp hs).1) h2
  have hl := flat_ge L fun q hq => by
    obtain ⟨a, b⟩ := h1.sub q hq
    exact plc_ne a (pow20 (Nat.lt_of_le_of_lt (sub_le b) hm) (by omega))
  have hf := h1.flat.length_eq
  rw [← plk_eq hm (by omega)] at hf
  have := plk_len m ps.length
  have h10 : (L.length : Int) ≤ 10 := by omega
  omega
theorem Tbl.let {V : List (Option Int)} (T : Tbl ts ps V) {m : Nat} (h0 : 0 < m) (hm : m < 2 ^ ps.length) : Let ts ps V m := fun j hj x hx => by
  obtain ⟨j', hj', hl⟩ := T.at' m h0 (by rw [T.len]; exact hm)
  rw [hj.uni hj'] at hx
  exact hl.low x hx
theorem tab_due (ok : Ok ts ps) {V : List (Option Int)} (T : Tbl ts ps V) {v : PyData} (hv : SeqOf (V.map optD) v) : tabB ts ps v = true :=
  tabB_iff.mpr ⟨V, hv, T.len, T.wth ok, T.zero, fun m h0 hm => T.let h0 hm⟩
def Less (ts ts' : List Tk) : Prop := ∀ t ∈ ts, ∃ c, c ≤ t.price ∧ { t with price := c } ∈ ts'
theorem less_prs {ts' : List Tk} (h : Less ts ts') {q : Nat} {p : Int} (hp : p ∈ prs ts ps q) : ∃ p' ∈ prs ts' ps q, p' ≤ p := by
  unfold prs at hp ⊢
  split at hp
  · cases hp
  · rename_i h0
    rw [if_neg h0]
    obtain ⟨t, ht, rfl⟩ := List.mem_map.mp hp
    obtain ⟨h1, h2⟩ := List.mem_filter.mp ht
    obtain ⟨c, hc, hm⟩ := h t h1
    exact ⟨c, List.mem_map.mpr ⟨_, List.mem_filter.mpr ⟨hm, h2⟩, rfl⟩, hc⟩
theorem tab_less {ts' : List Tk} (ok' : Ok ts' ps) (h : Less ts ts') {V : List (Option Int)} (T : Tbl ts' ps V) {v : PyData} (hv : SeqOf (V.map optD) v) : tabB ts ps v = true :=
  tabB_iff.mpr ⟨V, hv, T.len, T.wth ok', T.zero, fun m h0 hm j hj x ⟨q, p, r, h1, h2, h3, h4⟩ => by
    obtain ⟨p', hp', hle⟩ := less_prs h h2
    obtain ⟨y, e, hy⟩ := T.let h0 hm j hj (r + p') ⟨q, p', r, h1, hp', h3, rfl⟩
    exact ⟨y, e, by omega⟩⟩
def zers (n : Nat) : List (Option Int) := List.replicate n (some 0)
theorem zers_vf {n m : Nat} {r : Int} (h : vf (zers n) m = some r) : r = 0 := by
  rw [vf_some] at h
  have := List.mem_of_getElem? h
  have e := (List.mem_replicate.mp this).2
  cases e
  rfl
theorem tab_zero (ok : Ok ts ps) {v : PyData} (hv : SeqOf ((zers (2 ^ ps.length)).map optD) v) : tabB ts ps v = true :=
  have h2p := Nat.two_pow_pos ps.length
  tabB_iff.mpr ⟨_, hv, by simp [zers], fun x hx => by
    have e := (List.mem_replicate.mp hx).2
    cases e
    omega, by unfold zers; rw [List.getElem?_replicate, if_pos h2p], fun m h0 hm j hj x ⟨q, p, r, h1, h2, h3, h4⟩ => by
    have := prs_le ok h2
    have := zers_vf h3
    exact ⟨0, by rw [vf_some]; unfold zers; rw [List.getElem?_replicate, if_pos hm], by omega⟩⟩
end K9
end PK92MH
section PK92MI
set_option maxHeartbeats 2000000
open PySem PySem.Spec PyProof.Rows L2 DL
namespace K9
variable {ts : List Tk} {ps : List Pg}
/-! the law's bent tables -/
structure VR (v : PyData) : Prop where
  short : ShortV v
  rep : gRepr [v] = some (.d (.str v.shown))
  so : PyData.strOk v.shown = true
theorem VR.fit {v : PyData} (h : Fit 3 5000 v) (hs : ShortV v) : VR v := ⟨hs, h.repr (by omega) (by omega), h.so⟩
theorem short_l {xs : List PyData} (h : xs.length ≤ 2000) : ShortV (.list xs) := fun ds hd => by cases hd; exact h
theorem short_t {xs : List PyData} (h : xs.length ≤ 2000) : ShortV (.tuple xs) := fun ds hd => by cases hd; exact h
theorem short_no {v : PyData} (h : (isLstD v || isTupD v) = false) : ShortV v := fun ds hd => by rw [isi_seq hd] at h; cases h
theorem VR.nod : VR (.dict []) := by
  refine ⟨short_no rfl, ?_, by decide +kernel⟩
  show (if DL.reprOk (.dict []) = true then some (Rs.d (.str (PyData.shown (.dict [])))) else Option.none) = _
  rw [if_pos (by decide +kernel)]
theorem fit_str (x : Str) (h : (PyData.strOk x && PyData.strOk (reprText x) && decide (x.cps.size ≤ 41)) = true) : Fit 0 41 (.str x) := by
  rw [Bool.and_eq_true, Bool.and_eq_true, decide_eq_true_eq] at h
  exact Fit.str h.1.1 h.1.2 h.2
abbrev El (d : PyData) : Prop := Fit 1 60 d
theorem El.int {i : Int} (h : i.natAbs < 10 ^ 12) : El (.int i) := (Fit.int h).up (by omega) (by omega)
theorem El.none : El .none := Fit.none.up (by omega) (by omega)
theorem El.bool (b : Bool) : El (.bool b) := (Fit.bool b).up (by omega) (by omega)
theorem fit_od {o : Option Int} (h : ∀ x, o = some x → x.natAbs < 10 ^ 12) : Fit 0 41 (optD o) := by
  cases o with
  | none => exact Fit.none.up (by omega) (by omega)
  | some x => exact Fit.int (h x rfl)
theorem VR.list {G : List PyData} (h : ∀ d ∈ G, El d) (hl : G.length ≤ 70) : VR (.list G) := VR.fit ((Fit.list h hl).up (by omega) (by omega)) (short_l (by omega))
theorem VR.tup {G : List PyData} (h : ∀ d ∈ G, El d) (hl : G.length ≤ 70) : VR (.tuple G) := VR.fit ((Fit.tup h hl).up (by omega) (by omega)) (short_t (by omega))
theorem VR.one {G : List PyData} (h : ∀ d ∈ G, El d) (hl : G.length ≤ 70) : VR (.list [.list G]) := VR.fit ((Fit.list (k := 1) (fun d hd => by rw [List.mem_singleton.mp hd]; exact Fit.list h hl) (by simp)).up (by omega) (by omega)) (short_l (by simp))
theorem ixN_nat {n k : Nat} (h : k < n) : ixN n (k : Int) = some k := by
  unfold ixN
  rw [if_pos (by omega), if_pos (by omega)]
  simp
theorem at_map {F : List PyData} {k : Nat} (h : k < F.length) : atI F (k : Int) = some F[k] := by
  rw [DL.atI_nat]
  simp [h]
theorem set_el {F : List PyData} {k : Nat} {d : PyData} (h : ∀ x ∈ F, El x) (hd : El d) : ∀ x ∈ F.set k d, El x := fun x hx => by
  rcases List.mem_or_eq_of_mem_set hx with hx | rfl
  · exact h x hx
  · exact hd
def BentP (x : Rs × Rho) : Prop := ∃ (r : Rs) (a b : Int), 0 ≤ a ∧ VR r.data ∧ x = (r, [pot a b, .u, .u, .u])
theorem most_small (ok : Ok ts ps) {V : List (Option Int)} (hV : ∀ x, some x ∈ V → 0 ≤ x ∧ x ≤ 99999) {m j : Nat} {o : Option Int} (h : LeastC (Cand ts ps V m j) o) : ∀ x, o = some x → 0 ≤ x ∧ x ≤ 200000 := fun x hx => by
  obtain ⟨q, p, r, h1, h2, h3, h4⟩ := h.get x hx
  have := prs_le ok h2
  have := hV r (List.mem_of_getElem? (vf_some.mp h3))
  omega
theorem bent_end {r : Rs} {a b : Int} {ρ : Rho} (ha : 0 ≤ a) (hv : VR r.data) (hl : 3 ≤ ρ.length) (hk : (ρ.take 3).map keepP = [.u, .u, .u]) : BodyK 4 BentP (.ret r (pot a b :: ρ)) := BodyK.ret (by simpa using hl) ⟨r, a, b, ha, hv, by simp [keepP, hk]⟩
theorem bent_W (ok : Ok ts ps) (h6 : ps.length ≤ 6) {V : List (Option Int)} (hVl : V.length = 2 ^ ps.length) (hVb : ∀ x, some x ∈ V → 0 ≤ x ∧ x ≤ 99999) (a b : Int) (ha : 0 ≤ a) : W (m__law_bent [pot a b, .d (.list (V.map optD)), .d (.list (prsD ts ps (2 ^ ps.length))), .d (.list (ps.map Pg.d))]) BentP := by
  have h2p := Nat.two_pow_pos ps.length
  have h64 : V.length ≤ 64 := by
    have : 2 ^ ps.length ≤ 2 ^ 6 := Nat.pow_le_pow_right (by omega) h6
    omega
  obtain ⟨PR, hPR⟩ : ∃ PR, PR = PyData.list (prsD ts ps (2 ^ ps.length)) := ⟨_, rfl⟩
  obtain ⟨u, hu⟩ : ∃ u, u = PyData.list (ps.map Pg.d) := ⟨_, rfl⟩
  obtain ⟨F, hF⟩ : ∃ F, F = V.map optD := ⟨_, rfl⟩
  have hFl : F.length = V.length := by rw [hF, List.length_map]
  have hFe : ∀ x ∈ F, El x := fun x hx => by
    rw [hF] at hx
    obtain ⟨o, ho, rfl⟩ := List.mem_map.mp hx
    exact (fit_od fun x hx => by have := hVb x (hx ▸ ho); omega).up (by omega) (by omega)
  rw [← hPR, ← hu, ← hF]
  have hgl : gList [.list F] = some (.l F) := rfl
  refine W_body (W_seq ?_)
  simp [hgl]
  refine SeqK.nx (W_seq ?_)
  simp only [q__law_bent_8, x_sSet, W_map]
  refine W_pick rfl ?_
  simp only [x_eApp, x_aCons, x_aNil, W_bind, W_map]
  refine W_draw (n := (F.length : Int)) rfl ha (by simp) (by omega) (by omega) fun d1 a b g1 g2 ha => ?_
  simp
  refine W_draw (n := if (F.length : Int) < 3 then (F.length : Int) else 3) rfl ha (by simp [min2]) (by split <;> omega) (by split <;> omega) fun d2 a b g3 g4 ha => ?_
  simp
  refine ⟨_, .inl rfl, by simp, by simp, a, b, ha, rfl, fun d hd a b ha => ?_⟩
  obtain ⟨at', rfl, hat⟩ : ∃ k : Nat, d = natD k ∧ k < F.length := by
    simp only [List.mem_cons, List.not_mem_nil, or_false] at hd
    have h3 : d2 < F.length := by split at g4 <;> omega
    rcases hd with rfl | rfl | rfl | rfl
    · exact ⟨d1.toNat, by unfold natD; congr 1; omega, by omega⟩
    · exact ⟨F.length - 1, by unfold natD; congr 1; omega, by omega⟩
    · exact ⟨((F.length : Int) - 1 - d2).toNat, by unfold natD; congr 1; omega, by omega⟩
    · exact ⟨0, rfl, by omega⟩
  simp
  refine SeqK.nx (W_seq ?_)
  simp only [x_sSet, W_map]
  refine W_draw (n := 9) rfl ha (by simp) (by omega) (by omega) fun d3 a b g5 g6 ha => ?_
  obtain ⟨w, rfl⟩ : ∃ n : Nat, d3 = (n : Int) := ⟨d3.toNat, by omega⟩
  simp
  refine SeqK.nx (W_seq ?_)
  suffices go : ∀ o : Option Int, (∀ x, o = some x → 0 ≤ x ∧ x ≤ 200000) → W (sSeq q__law_bent_6 (sSeq (sRet (eMove 4)) sNil) [pot a b, .d (.list F), .d PR, .d u, .l F, .d (.int F.length), .d (natD at'), .d (.int w), .d (optD o)]) (BodyK 4 BentP) by
    by_cases h0 : 0 < at'
    · have hlt : at' < 2 ^ ps.length := by omega
      obtain ⟨j, o, hj, ho, hm⟩ := law_most_v (ts := ts) ok.p10 (V := V) (tbl := .list F) (hF ▸ .l) h0 hlt (by omega)
      rw [← hPR, ← hu] at hm
      have hgt : gGt (natD at') (.int 0) = some (.d (.bool true)) := by unfold natD; rw [x_gtI, decide_eq_true (by omega)]
      simp [q__law_bent_7, hgt, hm]
      exact ⟨by cases o <;> rfl, SeqK.nx (go o (most_small ok hVb ho))⟩
    · have hz : at' = 0 := by omega
      subst hz
      have hgt : gGt (natD 0) (.int 0) = some (.d (.bool false)) := rfl
      simp [q__law_bent_7, hgt]
      exact SeqK.nx (go (some 0) fun x hx => by cases hx; omega)
  intro o ho
  have fin : ∀ (a b : Int) (G : List PyData) (s5 s6 s7 s8 : Sl), 0 ≤ a → (∀ x ∈ G, El x) → G.length ≤ 70 → SeqK (sSeq (sRet (eMove 4)) sNil) (BodyK 4 BentP) (.nx [pot a b, .d (.list F), .d PR, .d u, .l G, s5, s6, s7, s8]) := fun a b G s5 s6 s7 s8 ha hG hGl => by
    refine SeqK.nx (W_last ?_)
    simp
    exact bent_end ha (VR.list hG hGl) (by simp) (by simp [keepP])
  have hixn : ixN F.length (at' : Int) = some at' := ixN_nat hat
  have hii : natD at' = .int (at' : Int) := rfl
  have hsl : ∀ d, (F.set at' d).length ≤ 70 := fun d => by rw [List.length_set]; omega
  refine W_seq ?_
  by_cases hw : w < 3
  · have hw2 : (w : Int) < 3 := by omega
    simp [q__law_bent_6, hw2]
    refine W_last ?_
    cases o with
    | none =>
      simp [q__law_bent_1, od_n, isNone, gdIx, hii, hixn]
      exact fin _ _ _ _ _ _ _ ha (set_el hFe (El.int (by omega))) (hsl _)
    | some x =>
      have := ho x rfl
      simp [q__law_bent_1, od_s, isNone, gdIx, hii, hixn]
      exact fin _ _ _ _ _ _ _ ha (set_el hFe (El.int (by omega))) (hsl _)
  · have hw' : w = 3 ∨ w = 4 ∨ w = 5 ∨ w = 6 ∨ w = 7 ∨ w = 8 := by omega
    rcases hw' with rfl | rfl | rfl | rfl | rfl | rfl
    · simp [q__law_bent_6]
      refine W_last ?_
      simp
      refine W_last ?_
      simp only [q__law_bent_2, x_sAsgD, W_bind, W_map]
      refine W_pick rfl ?_
      simp
      refine ⟨_, .inl rfl, by simp, by simp, a, b, ha, rfl, fun d hd a b ha => ?_⟩
      have hv : El d := by
        simp only [List.mem_cons, List.not_mem_nil, or_false] at hd
        have h0 : ∀ x ∈ [PyData.int 0], Fit 0 41 x := fun x hx => by rw [List.mem_singleton.mp hx]; exact Fit.int (by decide)
        rcases hd with rfl | rfl | rfl | rfl | rfl | rfl | rfl | rfl
        · exact El.bool _
        · exact El.bool _
        · exact (fit_str _ (by decide +kernel)).up (by omega) (by omega)
        · exact (Fit.tup (k := 1) h0 (by simp)).up (by omega) (by omega)
        · exact (Fit.list (k := 1) h0 (by simp)).up (by omega) (by omega)
        · exact El.int (by decide)
        · exact El.int (by decide)
        · exact El.int (by decide)
      simp [gdIx, hii, hixn]
      exact fin _ _ _ _ _ _ _ ha (set_el hFe hv) (hsl _)
    · simp [q__law_bent_6]
      refine W_last ?_
      simp
      refine W_last ?_
      simp [q__law_bent_5]
      refine W_last ?_
      simp [gdIx, hii, hixn]
      exact fin _ _ _ _ _ _ _ ha (set_el hFe El.none) (hsl _)
    · simp [q__law_bent_6]
      refine W_last ?_
      simp
      refine W_last ?_
      simp [q__law_bent_5]
      refine W_last ?_
      simp
      refine W_last ?_
      have hpop : opPopAt F [natD at'] = some (F[at'], F.eraseIdx at') := by
        unfold opPopAt
        simp only [hii]
        have hseq : seqIndex? (at' : Int) F.length = some at' := by
          unfold seqIndex?
          have hn : ¬ (at' : Int) < 0 := by omega
          simp [hn, hat]
        rw [if_pos (by omega), hseq]
        simp [hat]
      simp [hpop]
      exact fin _ _ _ _ _ _ _ ha (fun x hx => hFe x (List.mem_of_mem_eraseIdx hx)) (by rw [List.length_eraseIdx]; split <;> omega)
    · simp [q__law_bent_6]
      refine W_last ?_
      simp
      refine W_last ?_
      simp [q__law_bent_5]
      refine W_last ?_
      simp
      refine W_last ?_
      simp [q__law_bent_4]
      refine W_last ?_
      have hatv : atI F (at' : Int) = some F[at'] := at_map hat
      have hin : opInsert F [natD at', F[at']] = some (.none, F.take at' ++ [F[at']] ++ F.drop at') := by
        unfold opInsert
        simp only [hii]
        rw [if_pos ⟨nat_lt_small (by omega), by omega, by omega⟩]
        simp
      simp [hii] at hin
      simp [hii, hatv, hin]
      refine fin _ _ _ _ _ _ _ ha (fun x hx => ?_) ?_
      · rcases List.mem_append.mp hx with hx | hx
        · exact hFe x (List.mem_of_mem_take hx)
        · exact hFe x (List.mem_of_mem_drop hx)
      · simp
        omega
    · simp [q__law_bent_6]
      refine W_last ?_
      simp
      refine W_last ?_
      simp [q__law_bent_5]
      refine W_last ?_
      simp
      refine W_last ?_
      simp [q__law_bent_4]
      refine W_last ?_
      simp
      refine W_last ?_
      simp [gdIx, hii, hixn]
      exact fin _ _ _ _ _ _ _ ha (set_el hFe (El.int (by decide))) (hsl _)
    · simp [q__law_bent_6]
      refine W_last ?_
      simp
      refine W_last ?_
      simp [q__law_bent_5]
      refine W_last ?_
      simp
      refine W_last ?_
      simp [q__law_bent_4]
      refine W_last ?_
      simp
      refine W_last ?_
      simp only [q__law_bent_3, x_sRet, W_map]
      refine W_pick rfl ?_
      have hgt : gTuple [.list F] = some (.d (.tuple F)) := rfl
      simp [hgt]
      refine ⟨_, .inl rfl, by simp, by simp, a, b, ha, rfl, fun d hd a b ha => ?_⟩
      have hv : VR d := by
        simp only [List.mem_cons, List.not_mem_nil, or_false] at hd
        rcases hd with rfl | rfl | rfl | rfl | rfl | rfl | rfl | rfl
        · exact VR.tup hFe (by omega)
        · exact VR.fit (Fit.none.up (by omega) (by omega)) (short_no rfl)
        · exact VR.nod
        · exact VR.fit ((fit_str _ (by decide +kernel)).up (by omega) (by omega)) (short_no rfl)
        · exact VR.fit ((Fit.int (by decide)).up (by omega) (by omega)) (short_no rfl)
        · exact VR.list (by simp) (by simp)
        · exact VR.tup (by simp) (by simp)
        · exact VR.one hFe (by omega)
      exact SeqK.ret (bent_end ha hv (by simp) (by simp [keepP]))
end K9
end PK92MI
section PK92MJ
set_option maxHeartbeats 2000000
open PySem PySem.Spec PyProof.Rows L2 DL
namespace K9
/-! tickets and passages, of any data: the program's word and the law's -/
def toI : PyData → Int
  | .int i => i
  | _ => 0
def zonB : PyData → Bool
  | .tuple xs => !xs.isEmpty && (xs.all (fun d => btw d 1 4) && riseB (xs.map toI))
  | _ => false
theorem usort_iff (ns : List Int) : ns = usort ns ↔ riseB ns = true := by
  rw [riseB_iff]
  constructor
  · intro h
    rw [h]
    exact usort_sorted ns
  · intro h
    exact usort_only h fun k => Iff.rfl
theorem btw_all {l m : Int} : ∀ {xs : List PyData}, xs.all (fun d => btw d l m) = true → ∃ ns : List Int, xs = ns.map .int ∧ ∀ n ∈ ns, l ≤ n ∧ n ≤ m
  | [], _ => ⟨[], rfl, fun n hn => by cases hn⟩
  | d :: xs, h => by
    rw [List.all_cons, Bool.and_eq_true] at h
    obtain ⟨ns, rfl, hns⟩ := btw_all h.2
    have h1 := h.1
    cases d with
    | int i =>
      refine ⟨i :: ns, rfl, fun n hn => ?_⟩
      rcases List.mem_cons.mp hn with rfl | hn
      · simpa [btw] using h1
      · exact hns n hn
    | none => cases h1
    | bool _ => cases h1
    | str _ => cases h1
    | list _ => cases h1
    | tuple _ => cases h1
    | dict _ => cases h1
theorem toI_ints (ns : List Int) : (ns.map PyData.int).map toI = ns := by
  induction ns with
  | nil => rfl
  | cons n ns ih => rw [List.map_cons, List.map_cons, ih]; rfl
theorem rise_len : ∀ (ns : List Int) (l m : Int), ns.Pairwise (· < ·) → (∀ n ∈ ns, l ≤ n ∧ n ≤ m) → (ns.length : Int) ≤ max 0 (m - l + 1)
  | [], l, m, _, _ => by simp; omega
  | n :: ns, l, m, h, hb => by
    rw [List.pairwise_cons] at h
    have h1 := hb n List.mem_cons_self
    have ih := rise_len ns (n + 1) m h.2 fun k hk => ⟨by have := h.1 k hk; omega, (hb k (List.mem_cons_of_mem _ hk)).2⟩
    simp only [List.length_cons, Int.natCast_add, Int.natCast_one]
    omega
def ShT (d : PyData) : Prop := ∀ xs, d = .tuple xs → xs.length ≤ 40
theorem are_zones_v (d : PyData) (h : ShT d) : m_are_zones [.d d] = some (.d (.bool (zonB d)), [.u]) := by
  refine W_eq.mp (W_body (W_seq ?_))
  cases d with
  | tuple xs =>
    have hl := h xs rfl
    have no : zonB (.tuple xs) = false → BodyK 1 (fun x => x = (.d (.bool (zonB (.tuple xs))), [.u])) (.ret (.d (.bool false)) [.d (.tuple xs), .u]) := fun e => BodyK.ret (by simp) (by simp [keepP, e])
    cases hx : xs with
    | nil =>
      simp [q_are_zones_2]
      refine W_last ?_
      simp
      exact SeqK.ret (BodyK.ret (by simp) (by simp [keepP, zonB]))
    | cons x0 xs0 =>
      rw [← hx]
      have c1 : (1 : Int) ≤ xs.length := by rw [hx]; simp only [List.length_cons]; omega
      have hemp : xs.isEmpty = false := by rw [hx]; rfl
      by_cases c2 : (xs.length : Int) ≤ 4
      · simp [q_are_zones_2, c1, c2]
        refine SeqK.nx (W_last ?_)
        simp only [q_are_zones_1, x_sRet, x_eAnd, x_eApp, x_aCons, W_bind, W_map]
        refine W_compA id (fun d => .bool (btw d 1 4)) xs (ρ' := [.d (.tuple xs), .u]) (by simp) (fun z hz => by simp [is_between_v]) (by omega) ?_
        cases hb : xs.all fun d => btw d 1 4 with
        | false =>
          have e : gAll [.list (xs.map fun d => PyData.bool (btw d 1 4))] = some (.d (.bool false)) := by rw [all_M, hb]
          simp [e]
          exact no (by simp [zonB, hb])
        | true =>
          obtain ⟨ns, rfl, hns⟩ := btw_all hb
          have e : gAll [.list ((ns.map PyData.int).map fun d => PyData.bool (btw d 1 4))] = some (.d (.bool true)) := by rw [all_M, hb]
          simp only [List.map_map] at e
          simp [e, are_rising_v ns (by simpa using (show (ns.map PyData.int).length ≤ 1000 by omega))]
          refine BodyK.ret (by simp) ?_
          simp only [zonB, hemp, hb, toI_ints]
          simp [keepP]
      · simp [q_are_zones_2, c1, c2]
        refine W_last ?_
        simp
        refine SeqK.ret (no ?_)
        rw [Bool.eq_false_iff]
        intro hz
        simp only [zonB, Bool.and_eq_true] at hz
        obtain ⟨ns, rfl, hns⟩ := btw_all hz.2.1
        have hr := hz.2.2
        rw [toI_ints] at hr
        have := rise_len ns 1 4 ((riseB_iff ns).mp hr) hns
        rw [List.length_map] at c2
        omega
  | none => simp [q_are_zones_2, isTupD]; refine W_last ?_; simp; exact SeqK.ret (BodyK.ret (by simp) (by simp [keepP, zonB]))
  | int _ => simp [q_are_zones_2, isTupD]; refine W_last ?_; simp; exact SeqK.ret (BodyK.ret (by simp) (by simp [keepP, zonB]))
  | bool _ => simp [q_are_zones_2, isTupD]; refine W_last ?_; simp; exact SeqK.ret (BodyK.ret (by simp) (by simp [keepP, zonB]))
  | str _ => simp [q_are_zones_2, isTupD]; refine W_last ?_; simp; exact SeqK.ret (BodyK.ret (by simp) (by simp [keepP, zonB]))
  | list _ => simp [q_are_zones_2, isTupD]; refine W_last ?_; simp; exact SeqK.ret (BodyK.ret (by simp) (by simp [keepP, zonB]))
  | dict _ => simp [q_are_zones_2, isTupD]; refine W_last ?_; simp; exact SeqK.ret (BodyK.ret (by simp) (by simp [keepP, zonB]))
theorem law_is_in_v (v : PyData) (l m : Int) : m__law_is_in [.d v, .d (.int l), .d (.int m)] = some (.d (.bool (btw v l m)), [.u, .u, .u]) := by
  refine W_eq.mp (W_body (W_last ?_))
  have out : ∀ b, btw v l m = b → BodyK 3 (fun x => x = (.d (.bool (btw v l m)), [.u, .u, .u])) (.ret (.d (.bool b)) [.d v, .d (.int l), .d (.int m)]) := fun b h => BodyK.ret (by simp) (by simp [keepP, h])
  cases v with
  | int i =>
    by_cases h : l ≤ i
    · simp [h]
      exact out _ (by simp [btw, h])
    · simp [h]
      exact out _ (by simp [btw, h])
  | none => simp [isIntD, isBoolD]; exact out _ rfl
  | bool _ => simp [isIntD, isBoolD]; exact out _ rfl
  | str _ => simp [isIntD, isBoolD]; exact out _ rfl
  | list _ => simp [isIntD, isBoolD]; exact out _ rfl
  | tuple _ => simp [isIntD, isBoolD]; exact out _ rfl
  | dict _ => simp [isIntD, isBoolD]; exact out _ rfl
theorem law_are_zones_v (d : PyData) (h : ShT d) : m__law_are_zones [.d d] = some (.d (.bool (zonB d)), [.u]) := by
  refine W_eq.mp (W_body (W_seq ?_))
  cases d with
  | tuple xs =>
    have hl := h xs rfl
    have no : zonB (.tuple xs) = false → BodyK 1 (fun x => x = (.d (.bool (zonB (.tuple xs))), [.u])) (.ret (.d (.bool false)) [.d (.tuple xs), .u]) := fun e => BodyK.ret (by simp) (by simp [keepP, e])
    cases hx : xs with
    | nil =>
      simp [q__law_are_zones_1]
      refine W_last ?_
      simp
      exact SeqK.ret (BodyK.ret (by simp) (by simp [keepP, zonB]))
    | cons x0 xs0 =>
      rw [← hx]
      have c1 : ¬ (xs.length : Int) = 0 := by rw [hx]; simp only [List.length_cons]; omega
      have c1n : ¬ xs = [] := by rw [hx]; simp
      have hemp : xs.isEmpty = false := by rw [hx]; rfl
      simp [q__law_are_zones_1, c1n]
      refine W_compA id (fun d => .bool (btw d 1 4)) xs (ρ' := [.d (.tuple xs), .u]) (by simp) (fun z hz => by simp [law_is_in_v]) (by omega) ?_
      cases hb : xs.all fun d => btw d 1 4 with
      | false =>
        have e : gAll [.list (xs.map fun d => PyData.bool (btw d 1 4))] = some (.d (.bool false)) := by rw [all_M, hb]
        simp [e]
        refine W_last ?_
        simp
        exact SeqK.ret (no (by simp [zonB, hb]))
      | true =>
        obtain ⟨ns, rfl, hns⟩ := btw_all hb
        have e : gAll [.list ((ns.map PyData.int).map fun d => PyData.bool (btw d 1 4))] = some (.d (.bool true)) := by rw [all_M, hb]
        simp only [List.map_map] at e
        simp [e]
        refine SeqK.nx (W_last ?_)
        rw [List.length_map] at hl
        have hss : gSortSet (.tuple (ns.map .int)) = some (.l ((usort ns).map .int)) := by
          simp only [gSortSet, intsOf_map, x_obs]
          rw [if_pos (by omega)]
        have hgl : gList [.tuple (ns.map .int)] = some (.l (ns.map .int)) := rfl
        have heq := eq_ints ns (usort ns)
        simp [hss, hgl, heq]
        refine BodyK.ret (by simp) ?_
        have hd : decide (ns = usort ns) = riseB ns := by
          rw [Bool.eq_iff_iff, decide_eq_true_eq]
          exact usort_iff ns
        simp only [zonB, hemp, hb, toI_ints, hd]
        simp [keepP]
  | none => simp [q__law_are_zones_1, isTupD]; refine W_last ?_; simp; exact SeqK.ret (BodyK.ret (by simp) (by simp [keepP, zonB]))
  | int _ => simp [q__law_are_zones_1, isTupD]; refine W_last ?_; simp; exact SeqK.ret (BodyK.ret (by simp) (by simp [keepP, zonB]))
  | bool _ => simp [q__law_are_zones_1, isTupD]; refine W_last ?_; simp; exact SeqK.ret (BodyK.ret (by simp) (by simp [keepP, zonB]))
  | str _ => simp [q__law_are_zones_1, isTupD]; refine W_last ?_; simp; exact SeqK.ret (BodyK.ret (by simp) (by simp [keepP, zonB]))
  | list _ => simp [q__law_are_zones_1, isTupD]; refine W_last ?_; simp; exact SeqK.ret (BodyK.ret (by simp) (by simp [keepP, zonB]))
  | dict _ => simp [q__law_are_zones_1, isTupD]; refine W_last ?_; simp; exact SeqK.ret (BodyK.ret (by simp) (by simp [keepP, zonB]))
end K9
end PK92MJ
section PK92MK
set_option maxHeartbeats 2000000
open PySem PySem.Spec PyProof.Rows L2 DL
namespace K9
def isTk : PyData → Bool
  | .str w => w == "ticket"
  | _ => false
def tkB : PyData → Bool
  | .tuple [w, p, m, z, n] => isTk w && ((btw p 1 9999 && btw m 1 11000) && (zonB z && btw n 1 5))
  | _ => false
def ltB : PyData → PyData → Bool
  | .int a, .int b => decide (a < b)
  | _, _ => false
def pgB : PyData → Bool
  | .tuple [b, e, z] => (btw b 0 9999 && btw e 0 9999) && (ltB b e && zonB z)
  | _ => false
/-- what may stand where a ticket or a passage is due -/
structure Mv (d : PyData) : Prop where
  sh : ∀ xs, d = .tuple xs → ∀ x ∈ xs, SeqAt.shaped x = true ∧ ShT x
theorem ne_tk {w : PyData} (h : SeqAt.shaped w = true) : gNe w (.str "ticket") = some (.d (.bool (!isTk w))) := by
  unfold gNe
  rw [if_pos (by rw [h]; decide +kernel)]
  cases w <;> rfl
theorem five {xs : List PyData} (h : xs.length = 5) : ∃ a b c d e, xs = [a, b, c, d, e] := by
  match xs, h with
  | [a, b, c, d, e], _ => exact ⟨a, b, c, d, e, rfl⟩
theorem three {xs : List PyData} (h : xs.length = 3) : ∃ a b c, xs = [a, b, c] := by
  match xs, h with
  | [a, b, c], _ => exact ⟨a, b, c, rfl⟩
theorem tkB_len {xs : List PyData} (h : ¬ xs.length = 5) : tkB (.tuple xs) = false := by
  match xs, h with
  | [], _ => rfl
  | [_], _ => rfl
  | [_, _], _ => rfl
  | [_, _, _], _ => rfl
  | [_, _, _, _], _ => rfl
  | [_, _, _, _, _], h => exact absurd rfl h
  | _ :: _ :: _ :: _ :: _ :: _ :: _, _ => rfl
theorem pgB_len {xs : List PyData} (h : ¬ xs.length = 3) : pgB (.tuple xs) = false := by
  match xs, h with
  | [], _ => rfl
  | [_], _ => rfl
  | [_, _], _ => rfl
  | [_, _, _], h => exact absurd rfl h
  | _ :: _ :: _ :: _ :: _, _ => rfl
theorem is_ticket_v (d : PyData) (h : Mv d) : m_is_ticket [.d d] = some (.d (.bool (tkB d)), [.u]) := by
  have out : ∀ b, tkB d = b → BodyK 1 (fun x => x = (.d (.bool (tkB d)), [.u])) (.ret (.d (.bool b)) [.d d]) := fun b e => BodyK.ret (by simp) (by simp [keepP, e])
  refine W_eq.mp (W_body (W_seq ?_))
  cases d with
  | tuple xs =>
    by_cases hl : xs.length = 5
    · obtain ⟨w, p, m, z, n, rfl⟩ := five hl
      have hw := (h.sh _ rfl w (by simp)).1
      have hz := (h.sh _ rfl z (by simp)).2
      have hne := ne_tk hw
      have go : isTk w = true → W (sSeq q_is_ticket_2 (sSeq q_is_ticket_1 sNil) [.d (.tuple [w, p, m, z, n])]) (BodyK 1 fun x => x = (.d (.bool (tkB (.tuple [w, p, m, z, n]))), [.u])) := fun hk => by
        refine W_seq ?_
        cases h1 : btw p 1 9999 with
        | false =>
          simp [q_is_ticket_2, is_between_v, h1]
          refine W_last ?_
          simp
          exact SeqK.ret (out _ (by simp [tkB, hk, h1]))
        | true =>
          cases h2 : btw m 1 11000 with
          | false =>
            simp [q_is_ticket_2, is_between_v, h1, h2]
            refine W_last ?_
            simp
            exact SeqK.ret (out _ (by simp [tkB, hk, h1, h2]))
          | true =>
            simp [q_is_ticket_2, is_between_v, h1, h2]
            refine SeqK.nx (W_last ?_)
            cases h3 : zonB z with
            | false =>
              simp [q_is_ticket_1, are_zones_v z hz, is_between_v, h3]
              exact out _ (by simp [tkB, hk, h1, h2, h3])
            | true =>
              simp [q_is_ticket_1, are_zones_v z hz, is_between_v, h3]
              exact out _ (by simp [tkB, hk, h1, h2, h3])
      cases w with
      | str s =>
        cases hk : isTk (.str s) with
        | true =>
          rw [hk] at hne
          simp [q_is_ticket_3, hne]
          exact SeqK.nx (go hk)
        | false =>
          rw [hk] at hne
          simp [q_is_ticket_3, hne]
          refine W_last ?_
          simp
          exact SeqK.ret (out _ (by simp [tkB, hk]))
      | none => simp [q_is_ticket_3, isStrD]; refine W_last ?_; simp; exact SeqK.ret (out _ rfl)
      | int _ => simp [q_is_ticket_3, isStrD]; refine W_last ?_; simp; exact SeqK.ret (out _ rfl)
      | bool _ => simp [q_is_ticket_3, isStrD]; refine W_last ?_; simp; exact SeqK.ret (out _ rfl)
      | list _ => simp [q_is_ticket_3, isStrD]; refine W_last ?_; simp; exact SeqK.ret (out _ rfl)
      | tuple _ => simp [q_is_ticket_3, isStrD]; refine W_last ?_; simp; exact SeqK.ret (out _ rfl)
      | dict _ => simp [q_is_ticket_3, isStrD]; refine W_last ?_; simp; exact SeqK.ret (out _ rfl)
    · have hl2 : ¬ (xs.length : Int) = 5 := by omega
      simp [q_is_ticket_3, hl2]
      refine W_last ?_
      simp
      exact SeqK.ret (out _ (tkB_len hl))
  | none => simp [q_is_ticket_3, isTupD]; refine W_last ?_; simp; exact SeqK.ret (out _ rfl)
  | int _ => simp [q_is_ticket_3, isTupD]; refine W_last ?_; simp; exact SeqK.ret (out _ rfl)
  | bool _ => simp [q_is_ticket_3, isTupD]; refine W_last ?_; simp; exact SeqK.ret (out _ rfl)
  | str _ => simp [q_is_ticket_3, isTupD]; refine W_last ?_; simp; exact SeqK.ret (out _ rfl)
  | list _ => simp [q_is_ticket_3, isTupD]; refine W_last ?_; simp; exact SeqK.ret (out _ rfl)
  | dict _ => simp [q_is_ticket_3, isTupD]; refine W_last ?_; simp; exact SeqK.ret (out _ rfl)
theorem law_is_ticket_v (d : PyData) (h : Mv d) : m__law_is_ticket [.d d] = some (.d (.bool (tkB d)), [.u]) := by
  have out : ∀ b, tkB d = b → BodyK 1 (fun x => x = (.d (.bool (tkB d)), [.u])) (.ret (.d (.bool b)) [.d d]) := fun b e => BodyK.ret (by simp) (by simp [keepP, e])
  refine W_eq.mp (W_body (W_seq ?_))
  cases d with
  | tuple xs =>
    by_cases hl : xs.length = 5
    · obtain ⟨w, p, m, z, n, rfl⟩ := five hl
      have hw := (h.sh _ rfl w (by simp)).1
      have hz := (h.sh _ rfl z (by simp)).2
      have hne := ne_tk hw
      cases hk : isTk w with
      | false =>
        rw [hk] at hne
        simp [q__law_is_ticket_2, hne]
        refine W_last ?_
        simp
        exact SeqK.ret (out _ (by simp [tkB, hk]))
      | true =>
        rw [hk] at hne
        cases h3 : zonB z with
        | false =>
          simp [q__law_is_ticket_2, hne, law_are_zones_v z hz, h3]
          refine W_last ?_
          simp
          exact SeqK.ret (out _ (by simp [tkB, h3]))
        | true =>
          simp [q__law_is_ticket_2, hne, law_are_zones_v z hz, h3]
          refine SeqK.nx (W_last ?_)
          cases h1 : btw p 1 9999 with
          | false =>
            simp [q__law_is_ticket_1, law_is_in_v, h1]
            exact out _ (by simp [tkB, h1])
          | true =>
            cases h2 : btw m 1 11000 with
            | false =>
              simp [q__law_is_ticket_1, law_is_in_v, h1, h2]
              exact out _ (by simp [tkB, h2])
            | true =>
              simp [q__law_is_ticket_1, law_is_in_v, h1, h2]
              exact out _ (by simp [tkB, hk, h1, h2, h3])
    · have hl2 : ¬ (xs.length : Int) = 5 := by omega
      simp [q__law_is_ticket_2, hl2]
      refine W_last ?_
      simp
      exact SeqK.ret (out _ (tkB_len hl))
  | none => simp [q__law_is_ticket_2, isTupD]; refine W_last ?_; simp; exact SeqK.ret (out _ rfl)
  | int _ => simp [q__law_is_ticket_2, isTupD]; refine W_last ?_; simp; exact SeqK.ret (out _ rfl)
  | bool _ => simp [q__law_is_ticket_2, isTupD]; refine W_last ?_; simp; exact SeqK.ret (out _ rfl)
  | str _ => simp [q__law_is_ticket_2, isTupD]; refine W_last ?_; simp; exact SeqK.ret (out _ rfl)
  | list _ => simp [q__law_is_ticket_2, isTupD]; refine W_last ?_; simp; exact SeqK.ret (out _ rfl)
  | dict _ => simp [q__law_is_ticket_2, isTupD]; refine W_last ?_; simp; exact SeqK.ret (out _ rfl)
theorem btw_ex {d : PyData} {l m : Int} (h : btw d l m = true) : ∃ i, d = .int i := by
  cases d <;> first | exact ⟨_, rfl⟩ | cases h
theorem is_passage_v (d : PyData) (h : Mv d) : m_is_passage [.d d] = some (.d (.bool (pgB d)), [.u]) := by
  have out : ∀ b, pgB d = b → BodyK 1 (fun x => x = (.d (.bool (pgB d)), [.u])) (.ret (.d (.bool b)) [.d d]) := fun b e => BodyK.ret (by simp) (by simp [keepP, e])
  refine W_eq.mp (W_body (W_seq ?_))
  cases d with
  | tuple xs =>
    by_cases hl : xs.length = 3
    · obtain ⟨b, e, z, rfl⟩ := three hl
      have hz := (h.sh _ rfl z (by simp)).2
      simp [q_is_passage_3]
      refine SeqK.nx (W_seq ?_)
      cases h1 : btw b 0 9999 with
      | false =>
        simp [q_is_passage_2, is_between_v, h1]
        refine W_last ?_
        simp
        exact SeqK.ret (out _ (by simp [pgB, h1]))
      | true =>
        cases h2 : btw e 0 9999 with
        | false =>
          simp [q_is_passage_2, is_between_v, h1, h2]
          refine W_last ?_
          simp
          exact SeqK.ret (out _ (by simp [pgB, h2]))
        | true =>
          obtain ⟨i, rfl⟩ := btw_ex h1
          obtain ⟨j, rfl⟩ := btw_ex h2
          simp [q_is_passage_2, is_between_v, h1, h2]
          refine SeqK.nx (W_last ?_)
          by_cases h3 : i < j
          · simp [q_is_passage_1, are_zones_v z hz, h3]
            exact out _ (by simp [pgB, h1, h2, ltB, h3])
          · simp [q_is_passage_1, h3]
            exact out _ (by simp [pgB, ltB, h3])
    · have hl2 : ¬ (xs.length : Int) = 3 := by omega
      simp [q_is_passage_3, hl2]
      refine W_last ?_
      simp
      exact SeqK.ret (out _ (pgB_len hl))
  | none => simp [q_is_passage_3, isTupD]; refine W_last ?_; simp; exact SeqK.ret (out _ rfl)
  | int _ => simp [q_is_passage_3, isTupD]; refine W_last ?_; simp; exact SeqK.ret (out _ rfl)
  | bool _ => simp [q_is_passage_3, isTupD]; refine W_last ?_; simp; exact SeqK.ret (out _ rfl)
  | str _ => simp [q_is_passage_3, isTupD]; refine W_last ?_; simp; exact SeqK.ret (out _ rfl)
  | list _ => simp [q_is_passage_3, isTupD]; refine W_last ?_; simp; exact SeqK.ret (out _ rfl)
  | dict _ => simp [q_is_passage_3, isTupD]; refine W_last ?_; simp; exact SeqK.ret (out _ rfl)
theorem law_is_passage_v (d : PyData) (h : Mv d) : m__law_is_passage [.d d] = some (.d (.bool (pgB d)), [.u]) := by
  have out : ∀ b, pgB d = b → BodyK 1 (fun x => x = (.d (.bool (pgB d)), [.u])) (.ret (.d (.bool b)) [.d d]) := fun b e => BodyK.ret (by simp) (by simp [keepP, e])
  refine W_eq.mp (W_body (W_seq ?_))
  cases d with
  | tuple xs =>
    by_cases hl : xs.length = 3
    · obtain ⟨b, e, z, rfl⟩ := three hl
      have hz := (h.sh _ rfl z (by simp)).2
      cases h3 : zonB z with
      | false =>
        simp [q__law_is_passage_2, law_are_zones_v z hz, h3]
        refine W_last ?_
        simp
        exact SeqK.ret (out _ (by simp [pgB, h3]))
      | true =>
        simp [q__law_is_passage_2, law_are_zones_v z hz, h3]
        refine SeqK.nx (W_last ?_)
        cases h1 : btw b 0 9999 with
        | false =>
          simp [q__law_is_passage_1, law_is_in_v, h1]
          exact out _ (by simp [pgB, h1])
        | true =>
          cases h2 : btw e 0 9999 with
          | false =>
            simp [q__law_is_passage_1, law_is_in_v, h1, h2]
            exact out _ (by simp [pgB, h2])
          | true =>
            obtain ⟨i, rfl⟩ := btw_ex h1
            obtain ⟨j, rfl⟩ := btw_ex h2
            simp [q__law_is_passage_1, law_is_in_v, h1, h2]
            exact out _ (by simp [pgB, h1, h2, ltB, h3])
    · have hl2 : ¬ (xs.length : Int) = 3 := by omega
      simp [q__law_is_passage_2, hl2]
      refine W_last ?_
      simp
      exact SeqK.ret (out _ (pgB_len hl))
  | none => simp [q__law_is_passage_2, isTupD]; refine W_last ?_; simp; exact SeqK.ret (out _ rfl)
  | int _ => simp [q__law_is_passage_2, isTupD]; refine W_last ?_; simp; exact SeqK.ret (out _ rfl)
  | bool _ => simp [q__law_is_passage_2, isTupD]; refine W_last ?_; simp; exact SeqK.ret (out _ rfl)
  | str _ => simp [q__law_is_passage_2, isTupD]; refine W_last ?_; simp; exact SeqK.ret (out _ rfl)
  | list _ => simp [q__law_is_passage_2, isTupD]; refine W_last ?_; simp; exact SeqK.ret (out _ rfl)
  | dict _ => simp [q__law_is_passage_2, isTupD]; refine W_last ?_; simp; exact SeqK.ret (out _ rfl)
end K9
end PK92MK
section PK92ML
set_option maxHeartbeats 2000000
open PySem PySem.Spec PyProof.Rows L2 DL
namespace K9
def itL : PyData → List PyData
  | .list xs => xs
  | .tuple xs => xs
  | _ => []
def tksB (d : PyData) : Bool := (isLstD d || isTupD d) && ((decide (1 ≤ (itL d).length) && decide ((itL d).length ≤ 8)) && (itL d).all tkB)
def pgsB (d : PyData) : Bool := (isLstD d || isTupD d) && (decide ((itL d).length ≤ 10) && (itL d).all pgB)
theorem SeqOf.it {ds : List PyData} {d : PyData} (h : SeqOf ds d) : itL d = ds := by cases h <;> rfl
theorem are_tickets_v (d : PyData) (h : ∀ x ∈ itL d, Mv x) : m_are_tickets [.d d] = some (.d (.bool (tksB d)), [.u]) := by
  have out : ∀ (b : Bool) (s : Sl), tksB d = b → BodyK 1 (fun x => x = (.d (.bool (tksB d)), [.u])) (.ret (.d (.bool b)) [.d d, s]) := fun b s e => BodyK.ret (by simp) (by simp [keepP, e])
  refine W_eq.mp (W_body (W_seq ?_))
  cases hi : isLstD d || isTupD d with
  | false =>
    have h1 : isLstD d = false := by cases h : isLstD d <;> simp_all
    have h2 : isTupD d = false := by cases h : isTupD d <;> simp_all
    simp [q_are_tickets_1, h1, h2]
    refine W_last ?_
    simp
    exact SeqK.ret (out _ _ (by simp [tksB, h1, h2]))
  | true =>
    obtain ⟨ds, hds⟩ := seq_isi hi
    have hlv := len_seq hds
    have hit := hds.it
    by_cases c1 : 1 ≤ ds.length
    · have c1' : (1 : Int) ≤ ds.length := by omega
      by_cases c2 : ds.length ≤ 8
      · have c2' : (ds.length : Int) ≤ 8 := by omega
        simp [q_are_tickets_1, hi, hlv, c1', c2']
        refine SeqK.nx (W_last ?_)
        simp only [x_sRet, x_eApp, x_aCons, W_bind, W_map]
        refine W_compA id (fun d => .bool (tkB d)) ds (ρ' := [.d d, .u]) (by simp [items_seq hds]) (fun z hz => by simp [is_ticket_v z (h z (by rw [hit]; exact hz))]) (by omega) ?_
        simp [all_M]
        exact out _ _ (by simp only [tksB, hi, hit, c1, c2]; simp)
      · have c2' : ¬ (ds.length : Int) ≤ 8 := by omega
        simp [q_are_tickets_1, hi, hlv, c1', c2']
        refine W_last ?_
        simp
        exact SeqK.ret (out _ _ (by simp only [tksB, hi, hit, c1, c2]; simp))
    · have c1' : ¬ (1 : Int) ≤ ds.length := by omega
      simp [q_are_tickets_1, hi, hlv, c1']
      refine W_last ?_
      simp
      exact SeqK.ret (out _ _ (by simp only [tksB, hi, hit, c1]; simp))
theorem are_passages_v (d : PyData) (h : ∀ x ∈ itL d, Mv x) : m_are_passages [.d d] = some (.d (.bool (pgsB d)), [.u]) := by
  have out : ∀ (b : Bool) (s : Sl), pgsB d = b → BodyK 1 (fun x => x = (.d (.bool (pgsB d)), [.u])) (.ret (.d (.bool b)) [.d d, s]) := fun b s e => BodyK.ret (by simp) (by simp [keepP, e])
  refine W_eq.mp (W_body (W_seq ?_))
  cases hi : isLstD d || isTupD d with
  | false =>
    have h1 : isLstD d = false := by cases h : isLstD d <;> simp_all
    have h2 : isTupD d = false := by cases h : isTupD d <;> simp_all
    simp [q_are_passages_1, h1, h2]
    refine W_last ?_
    simp
    exact SeqK.ret (out _ _ (by simp [pgsB, h1, h2]))
  | true =>
    obtain ⟨ds, hds⟩ := seq_isi hi
    have hlv := len_seq hds
    have hit := hds.it
    by_cases c2 : ds.length ≤ 10
    · have c2' : ¬ (ds.length : Int) > 10 := by omega
      simp [q_are_passages_1, hi, hlv, c2']
      refine SeqK.nx (W_last ?_)
      simp only [x_sRet, x_eApp, x_aCons, W_bind, W_map]
      refine W_compA id (fun d => .bool (pgB d)) ds (ρ' := [.d d, .u]) (by simp [items_seq hds]) (fun z hz => by simp [is_passage_v z (h z (by rw [hit]; exact hz))]) (by omega) ?_
      simp [all_M]
      exact out _ _ (by simp only [pgsB, hi, hit, c2]; simp)
    · have c2' : (ds.length : Int) > 10 := by omega
      simp [q_are_passages_1, hi, hlv, c2']
      refine W_last ?_
      simp
      exact SeqK.ret (out _ _ (by simp only [pgsB, hi, hit, c2]; simp))
theorem want_tickets_v (d : PyData) (h : ∀ x ∈ itL d, Mv x) (hb : tksB d = true) : m_want_tickets [.d d] = some (.d d, [.u]) := by
  refine W_eq.mp (W_body (W_seq ?_))
  simp [are_tickets_v d h, hb]
  refine SeqK.nx (W_last ?_)
  simp
  exact BodyK.ret (by simp) (by simp [keepP])
/-- who is refused, and for what -/
def bad (t p : PyData) : Option (Str × PyData) := if tksB t = true then (if pgsB p = true then none else some ("InvalidPassages", p)) else some ("InvalidTickets", t)
theorem x_tickets (d : PyData) (h : ∀ x ∈ itL d, Mv x) : x_want_tickets [.d d] = if tksB d = true then none else some (("InvalidTickets" : Str), d) := by
  unfold x_want_tickets xIf
  simp [are_tickets_v d h]
  cases tksB d <;> simp [xRaise]
theorem x_passages (d : PyData) (h : ∀ x ∈ itL d, Mv x) : x_want_passages [.d d] = if pgsB d = true then none else some (("InvalidPassages" : Str), d) := by
  unfold x_want_passages xIf
  simp [are_passages_v d h]
  cases pgsB d <;> simp [xRaise]
theorem x_all (n : Nat) (s : List Sl) (t p : PyData) (ht : ∀ x ∈ itL t, Mv x) (hp : ∀ x ∈ itL p, Mv x) : xOr (xCall 1 x_want_tickets (aCons (eVar 0) aNil)) (xSeq (sExpr (eCall 1 m_want_tickets (aCons (eVar 0) aNil))) (xNext (eVar 0) (xCall 1 x_want_passages (aCons (eVar 1) aNil)))) (.d t :: .d p :: s) = bad t p := by
  have e1 : xCall 1 x_want_tickets (aCons (eVar 0) aNil) (.d t :: .d p :: s) = x_want_tickets [.d t] := by simp [xCall]
  unfold xOr
  rw [e1, x_tickets t ht]
  unfold bad
  cases hb : tksB t with
  | false => simp
  | true =>
    have e2 : xCall 1 x_want_passages (aCons (eVar 1) aNil) (.d t :: .d p :: s) = x_want_passages [.d p] := by simp [xCall]
    simp [xSeq, xNext, want_tickets_v t ht hb, e2, x_passages p hp]
theorem addL {xs ys : List PyData} (h : xs.length + ys.length ≤ 10000) : gAdd (.list xs) (.list ys) = some (.l (xs ++ ys)) := if_pos (Nat.le_trans h (by rw [sizeLine_eq]; omega))
theorem addT {xs ys : List PyData} (h : xs.length + ys.length ≤ 10000) : gAdd (.tuple xs) (.tuple ys) = some (.d (.tuple (xs ++ ys))) := if_pos (Nat.le_trans h (by rw [sizeLine_eq]; omega))
def wdB (c : Str) : Option Str := wordOf "InvalidTickets" "tickets" "InvalidPassages" "passages" c
def hD (wd : Str) (d : PyData) : PyData := .tuple [.str wd, .str d.shown, .bool true]
theorem heard_v {g : XM} {ρ : Rho} {c wd : Str} {d : PyData} (e : g (ρ.map onlyD) = some (c, d)) (hw : wdB c = some wd) (hr : reprOk d = true) : eHeard "InvalidTickets" "tickets" "InvalidPassages" "passages" g ρ = some (.d (hD wd d), ρ) := by
  unfold wdB at hw
  simp [eHeard, e, hw, hr, hD]
theorem all_heard_v {t p d : PyData} {c wd : Str} (ht : ∀ x ∈ itL t, Mv x) (hp : ∀ x ∈ itL p, Mv x) (hb : bad t p = some (c, d)) (hw : wdB c = some wd) (hr : reprOk d = true) : m__law_all_heard [.d t, .d p] = some (.l (List.replicate 6 (hD wd d)), [.u, .u]) := by
  have hx : ∀ s, xOr (xCall 1 x_want_tickets (aCons (eVar 0) aNil)) (xSeq (sExpr (eCall 1 m_want_tickets (aCons (eVar 0) aNil))) (xNext (eVar 0) (xCall 1 x_want_passages (aCons (eVar 1) aNil)))) (.d t :: .d p :: s) = some (c, d) := fun s => (x_all 0 s t p ht hp).trans hb
  have x1 : x_cheapest [.d t, .d p] = some (c, d) := hx _
  have x2 : x_cheapest_cover [.d t, .d p] = some (c, d) := hx _
  have x3 : x_charges [.d t, .d p] = some (c, d) := hx _
  have x4 : x_is_cover [.d t, .d p, .d .none] = some (c, d) := hx _
  have x5 : x_price_table [.d t, .d p] = some (c, d) := hx _
  have x6 : x_is_price_table [.d t, .d p, .d .none] = some (c, d) := hx _
  have y1 : ∀ s, eHeard "InvalidTickets" "tickets" "InvalidPassages" "passages" (xCall 2 x_cheapest (aCons (eVar 0) (aCons (eVar 1) aNil))) [.d t, .d p, s] = some (.d (hD wd d), [.d t, .d p, s]) := fun s => heard_v (by simp [xCall, onlyD, x1]) hw hr
  have y2 : ∀ s, eHeard "InvalidTickets" "tickets" "InvalidPassages" "passages" (xCall 2 x_cheapest_cover (aCons (eVar 0) (aCons (eVar 1) aNil))) [.d t, .d p, s] = some (.d (hD wd d), [.d t, .d p, s]) := fun s => heard_v (by simp [xCall, onlyD, x2]) hw hr
  have y3 : ∀ s, eHeard "InvalidTickets" "tickets" "InvalidPassages" "passages" (xCallK 2 [1, 0] x_charges (aCons (eVar 1) (aCons (eVar 0) aNil))) [.d t, .d p, s] = some (.d (hD wd d), [.d t, .d p, s]) := fun s => heard_v (by simp [xCallK, onlyD, x3, perm]) hw hr
  have y4 : ∀ s, eHeard "InvalidTickets" "tickets" "InvalidPassages" "passages" (xCall 3 x_is_cover (aCons (eVar 0) (aCons (eVar 1) (aCons (eK .none) aNil)))) [.d t, .d p, s] = some (.d (hD wd d), [.d t, .d p, s]) := fun s => heard_v (by simp [xCall, onlyD, x4]) hw hr
  have y5 : ∀ s, eHeard "InvalidTickets" "tickets" "InvalidPassages" "passages" (xCall 2 x_price_table (aCons (eVar 0) (aCons (eVar 1) aNil))) [.d t, .d p, s] = some (.d (hD wd d), [.d t, .d p, s]) := fun s => heard_v (by simp [xCall, onlyD, x5]) hw hr
  have y6 : ∀ s, eHeard "InvalidTickets" "tickets" "InvalidPassages" "passages" (xCall 3 x_is_price_table (aCons (eVar 0) (aCons (eVar 1) (aCons (eK .none) aNil)))) [.d t, .d p, s] = some (.d (hD wd d), [.d t, .d p, s]) := fun s => heard_v (by simp [xCall, onlyD, x6]) hw hr
  have sz : ∀ k, k < 10 → k < sizeLine := fun k hk => small_lt (by omega)
  generalize hD wd d = D at *
  refine W_eq.mp (W_body (W_seq ?_))
  simp [q__law_all_heard_6, y1]
  refine SeqK.nx (W_seq ?_)
  simp [q__law_all_heard_5, y2, sz]
  refine SeqK.nx (W_seq ?_)
  simp [q__law_all_heard_4, y3, sz]
  refine SeqK.nx (W_seq ?_)
  simp [q__law_all_heard_3, y4, sz]
  refine SeqK.nx (W_seq ?_)
  simp [q__law_all_heard_2, y5, sz]
  refine SeqK.nx (W_last ?_)
  have ha := addL (xs := [D, D, D, D, D]) (ys := [D]) (by simp)
  simp [q__law_all_heard_1, y6, ha]
  exact BodyK.ret (by simp) (by simp [keepP])
end K9
end PK92ML
section PK92MM
set_option maxHeartbeats 2000000
open PySem PySem.Spec PyProof.Rows L2 DL
namespace K9
/-! the law's bent tickets and passages -/
structure Cm (x : PyData) : Prop where
  f : Fit 1 200 x
  s : ShT x
structure Bv (d : PyData) : Prop where
  f : Fit 2 1300 d
  m : Mv d
theorem Cm.int {i : Int} (h : i.natAbs < 10 ^ 12) : Cm (.int i) := ⟨(Fit.int h).up (by omega) (by omega), fun xs e => nomatch e⟩
theorem Cm.none : Cm .none := ⟨Fit.none.up (by omega) (by omega), fun xs e => nomatch e⟩
theorem Cm.bool (b : Bool) : Cm (.bool b) := ⟨(Fit.bool b).up (by omega) (by omega), fun xs e => nomatch e⟩
theorem Cm.str {x : Str} (h : (PyData.strOk x && PyData.strOk (reprText x) && decide (x.cps.size ≤ 41)) = true) : Cm (.str x) := ⟨(fit_str x h).up (by omega) (by omega), fun xs e => nomatch e⟩
theorem Cm.tup {xs : List PyData} (h : ∀ x ∈ xs, Fit 0 41 x) (hl : xs.length ≤ 4) : Cm (.tuple xs) := ⟨(Fit.tup h hl).up (by omega) (by omega), fun ys e => by cases e; omega⟩
theorem Cm.list {xs : List PyData} (h : ∀ x ∈ xs, Fit 0 41 x) (hl : xs.length ≤ 4) : Cm (.list xs) := ⟨(Fit.list h hl).up (by omega) (by omega), fun ys e => nomatch e⟩
theorem Bv.tup {xs : List PyData} (h : ∀ x ∈ xs, Cm x) (hl : xs.length ≤ 6) : Bv (.tuple xs) := ⟨(Fit.tup (fun x hx => (h x hx).f) hl).up (by omega) (by omega), ⟨fun ys e x hx => by
  cases e
  exact ⟨(h x hx).f.shaped (by omega), (h x hx).s⟩⟩⟩
theorem Bv.list {xs : List PyData} (h : ∀ x ∈ xs, Cm x) (hl : xs.length ≤ 6) : Bv (.list xs) := ⟨(Fit.list (fun x hx => (h x hx).f) hl).up (by omega) (by omega), ⟨fun ys e => nomatch e⟩⟩
theorem Bv.none : Bv .none := ⟨Fit.none.up (by omega) (by omega), ⟨fun ys e => nomatch e⟩⟩
theorem Bv.int {i : Int} (h : i.natAbs < 10 ^ 12) : Bv (.int i) := ⟨(Fit.int h).up (by omega) (by omega), ⟨fun ys e => nomatch e⟩⟩
theorem Bv.str {x : Str} (h : (PyData.strOk x && PyData.strOk (reprText x) && decide (x.cps.size ≤ 41)) = true) : Bv (.str x) := ⟨(fit_str x h).up (by omega) (by omega), ⟨fun ys e => nomatch e⟩⟩
theorem cut_to {xs : List PyData} {a : Nat} (h : a ≤ xs.length) : DL.cutD xs none (some (a : Int)) = xs.take a := by
  unfold DL.cutD
  rw [HT.sIx_nat, HT.sIx_none, Nat.min_eq_left h]
  simp
theorem cut_from {xs : List PyData} {a : Nat} (h : a ≤ xs.length) : DL.cutD xs (some (a : Int)) none = xs.drop a := by
  unfold DL.cutD
  rw [HT.sIx_nat, HT.sIx_none, Nat.min_eq_left h]
  exact List.take_of_length_le (by simp)
theorem cut_last {xs : List PyData} : DL.cutD xs none (some (-1)) = xs.take (xs.length - 1) := by
  unfold DL.cutD
  have h1 : HT.sIx xs.length 0 none = 0 := rfl
  have h2 : HT.sIx xs.length xs.length (some (-1)) = xs.length - 1 := by
    unfold HT.sIx
    simp
    omega
  rw [h1, h2]
  simp
def odds : List PyData := [.int 0, .int (-1), .int 1, .int 5, .int 6, .bool true, .none, .str (Str.ofString "1"), .int 9999, .int 10000, .int 11000, .int 11001, .tuple [], .tuple [.int 1], .tuple [.int 4], .tuple [.int 5], .tuple [.int 0], .tuple [.int 2, .int 1], .tuple [.int 1, .int 1], .list [.int 1], .tuple [.bool true], .tuple [.int 1, .int 2, .int 3, .int 4]]
theorem fit0 : ∀ {xs : List PyData}, (xs.all fun x => match x with
    | .int i => decide (i.natAbs < 100)
    | .bool _ => true
    | _ => false) = true → ∀ x ∈ xs, Fit 0 41 x := fun {xs} h x hx => by
  have := List.all_eq_true.mp h x hx
  cases x with
  | int i => exact Fit.int (by simp at this; omega)
  | bool b => exact (Fit.bool b).up (by omega) (by omega)
  | none => cases this
  | str _ => cases this
  | list _ => cases this
  | tuple _ => cases this
  | dict _ => cases this
theorem odd_cm : ∀ d ∈ odds, Cm d := fun d hd => by
  simp only [odds, List.mem_cons, List.not_mem_nil, or_false] at hd
  rcases hd with rfl | rfl | rfl | rfl | rfl | rfl | rfl | rfl | rfl | rfl | rfl | rfl | rfl | rfl | rfl | rfl | rfl | rfl | rfl | rfl | rfl | rfl
  · exact Cm.int (by decide)
  · exact Cm.int (by decide)
  · exact Cm.int (by decide)
  · exact Cm.int (by decide)
  · exact Cm.int (by decide)
  · exact Cm.bool _
  · exact Cm.none
  · exact Cm.str (by decide +kernel)
  · exact Cm.int (by decide)
  · exact Cm.int (by decide)
  · exact Cm.int (by decide)
  · exact Cm.int (by decide)
  · exact Cm.tup (by simp) (by simp)
  · exact Cm.tup (fit0 rfl) (by simp)
  · exact Cm.tup (fit0 rfl) (by simp)
  · exact Cm.tup (fit0 rfl) (by simp)
  · exact Cm.tup (fit0 rfl) (by simp)
  · exact Cm.tup (fit0 rfl) (by simp)
  · exact Cm.tup (fit0 rfl) (by simp)
  · exact Cm.list (fit0 rfl) (by simp)
  · exact Cm.tup (fit0 rfl) (by simp)
  · exact Cm.tup (fit0 rfl) (by simp)
def BpP (x : Rs × Rho) : Prop := ∃ (d : PyData) (a b : Int), 0 ≤ a ∧ Bv d ∧ x = (.d d, [pot a b, .u])
theorem fit1 {i : Int} (h : i.natAbs < 10 ^ 12) : ∀ x ∈ [PyData.int i], Fit 0 41 x := fun x hx => by rw [List.mem_singleton.mp hx]; exact Fit.int h
theorem bent_parts_W {xs : List PyData} (hx : ∀ x ∈ xs, Cm x) (h3 : 3 ≤ xs.length) (h5 : xs.length ≤ 5) (a b : Int) (ha : 0 ≤ a) : W (m__law_bent_parts [pot a b, .d (.tuple xs)]) BpP := by
  refine W_body (W_seq ?_)
  simp only [x_sPar, W_bind, W_map]
  refine W_draw (n := (xs.length : Int)) rfl ha (by simp) (by omega) (by omega) fun d1 a b g1 g2 ha => ?_
  simp
  refine W_draw (n := 7) rfl ha (by simp) (by omega) (by omega) fun d2 a b g3 g4 ha => ?_
  obtain ⟨at', rfl⟩ : ∃ n : Nat, d1 = (n : Int) := ⟨d1.toNat, by omega⟩
  simp
  refine SeqK.nx (W_seq ?_)
  simp [q__law_bent_parts_3]
  refine SeqK.nx ?_
  change W (sSeq _ _ [pot a b, .d (.tuple xs), .d (.int at'), .d (.int d2), .l odds]) _
  have hO1 : odds ≠ [] := by decide +kernel
  have hO2 : odds.length < 1073741824 := by decide +kernel
  have hO := odd_cm
  generalize odds = O at *
  have c1 : DL.cutD xs none (some (at' : Int)) = xs.take at' := cut_to (by omega)
  have c2 : DL.cutD xs (some ((at' : Int) + 1)) none = xs.drop (at' + 1) := by
    have := cut_from (xs := xs) (a := at' + 1) (by omega)
    rw [← this]
    congr 2
  have c3 : DL.cutD xs (some 1) none = xs.tail := (cut_from (a := 1) (by omega)).trans List.drop_one
  have c4 : DL.cutD xs none (some (-1)) = xs.take (xs.length - 1) := cut_last
  refine W_seq ?_
  by_cases hw : d2 = 0
  · subst hw
    simp
    refine W_last ?_
    simp only [q__law_bent_parts_1, x_sRet, W_map]
    refine W_pick rfl ?_
    have a1 : gAdd (.tuple xs) (.tuple [.int 1]) = some (.d (.tuple (xs ++ [.int 1]))) := addT (by simp; omega)
    have a2 : gAdd (.tuple [.str (Str.ofString "Ticket")]) (.tuple xs.tail) = some (.d (.tuple ([.str (Str.ofString "Ticket")] ++ xs.tail))) := addT (by simp; omega)
    have a3 : gList [.tuple xs] = some (.l xs) := rfl
    simp [c3, c4, a1, a2, a3]
    refine ⟨_, .inl rfl, by simp, by simp, a, b, ha, rfl, fun d hd a b ha => ?_⟩
    have hv : Bv d := by
      simp only [List.mem_cons, List.not_mem_nil, or_false] at hd
      rcases hd with rfl | rfl | rfl | rfl | rfl | rfl | rfl | rfl | rfl
      · exact Bv.none
      · exact Bv.int (by decide)
      · exact Bv.str (by decide +kernel)
      · exact Bv.tup (by simp) (by simp)
      · exact Bv.list (by simp) (by simp)
      · exact Bv.tup (fun x h => hx x (List.mem_of_mem_take h)) (by simp; omega)
      · refine Bv.tup (fun x h => ?_) (by simp; omega)
        rcases List.mem_append.mp h with h | h
        · exact hx x h
        · rw [List.mem_singleton.mp h]; exact Cm.int (by decide)
      · exact Bv.list hx (by omega)
      · refine Bv.tup (fun x h => ?_) (by simp; omega)
        rcases List.mem_cons.mp h with h | h
        · rw [h]; exact Cm.str (by decide +kernel)
        · exact hx x (List.mem_of_mem_tail h)
    exact SeqK.ret (BodyK.ret (by simp) ⟨d, a, b, ha, hv, by simp [keepP]⟩)
  · simp [hw]
    refine SeqK.nx (W_last ?_)
    simp only [q__law_bent_parts_2, x_sRet, x_eBin, x_eCut, x_eApp, x_aCons, W_bind, W_map]
    simp [c1]
    refine W_pick rfl ?_
    simp
    refine ⟨_, .inl rfl, hO1, hO2, a, b, ha, rfl, fun d hd a b ha => ?_⟩
    have a1 : gAdd (.tuple (xs.take at')) (.tuple [d]) = some (.d (.tuple (xs.take at' ++ [d]))) := addT (by simp; omega)
    have a2 : gAdd (.tuple (xs.take at' ++ [d])) (.tuple (xs.drop (at' + 1))) = some (.d (.tuple (xs.take at' ++ [d] ++ xs.drop (at' + 1)))) := addT (by simp; omega)
    simp [a1, c2, a2]
    refine BodyK.ret (by simp) ⟨_, a, b, ha, Bv.tup (xs := xs.take at' ++ [d] ++ xs.drop (at' + 1)) (fun x h => ?_) (by simp; omega), by simp [keepP]⟩
    rcases List.mem_append.mp h with h | h
    · rcases List.mem_append.mp h with h | h
      · exact hx x (List.mem_of_mem_take h)
      · rw [List.mem_singleton.mp h]; exact hO d hd
    · exact hx x (List.mem_of_mem_drop h)
end K9
end PK92MM
section PK92MN
set_option maxHeartbeats 2000000
open PySem PySem.Spec PyProof.Rows L2 DL
namespace K9
/-! what is refused -/
theorem gMul_list (xs : List PyData) (k : Int) (h : (decide (-(2 ^ 63) ≤ k) && decide (k < 2 ^ 63) && decide (xs.length * k.toNat ≤ sizeLine)) = true) : gMul (.list xs) (.int k) = some (.l (List.replicate k.toNat xs).flatten) := if_pos h
theorem mul_one (d : PyData) (k : Nat) (h : k ≤ 100) : gMul (.list [d]) (.int (k : Int)) = some (.l (List.replicate k d)) := by
  rw [gMul_list _ _ (by
    have := sizeLine_eq
    rw [Bool.and_eq_true, Bool.and_eq_true, decide_eq_true_eq, decide_eq_true_eq, decide_eq_true_eq]
    simp
    omega)]
  congr 1
  rw [Int.toNat_natCast]
  induction k with
  | zero => rfl
  | succ k ih => rw [List.replicate_succ, List.replicate_succ, List.flatten_cons]; simp
structure Odd (d : PyData) : Prop where
  r : reprOk d = true
  s : PyData.strOk d.shown = true
  m : ∀ x ∈ itL d, Mv x
theorem Odd.repr {d : PyData} (h : Odd d) : gRepr [d] = some (.d (.str d.shown)) := by
  have e := h.r
  show (if DL.reprOk d = true then some (Rs.d (PyData.str d.shown)) else Option.none) = _
  rw [if_pos e]
theorem Odd.fit {d : PyData} {n w : Nat} (h : Fit n w d) (hn : n ≤ 60) (hw : w ≤ 1000000) (hm : ∀ x ∈ itL d, Mv x) : Odd d := ⟨h.reprOk hn hw, h.so, hm⟩
theorem hD_can {wd : Str} {d : PyData} (hw : PyData.strOk wd = true) (hs : PyData.strOk d.shown = true) : (hD wd d).canLay0 = true ∧ (hD wd d).depth ≤ 63 := by
  refine ⟨?_, ?_⟩
  · simp only [hD, PyData.canLay0, PyData.canLayAll0, hw, hs]
    rfl
  · simp [hD, PyData.depth, PyData.depthAll]
theorem eqv_hD (wd : Str) (d : PyData) : PyData.eqv (hD wd d) (hD wd d) = true := by
  simp [hD, PyData.eqv, PyData.eqvAll]
theorem ne_six {wd : Str} {d : PyData} (hw : PyData.strOk wd = true) (hs : PyData.strOk d.shown = true) : gNe (.list (List.replicate 6 (hD wd d))) (.list (List.replicate 6 (hD wd d))) = some (.d (.bool false)) := by
  have h1 : SeqAt.shaped (.list (List.replicate 6 (hD wd d))) = true := shapedL fun x hx => by rw [(List.mem_replicate.mp hx).2]; exact hD_can hw hs
  have h2 := eqv_hD wd d
  unfold gNe
  rw [if_pos (by rw [h1]; rfl)]
  simp [PyData.eqv, PyData.eqvAll, List.replicate, h2]
theorem tk_B {t : Tk} (h : t.ok) : tkB t.d = true ∧ Bv t.d := by
  have hb : Bv t.d := Bv.tup (fun x hx => by
    have h1 := h.p
    have h2 := h.m
    have h3 := h.n
    simp only [List.mem_cons, List.not_mem_nil, or_false] at hx
    rcases hx with rfl | rfl | rfl | rfl | rfl
    · exact Cm.str (by decide +kernel)
    · exact Cm.int (by omega)
    · exact Cm.int (by omega)
    · refine Cm.tup (fun x hx => ?_) (by simpa using h.z.2.1)
      obtain ⟨z, hz, rfl⟩ := List.mem_map.mp hx
      have := h.z.2.2.1 z hz
      exact Fit.int (by omega)
    · exact Cm.int (by omega)) (by simp)
  refine ⟨?_, hb⟩
  have e := Tk.ticket t h
  rw [is_ticket_v _ hb.m] at e
  simpa using e
theorem pg_B {p : Pg} (h : p.ok) : pgB p.d = true ∧ Bv p.d := by
  have hb : Bv p.d := Bv.tup (fun x hx => by
    have h1 := h.b
    have h2 := h.l
    have h3 := h.e
    simp only [List.mem_cons, List.not_mem_nil, or_false] at hx
    rcases hx with rfl | rfl | rfl
    · exact Cm.int (by omega)
    · exact Cm.int (by omega)
    · refine Cm.tup (fun x hx => ?_) (by simpa using h.z.2.1)
      obtain ⟨z, hz, rfl⟩ := List.mem_map.mp hx
      have := h.z.2.2.1 z hz
      exact Fit.int (by omega)) (by simp)
  refine ⟨?_, hb⟩
  have e := Pg.passage p h
  rw [is_passage_v _ hb.m] at e
  simpa using e
theorem odd_list {xs : List PyData} (h : ∀ x ∈ xs, Bv x) (hl : xs.length ≤ 20) : Odd (.list xs) := Odd.fit (Fit.list (fun x hx => (h x hx).f) hl) (by omega) (by omega) fun x hx => (h x hx).m
theorem odd_nod : Odd (.dict []) := ⟨by decide +kernel, by decide +kernel, fun x hx => by cases hx⟩
end K9
end PK92MN
section PK92MO
set_option maxHeartbeats 2000000
open PySem PySem.Spec PyProof.Rows L2 DL
namespace K9
theorem bp_dr {xs : List PyData} (hx : ∀ x ∈ xs, Cm x) (h3 : 3 ≤ xs.length) (h5 : xs.length ≤ 5) : ∀ a b : Int, 0 ≤ a → W (m__law_bent_parts (pot a b :: [PyData.tuple xs].map .d)) (Dr 1 Bv) := fun a b ha => (bent_parts_W hx h3 h5 a b ha).mono fun x ⟨d, a, b, h1, h2, h3⟩ => ⟨d, a, b, h2, h1, h3⟩
theorem tk_cm {t : Tk} (h : t.ok) : ∀ x ∈ [PyData.str "ticket", .int t.price, .int t.minutes, zD t.zones, .int t.persons], Cm x := fun x hx => by
  have h1 := h.p
  have h2 := h.m
  have h3 := h.n
  simp only [List.mem_cons, List.not_mem_nil, or_false] at hx
  rcases hx with rfl | rfl | rfl | rfl | rfl
  · exact Cm.str (by decide +kernel)
  · exact Cm.int (by omega)
  · exact Cm.int (by omega)
  · refine Cm.tup (fun x hx => ?_) (by simpa using h.z.2.1)
    obtain ⟨z, hz, rfl⟩ := List.mem_map.mp hx
    have := h.z.2.2.1 z hz
    exact Fit.int (by omega)
  · exact Cm.int (by omega)
theorem pg_cm {p : Pg} (h : p.ok) : ∀ x ∈ [PyData.int p.b, .int p.e, zD p.zones], Cm x := fun x hx => by
  have h1 := h.b
  have h2 := h.l
  have h3 := h.e
  simp only [List.mem_cons, List.not_mem_nil, or_false] at hx
  rcases hx with rfl | rfl | rfl
  · exact Cm.int (by omega)
  · exact Cm.int (by omega)
  · refine Cm.tup (fun x hx => ?_) (by simpa using h.z.2.1)
    obtain ⟨z, hz, rfl⟩ := List.mem_map.mp hx
    have := h.z.2.2.1 z hz
    exact Fit.int (by omega)
theorem rep_bb (b : Bool) : ∃ x : Str, gRepr [.list [.bool b, .bool b]] = some (.d (.str x)) ∧ PyData.strOk x = true := by
  have h : Fit 1 100 (.list [.bool b, .bool b]) := (Fit.list (k := 2) (w := 0) (fun x hx => by
    have : x = .bool b := by simpa using hx
    rw [this]
    exact Fit.bool b) (by simp)).up (by omega) (by omega)
  exact ⟨_, h.repr, h.so⟩
theorem mul2 (d : PyData) : gMul (.list [d]) (.int 2) = some (.l [d, d]) := mul_one d 2 (by omega)
theorem mul6 (d : PyData) : gMul (.list [d]) (.int 6) = some (.l (List.replicate 6 d)) := mul_one d 6 (by omega)
def RfS (t : Tk) (p : Pg) (a b : Int) (s3 s4 s5 s6 s7 s8 s9 : Sl) : Rho := [pot a b, .d t.d, .d p.d, s3, s4, s5, s6, s7, s8, s9]
def RfI (t : Tk) (p : Pg) (_ : Nat) (ρ : Rho) : Prop := ∃ (a b : Int) (s3 s4 s5 s6 s7 s8 s9 : Sl), 0 ≤ a ∧ ρ = RfS t p a b s3 s4 s5 s6 s7 s8 s9
theorem rf_turn {t : Tk} {p : Pg} (ht : t.ok) (hp : p.ok) (i : Nat) (d : PyData) (ρ : Rho) (h : RfI t p i ρ) : W (gdName 3 (.d d) ρ) fun ρ1 => W (l__law_refused_right_6 ρ1) fun
      | .nx ρ2 => RfI t p (i + 1) ρ2
      | _ => False := by
  obtain ⟨a, b, s3, s4, s5, s6, s7, s8, s9, ha, rfl⟩ := h
  obtain ⟨tB, tV⟩ := tk_B ht
  obtain ⟨pB, pV⟩ := pg_B hp
  have w1 := bp_dr (tk_cm ht) (by simp) (by simp)
  have w2 := bp_dr (pg_cm hp) (by simp) (by simp)
  change ∀ a b : Int, 0 ≤ a → W (m__law_bent_parts (pot a b :: [t.d].map .d)) (Dr 1 Bv) at w1
  change ∀ a b : Int, 0 ≤ a → W (m__law_bent_parts (pot a b :: [p.d].map .d)) (Dr 1 Bv) at w2
  simp [RfS]
  refine W_seq ?_
  simp only [x_sPar, W_bind, W_map]
  refine W_fn (ds := [t.d]) w1 rfl ha (by simp) rfl fun near a b nV ha => ?_
  simp
  refine W_fn (ds := [p.d]) w2 rfl ha (by simp) rfl fun far a b fV ha => ?_
  simp
  refine SeqK.nx (W_seq ?_)
  have n1 := is_ticket_v near nV.m
  have n2 := law_is_ticket_v near nV.m
  have f1 := is_passage_v far fV.m
  have f2 := law_is_passage_v far fV.m
  obtain ⟨r1, q1, q2⟩ := rep_bb (tkB near)
  obtain ⟨r2, q3, q4⟩ := rep_bb (pgB far)
  have m1 := mul2 (.bool (tkB near))
  have m2 := mul2 (.bool (pgB far))
  have e1 := ne_self q2
  have e2 := ne_self q4
  simp [q__law_refused_right_5, n1, n2, perm, m1, q1, e1]
  refine SeqK.nx (W_seq ?_)
  simp [q__law_refused_right_4, f1, f2, perm, m2, q3, e2]
  refine SeqK.nx (W_seq ?_)
  simp
  refine SeqK.nx (W_seq ?_)
  have oT : Odd (.list [t.d, near]) := odd_list (fun x hx => by
    simp only [List.mem_cons, List.not_mem_nil, or_false] at hx
    rcases hx with rfl | rfl
    · exact tV
    · exact nV) (by simp)
  have oP : Odd (.list [p.d, far, p.d]) := odd_list (fun x hx => by
    simp only [List.mem_cons, List.not_mem_nil, or_false] at hx
    rcases hx with rfl | rfl | rfl
    · exact pV
    · exact fV
    · exact pV) (by simp)
  have kT : tksB (.list [t.d, near]) = tkB near := by simp [tksB, itL, tB]
  have kP : pgsB (.list [p.d, far, p.d]) = pgB far := by simp [pgsB, itL, pB]
  cases hn : tkB near with
  | false =>
    rw [hn] at n2 kT
    have hh := all_heard_v (d := .list [t.d, near]) (c := "InvalidTickets") (wd := "tickets") oT.m oP.m (by unfold bad; rw [kT]; rfl) (by decide +kernel) oT.r
    have hne := ne_six (wd := "tickets") (by decide +kernel) oT.s
    have hm6 := mul6 (hD "tickets" (.list [t.d, near]))
    have hr := oT.repr
    obtain ⟨R, hR⟩ : ∃ R, R = List.replicate 6 (hD "tickets" (.list [t.d, near])) := ⟨_, rfl⟩
    rw [← hR] at hh hne hm6
    unfold hD at hm6
    simp [q__law_refused_right_3, n2, hr]
    refine SeqK.nx (W_seq ?_)
    simp [q__law_refused_right_2, isNone]
    refine SeqK.nx (W_last ?_)
    simp [q__law_refused_right_1, isNone, hh, hm6, hne]
    exact ⟨a, b, _, _, _, _, _, _, _, ha, rfl⟩
  | true =>
    rw [hn] at n2 kT
    simp [q__law_refused_right_3, n2]
    refine SeqK.nx (W_seq ?_)
    cases hf : pgB far with
    | false =>
      rw [hf] at f2 kP
      have hh := all_heard_v (d := .list [p.d, far, p.d]) (c := "InvalidPassages") (wd := "passages") oT.m oP.m (by unfold bad; rw [kT, kP]; rfl) (by decide +kernel) oP.r
      have hne := ne_six (wd := "passages") (by decide +kernel) oP.s
      have hm6 := mul6 (hD "passages" (.list [p.d, far, p.d]))
      have hr := oP.repr
      obtain ⟨R, hR⟩ : ∃ R, R = List.replicate 6 (hD "passages" (.list [p.d, far, p.d])) := ⟨_, rfl⟩
      rw [← hR] at hh hne hm6
      unfold hD at hm6
      simp [q__law_refused_right_2, isNone, f2]
      refine W_last ?_
      simp [hr]
      refine SeqK.nx (W_last ?_)
      simp [q__law_refused_right_1, isNone, hh, hm6, hne]
      exact ⟨a, b, _, _, _, _, _, _, _, ha, rfl⟩
    | true =>
      rw [hf] at f2
      simp [q__law_refused_right_2, isNone, f2]
      refine SeqK.nx (W_last ?_)
      simp [q__law_refused_right_1, isNone]
      exact ⟨a, b, _, _, _, _, _, _, _, ha, rfl⟩
end K9
end PK92MO
section PK92MP
set_option maxHeartbeats 400000
open PySem PySem.Spec PyProof.Rows L2 DL
namespace K9
theorem rep_mem {d x : PyData} {k : Nat} (h : x ∈ List.replicate k d) : x = d := (List.mem_replicate.mp h).2
theorem mv_cm {x : PyData} (h : ∀ xs, x ≠ .tuple xs) : Mv x := ⟨fun xs e => absurd e (h xs)⟩
theorem mv_zD (zs : List Int) : Mv (zD zs) := ⟨fun xs e x hx => by
  cases e
  obtain ⟨z, _, rfl⟩ := List.mem_map.mp hx
  exact ⟨x_shaped_i z, fun xs e => nomatch e⟩⟩
theorem odd_tk {t : Tk} (h : t.ok) : Odd t.d := Odd.fit (tk_B h).2.f (by omega) (by omega) fun x hx => by
  simp only [Tk.d, itL, List.mem_cons, List.not_mem_nil, or_false] at hx
  rcases hx with rfl | rfl | rfl | rfl | rfl
  · exact mv_cm fun xs e => nomatch e
  · exact mv_cm fun xs e => nomatch e
  · exact mv_cm fun xs e => nomatch e
  · exact mv_zD _
  · exact mv_cm fun xs e => nomatch e
theorem odd_pg {p : Pg} (h : p.ok) : Odd p.d := Odd.fit (pg_B h).2.f (by omega) (by omega) fun x hx => by
  simp only [Pg.d, itL, List.mem_cons, List.not_mem_nil, or_false] at hx
  rcases hx with rfl | rfl | rfl
  · exact mv_cm fun xs e => nomatch e
  · exact mv_cm fun xs e => nomatch e
  · exact mv_zD _
theorem odd_rep {d : PyData} (h : Bv d) {k : Nat} (hk : k ≤ 20) : Odd (.list (List.replicate k d)) := odd_list (fun x hx => by rw [rep_mem hx]; exact h) (by simpa using hk)
theorem odd_at {d : PyData} {n w : Nat} (h : Fit n w d) (hn : n ≤ 60) (hw : w ≤ 1000000) (e : itL d = []) : Odd d := Odd.fit h hn hw fun x hx => by rw [e] at hx; cases hx
def oddT (t : Tk) : List PyData := [.none, .list [], .tuple [], .list (List.replicate 9 t.d), .dict [], t.d]
def oddP (p : Pg) : List PyData := [.none, .list (List.replicate 11 p.d), .dict [], p.d, .int 0]
theorem oddT_ok {t : Tk} (h : t.ok) : ∀ d ∈ oddT t, Odd d ∧ tksB d = false := fun d hd => by
  simp only [oddT, List.mem_cons, List.not_mem_nil, or_false] at hd
  rcases hd with rfl | rfl | rfl | rfl | rfl | rfl
  · exact ⟨odd_at Fit.none (by omega) (by omega) rfl, rfl⟩
  · exact ⟨odd_list (by simp) (by simp), rfl⟩
  · exact ⟨odd_at (Fit.tup (k := 0) (n := 0) (w := 0) (by simp) (by simp)) (by omega) (by omega) rfl, rfl⟩
  · exact ⟨odd_rep (tk_B h).2 (by omega), by simp [tksB, itL]⟩
  · exact ⟨odd_nod, rfl⟩
  · exact ⟨odd_tk h, by simp [tksB, itL, Tk.d, tkB]⟩
theorem oddP_ok {p : Pg} (h : p.ok) : ∀ d ∈ oddP p, Odd d ∧ pgsB d = false := fun d hd => by
  simp only [oddP, List.mem_cons, List.not_mem_nil, or_false] at hd
  rcases hd with rfl | rfl | rfl | rfl | rfl
  · exact ⟨odd_at Fit.none (by omega) (by omega) rfl, rfl⟩
  · exact ⟨odd_rep (pg_B h).2 (by omega), by simp [pgsB, itL]⟩
  · exact ⟨odd_nod, rfl⟩
  · exact ⟨odd_pg h, by simp [pgsB, itL, Pg.d, pgB]⟩
  · exact ⟨odd_at (Fit.int (by decide)) (by omega) (by omega) rfl, rfl⟩
theorem rt_turn {t : Tk} {p : Pg} (d : PyData) (hd : Odd d ∧ tksB d = false) (i : Nat) (ρ : Rho) (h : RfI t p i ρ) : W (gdName 9 (.d d) ρ) fun ρ1 => W (l__law_refused_right_8 ρ1) fun
      | .nx ρ2 => RfI t p (i + 1) ρ2
      | _ => False := by
  obtain ⟨a, b, s3, s4, s5, s6, s7, s8, s9, ha, rfl⟩ := h
  obtain ⟨o, k⟩ := hd
  have hh := all_heard_v (t := d) (p := .none) (d := d) (c := "InvalidTickets") (wd := "tickets") o.m (fun x hx => by cases hx) (by unfold bad; rw [k]; rfl) (by decide +kernel) o.r
  have hne := ne_six (wd := "tickets") (by decide +kernel) o.s
  have hm6 := mul6 (hD "tickets" d)
  have hr := o.repr
  obtain ⟨R, hR⟩ : ∃ R, R = List.replicate 6 (hD "tickets" d) := ⟨_, rfl⟩
  rw [← hR] at hh hne hm6
  unfold hD at hm6
  simp [RfS]
  refine W_last ?_
  simp [q__law_refused_right_7, hh, hr, hm6, hne]
  exact ⟨a, b, _, _, _, _, _, _, _, ha, rfl⟩
theorem rp_turn {t : Tk} {p : Pg} (ht : t.ok) (d : PyData) (hd : Odd d ∧ pgsB d = false) (i : Nat) (ρ : Rho) (h : RfI t p i ρ) : W (gdName 9 (.d d) ρ) fun ρ1 => W (l__law_refused_right_10 ρ1) fun
      | .nx ρ2 => RfI t p (i + 1) ρ2
      | _ => False := by
  obtain ⟨a, b, s3, s4, s5, s6, s7, s8, s9, ha, rfl⟩ := h
  obtain ⟨o, k⟩ := hd
  obtain ⟨tB, tV⟩ := tk_B ht
  obtain ⟨T8, hT8⟩ : ∃ T8, T8 = List.replicate 8 t.d := ⟨_, rfl⟩
  have m8 : gMul (.list [t.d]) (.int 8) = some (.l T8) := hT8 ▸ mul_one t.d 8 (by omega)
  have kT : tksB (.list T8) = true := by
    rw [hT8]
    simp [tksB, itL, tB]
  have hh := all_heard_v (t := .list T8) (p := d) (d := d) (c := "InvalidPassages") (wd := "passages") (fun x hx => by
    rw [hT8] at hx
    rw [rep_mem hx]
    exact tV.m) o.m (by unfold bad; rw [kT, k]; rfl) (by decide +kernel) o.r
  have hne := ne_six (wd := "passages") (by decide +kernel) o.s
  have hm6 := mul6 (hD "passages" d)
  have hr := o.repr
  obtain ⟨R, hR⟩ : ∃ R, R = List.replicate 6 (hD "passages" d) := ⟨_, rfl⟩
  rw [← hR] at hh hne hm6
  unfold hD at hm6
  simp [RfS]
  refine W_last ?_
  simp [q__law_refused_right_9, m8, hh, hr, hm6, hne]
  exact ⟨a, b, _, _, _, _, _, _, _, ha, rfl⟩
def RfP (x : Rs × Rho) : Prop := ∃ a b : Int, 0 ≤ a ∧ x = (.d (.bool true), [pot a b])
theorem refused_W (a b : Int) (ha : 0 ≤ a) : W (m__law_refused_right [pot a b]) RfP := by
  refine W_body (W_seq ?_)
  simp only [x_sPar, W_bind, W_map, List.cons_append, List.nil_append, List.replicate]
  refine W_fn (ds := []) ticket_W rfl ha rfl rfl fun d a b ⟨t, ht, e⟩ ha => ?_
  subst e
  simp
  refine W_fn (ds := []) passage_W rfl ha rfl rfl fun d a b ⟨p, hp, e⟩ ha => ?_
  subst e
  simp
  refine SeqK.nx (W_seq ?_)
  have hr := x_range1 (n := 4) (by omega) (by omega)
  simp [sFor, hr]
  have key := for_nx (gd := gdName 3) (g := l__law_refused_right_6) id (RfI t p) (xs := rngD 0 1 4) (ρ := RfS t p a b .u .u .u .u .u .u .u) ⟨a, b, _, _, _, _, _, _, _, ha, rfl⟩ fun i d hd ρ h => rf_turn ht hp i d ρ h
  rw [List.map_id] at key
  refine key.mono fun o ⟨ρ', h1, a, b, s3, s4, s5, s6, s7, s8, s9, ha, h2⟩ => ?_
  subst h1 h2
  refine SeqK.nx (W_seq ?_)
  have m9 : gMul (.list [t.d]) (.int 9) = some (.l (List.replicate 9 t.d)) := mul_one t.d 9 (by omega)
  have m11 : gMul (.list [p.d]) (.int 11) = some (.l (List.replicate 11 p.d)) := mul_one p.d 11 (by omega)
  have i1 : iSeq (eApp gLst (aCons (eK .none) (aCons (eApp gLst aNil) (aCons (eApp gTup aNil) (aCons (eBin gMul (eApp gLst (aCons (eVar 1) aNil)) (eK (.int 9))) (aCons eNod (aCons (eVar 1) aNil))))))) (RfS t p a b s3 s4 s5 s6 s7 s8 s9) = some (oddT t, RfS t p a b s3 s4 s5 s6 s7 s8 s9) := by
    unfold RfS oddT
    generalize List.replicate 9 t.d = T9 at *
    simp [m9]
  simp only [q__law_refused_right_12, sFor, i1, Option.bind_some]
  have key := for_nx (gd := gdName 9) (g := l__law_refused_right_8) id (RfI t p) (xs := oddT t) (ρ := RfS t p a b s3 s4 s5 s6 s7 s8 s9) ⟨a, b, _, _, _, _, _, _, _, ha, rfl⟩ fun i d hd ρ h => rt_turn d (oddT_ok ht d (List.mem_of_getElem? hd)) i ρ h
  rw [List.map_id] at key
  refine key.mono fun o ⟨ρ', h1, a, b, s3, s4, s5, s6, s7, s8, s9, ha, h2⟩ => ?_
  subst h1 h2
  refine SeqK.nx (W_seq ?_)
  have i2 : iSeq (eApp gLst (aCons (eK .none) (aCons (eBin gMul (eApp gLst (aCons (eVar 2) aNil)) (eK (.int 11))) (aCons eNod (aCons (eVar 2) (aCons (eK (.int 0)) aNil)))))) (RfS t p a b s3 s4 s5 s6 s7 s8 s9) = some (oddP p, RfS t p a b s3 s4 s5 s6 s7 s8 s9) := by
    unfold RfS oddP
    generalize List.replicate 11 p.d = T11 at *
    simp [m11]
  simp only [q__law_refused_right_11, sFor, i2, Option.bind_some]
  have key := for_nx (gd := gdName 9) (g := l__law_refused_right_10) id (RfI t p) (xs := oddP p) (ρ := RfS t p a b s3 s4 s5 s6 s7 s8 s9) ⟨a, b, _, _, _, _, _, _, _, ha, rfl⟩ fun i d hd ρ h => rp_turn ht d (oddP_ok hp d (List.mem_of_getElem? hd)) i ρ h
  rw [List.map_id] at key
  refine key.mono fun o ⟨ρ', h1, a, b, s3, s4, s5, s6, s7, s8, s9, ha, h2⟩ => ?_
  subst h1 h2
  refine SeqK.nx (W_last ?_)
  simp [RfS]
  exact BodyK.ret (by simp) ⟨a, b, ha, by simp [keepP]⟩
end K9
end PK92MP
section PK92ZP
set_option maxHeartbeats 4000000
open PySem PySem.Spec PyProof.Rows L2 DL
namespace K9
/-- a call that draws, whose arguments may be taken -/
theorem W_fnR {G : GM} {n i m : Nat} {ρ ρ1 : Rho} {a b a0 b0 : Int} {fa : AM} {ds : List PyData} {Pr : Rs → Prop} {Q : Rs × Rho → Prop} (H : W (G (pot a b :: ds.map .d)) fun x => ∃ r a' b', 0 ≤ a' ∧ Pr r ∧ x = (r, pot a' b' :: List.replicate m .u)) (h : ρ[i]? = some (pot a0 b0)) (hf : fa ρ = some (ds, ρ1)) (h1 : ρ1[i]? = some (pot a b)) (hn : ds.length + 1 = n) (k : ∀ r a' b', Pr r → 0 ≤ a' → Q (r, ρ1.set i (pot a' b'))) : W (eCallP n G i fa ρ) Q := by
  obtain ⟨x, e, r, a', b', g1, g2, rfl⟩ := H
  subst hn
  unfold eCallP
  unfold pot at e h h1
  simp only [h, h1, Option.bind_some, x_listOf_p, hf, if_true, e, W_some, x_with_p, List.getElem?_cons_zero, x_pOf, Option.map_some]
  exact k r a' b' g2 g1
theorem rep_bool (b : Bool) : gRepr [.bool b] = some (.d (.str (PyData.shown (.bool b)))) := (Fit.bool b).repr
theorem sl_data (r : Rs) : r.sl = .d r.data ∨ ∃ xs, r.sl = .l xs ∧ r.data = .list xs := by
  cases r with
  | d x => exact .inl rfl
  | l xs => exact .inr ⟨xs, rfl, rfl⟩
variable {ts : List Tk} {ps : List Pg} {F : List PyData}
theorem fit_zD {zs : List Int} (h : zOk zs) : Fit 1 168 (zD zs) := by
  refine (Fit.tup (n := 0) (w := 41) (k := 4) (fun x hx => ?_) (by simpa using h.2.1)).up (by omega) (by omega)
  obtain ⟨z, hz, rfl⟩ := List.mem_map.mp hx
  have := h.2.2.1 z hz
  exact Fit.int (by omega)
theorem fit_Tk {t : Tk} (h : t.ok) : Fit 2 845 t.d := by
  have h1 := h.p
  have h2 := h.m
  have h3 := h.n
  refine (Fit.tup (n := 1) (w := 168) (k := 5) (fun x hx => ?_) (by simp)).up (by omega) (by omega)
  simp only [List.mem_cons, List.not_mem_nil, or_false] at hx
  rcases hx with rfl | rfl | rfl | rfl | rfl
  · exact (fit_str _ (by decide +kernel)).up (by omega) (by omega)
  · exact (Fit.int (by omega)).up (by omega) (by omega)
  · exact (Fit.int (by omega)).up (by omega) (by omega)
  · exact fit_zD h.z
  · exact (Fit.int (by omega)).up (by omega) (by omega)
theorem fit_Pg {p : Pg} (h : p.ok) : Fit 2 845 p.d := by
  have h1 := h.b
  have h2 := h.l
  have h3 := h.e
  refine (Fit.tup (n := 1) (w := 168) (k := 3) (fun x hx => ?_) (by simp)).up (by omega) (by omega)
  simp only [List.mem_cons, List.not_mem_nil, or_false] at hx
  rcases hx with rfl | rfl | rfl
  · exact (Fit.int (by omega)).up (by omega) (by omega)
  · exact (Fit.int (by omega)).up (by omega) (by omega)
  · exact fit_zD h.z
section
variable {ts : List Tk} {ps : List Pg}
def TQ (ts : List Tk) (ps : List Pg) : PyData := .list [.list (ts.map Tk.d), .list (ps.map Pg.d)]
theorem fit_TQ (ok : Ok ts ps) : Fit 4 20000 (TQ ts ps) := by
  have h1 : Fit 3 9000 (.list (ts.map Tk.d)) := (Fit.list (n := 2) (w := 845) (k := 8) (fun x hx => by
    obtain ⟨t, ht, rfl⟩ := List.mem_map.mp hx
    exact fit_Tk (ok.tok t ht)) (by have := ok.t8; simpa using this)).up (by omega) (by omega)
  have h2 : Fit 3 9000 (.list (ps.map Pg.d)) := (Fit.list (n := 2) (w := 845) (k := 10) (fun x hx => by
    obtain ⟨t, ht, rfl⟩ := List.mem_map.mp hx
    exact fit_Pg (ok.pok t ht)) (by have := ok.p10; simpa using this)).up (by omega) (by omega)
  refine (Fit.list (n := 3) (w := 9000) (k := 2) (fun x hx => ?_) (by simp)).up (by omega) (by omega)
  simp only [List.mem_cons, List.not_mem_nil, or_false] at hx
  rcases hx with rfl | rfl <;> assumption
def shD (ts : List Tk) (ps : List Pg) : PyData := .str (TQ ts ps).shown
theorem rep_TQ (ok : Ok ts ps) : gRepr [.list [.list (ts.map Tk.d), .list (ps.map Pg.d)]] = some (.d (shD ts ps)) := (fit_TQ ok).repr
theorem eq_TQ (ok : Ok ts ps) : gEq (shD ts ps) (shD ts ps) = some (.d (.bool true)) := DL.eq_self (fit_TQ ok).so
theorem W_fnA {G : GM} {n i m : Nat} {ρ : Rho} {a0 b0 : Int} {fa : AM} {Q : Rs × Rho → Prop} (h : ρ[i]? = some (pot a0 b0)) (hf : W (fa ρ) fun x => ∃ a b : Int, x.1.length + 1 = n ∧ x.2[i]? = some (pot a b) ∧ W (G (pot a b :: x.1.map .d)) fun y => ∃ (r : Rs) (a' b' : Int), y = (r, pot a' b' :: List.replicate m .u) ∧ Q (r, x.2.set i (pot a' b'))) : W (eCallP n G i fa ρ) Q := by
  obtain ⟨⟨ds, ρ1⟩, e, a, b, hn, h1, ⟨y, e2, r, a', b', rfl, hq⟩⟩ := hf
  subst hn
  unfold eCallP
  unfold pot at e2 h h1
  simp only at h1 e2
  simp only [h, h1, Option.bind_some, x_listOf_p, e, if_true, e2, W_some, x_with_p, List.getElem?_cons_zero, x_pOf, Option.map_some]
  exact hq
end
end K9
end PK92ZP
section PK92MQ
set_option maxHeartbeats 1000000
open PySem PySem.Spec PyProof.Rows L2 DL
namespace K9
variable {ts : List Tk} {ps : List Pg}
/-! the law's last loop -/
def RS (TS PS SH PR DU LO : PyData) (a b : Int) (s2 s7 s8 s10 s11 s12 s13 s14 s15 s16 s17 s18 s19 s20 : Sl) : Rho := [pot a b, .d TS, s2, .d PS, .d SH, .d PR, .d DU, s7, s8, .d LO, s10, s11, s12, s13, s14, s15, s16, s17, s18, s19, s20]
def RtI (TS PS SH PR DU LO : PyData) (ρ : Rho) : Prop := ∃ (a b : Int) (s2 s7 s8 s10 s11 s12 s13 s14 s15 s16 s17 s18 s19 s20 : Sl), 0 ≤ a ∧ ρ = RS TS PS SH PR DU LO a b s2 s7 s8 s10 s11 s12 s13 s14 s15 s16 s17 s18 s19 s20
theorem mod2 (k : Nat) : gMod (natD k) (.int 2) = some (.d (.int ((k % 2 : Nat) : Int))) := by
  unfold natD
  simp [gMod, gI]
theorem rep_bo (b : Bool) : ∃ x : Str, gRepr [.bool b] = some (.d (.str x)) ∧ PyData.strOk x = true := ⟨_, (Fit.bool b).repr, (Fit.bool b).so⟩
theorem q3_W {TS PS SH PR DU LO Z : PyData} {n : Nat} (hz : gMul (.list [.int 0]) (.int (n : Int)) = some (.l (List.replicate n (.int 0)))) (hl : gLen [DU] = some (.d (.int (n : Int)))) (hZ : Z = .list (List.replicate n (.int 0)))
    (hb : ∀ d ∈ [DU, DU, LO, Z], ∀ a b : Int, 0 ≤ a → W (m__law_bent [pot a b, .d d, .d PR, .d PS]) BentP) (a b : Int) (ha : 0 ≤ a) {s2 s7 s8 s10 s11 s12 s13 s14 s15 s16 s17 s18 s19 s20 : Sl} {P : Out → Prop}
    (k : ∀ (r : Rs) (a b : Int), 0 ≤ a → VR r.data → P (.nx (RS TS PS SH PR DU LO a b s2 s7 s8 s10 r.sl s12 s13 s14 s15 s16 s17 s18 s19 s20))) : W (q__law_right_3 (RS TS PS SH PR DU LO a b s2 s7 s8 s10 s11 s12 s13 s14 s15 s16 s17 s18 s19 s20)) P := by
  simp only [q__law_right_3, x_sSet, W_map]
  refine W_fnA (m := 3) (a0 := a) (b0 := b) rfl ?_
  simp only [x_aCons, W_bind, W_map]
  refine W_pick rfl ?_
  simp [RS, hl, hz]
  refine ⟨_, .inl rfl, by simp, by simp, a, b, ha, rfl, fun d hd a b ha => ?_⟩
  simp
  refine ⟨a, b, ⟨rfl, rfl⟩, ?_⟩
  rw [← hZ] at hd
  refine (hb d hd a b ha).mono fun x ⟨r, a, b, h1, h2, h3⟩ => ⟨r, a, b, h3, ?_⟩
  exact k r a b h1 h2
theorem rt_turn2 (ok : Ok ts ps) {SH DU LO Z : PyData} {n : Nat} (hz : gMul (.list [.int 0]) (.int (n : Int)) = some (.l (List.replicate n (.int 0)))) (hl : gLen [DU] = some (.d (.int (n : Int)))) (hZ : Z = .list (List.replicate n (.int 0)))
    (hb : ∀ d ∈ [DU, DU, LO, Z], ∀ a b : Int, 0 ≤ a → W (m__law_bent [pot a b, .d d, .d (.list (prsD ts ps (2 ^ ps.length))), .d (.list (ps.map Pg.d))]) BentP) (k : Nat) (ρ : Rho) (h : RtI (.list (ts.map Tk.d)) (.list (ps.map Pg.d)) SH (.list (prsD ts ps (2 ^ ps.length))) DU LO ρ) :
    W (gdName 10 (.d (natD k)) ρ) fun ρ1 => W (l__law_right_4 ρ1) fun
      | .nx ρ2 => RtI (.list (ts.map Tk.d)) (.list (ps.map Pg.d)) SH (.list (prsD ts ps (2 ^ ps.length))) DU LO ρ2
      | _ => False := by
  obtain ⟨a, b, s2, s7, s8, s10, s11, s12, s13, s14, s15, s16, s17, s18, s19, s20, ha, rfl⟩ := h
  have ipt : ∀ v, ShortV v → m_is_price_table [.d (.list (ts.map Tk.d)), .d (.list (ps.map Pg.d)), .d v] = some (.d (.bool (tabB ts ps v)), [.u, .u, .u]) := fun v hv => is_price_table_v ok .l .l v hv
  have lit : ∀ v, ShortV v → m__law_is_table [.d (.list (prsD ts ps (2 ^ ps.length))), .d (.list (ps.map Pg.d)), .d v] = some (.d (.bool (tabB ts ps v)), [.u, .u, .u]) := fun v hv => law_is_table_v ok.p10 v hv
  generalize PyData.list (ts.map Tk.d) = TS at *
  generalize PyData.list (ps.map Pg.d) = PS at *
  generalize PyData.list (prsD ts ps (2 ^ ps.length)) = PR at *
  have hm := mod2 k
  refine ⟨_, rfl, ?_⟩
  change W (l__law_right_4 (RS TS PS SH PR DU LO a b s2 s7 s8 (.d (natD k)) s11 s12 s13 s14 s15 s16 s17 s18 s19 s20)) _
  refine W_seq ?_
  refine q3_W hz hl hZ hb a b ha fun r a b ha hv => ?_
  have ipt := ipt r.data hv.short
  have lit := lit r.data hv.short
  obtain ⟨sh, hr, so⟩ : ∃ x : Str, gRepr [r.data] = some (.d (.str x)) ∧ PyData.strOk x = true := ⟨_, hv.rep, hv.so⟩
  have hne := ne_self so
  obtain ⟨sb, hrb, sbo⟩ := rep_bo (tabB ts ps r.data)
  have hneb := ne_self sbo
  refine SeqK.nx (W_seq ?_)
  have two : ∀ s11 : Sl, (s11 = .d r.data ∨ ∃ xs, s11 = .l xs ∧ r.data = .list xs) → W (sPar 12 13 (eApp gRepr (aCons (eVar 11) aNil)) (eCall 3 m__law_is_table (aCons (eVar 5) (aCons (eVar 3) (aCons (eVar 11) aNil)))) (RS TS PS SH PR DU LO a b s2 s7 s8 (.d (natD k)) s11 s12 s13 s14 s15 s16 s17 s18 s19 s20)) (· = .nx (RS TS PS SH PR DU LO a b s2 s7 s8 (.d (natD k)) (.d r.data) (.d (.str sh)) (.d (.bool (tabB ts ps r.data))) s14 s15 s16 s17 s18 s19 s20)) := fun s11 h => by
    rcases h with rfl | ⟨xs, rfl, e⟩
    · simp [RS, hr, lit]
    · rw [e] at hr lit ⊢
      simp [RS, hr, lit]
  refine (two _ (sl_data r)).mono fun o e => ?_
  subst e
  generalize r.data = v at *
  refine SeqK.nx (W_seq ?_)
  have hm2 : k % 2 = 0 ∨ k % 2 = 1 := by omega
  have q2 : W (q__law_right_2 (RS TS PS SH PR DU LO a b s2 s7 s8 (.d (natD k)) (.d v) (.d (.str sh)) (.d (.bool (tabB ts ps v))) s14 s15 s16 s17 s18 s19 s20)) (· = .nx (RS TS PS SH PR DU LO a b s2 s7 s8 (.d (natD k)) (.d v) (.d (.str sh)) (.d (.bool (tabB ts ps v))) (.d (.bool (tabB ts ps v))) s15 s16 s17 s18 s19 s20)) := by
    rcases hm2 with h0 | h0
    · rw [h0] at hm
      simp [RS, q__law_right_2, hm, ipt]
    · rw [h0] at hm
      simp [RS, q__law_right_2, hm, ipt, perm]
  refine q2.mono fun o e => ?_
  subst e
  refine SeqK.nx (W_last ?_)
  simp [RS, q__law_right_1, hrb, hneb, hr, hne]
  exact ⟨a, b, _, _, _, _, _, _, _, _, _, _, _, _, _, _, ha, rfl⟩
end K9
end PK92MQ
section PK92MR
set_option maxHeartbeats 1000000
open PySem PySem.Spec PyProof.Rows L2 DL
namespace K9
variable {ts : List Tk} {ps : List Pg}
def RiR (x : Rs × Rho) : Prop := ∃ ρ', x = (.d (.bool true), ρ')
/-! the law's end, from the last statement backwards -/
noncomputable def e1 : SM := (sSeq (sFor (iApp range1D (aCons (eK (.int 3)) aNil)) (gdName 10) l__law_right_4) (sSeq (sRet (eBin gEq (eApp gRepr (aCons (eApp gLst (aCons (eVar 1) (aCons (eVar 3) aNil))) aNil)) (eVar 4))) sNil))
/-- what the loop needs of its data -/
structure Lp (ts : List Tk) (ps : List Pg) (DU LO : PyData) : Prop where
  hb : ∃ (n : Nat) (Z : PyData), gMul (.list [.int 0]) (.int (n : Int)) = some (.l (List.replicate n (.int 0))) ∧ gLen [DU] = some (.d (.int (n : Int))) ∧ Z = .list (List.replicate n (.int 0)) ∧ ∀ d ∈ [DU, DU, LO, Z], ∀ a b : Int, 0 ≤ a → W (m__law_bent [pot a b, .d d, .d (.list (prsD ts ps (2 ^ ps.length))), .d (.list (ps.map Pg.d))]) BentP
theorem end_W (ok : Ok ts ps) {DU LO : PyData} (hL : Lp ts ps DU LO) (ρ : Rho) (h : RtI (.list (ts.map Tk.d)) (.list (ps.map Pg.d)) (shD ts ps) (.list (prsD ts ps (2 ^ ps.length))) DU LO ρ) : W (e1 ρ) (BodyK 1 RiR) := by
  obtain ⟨n, Z, hz, hl, hZ, hb⟩ := hL.hb
  have hr : range1D [.int 3] = some ((List.range 3).map natD) := by
    rw [x_range1 (by omega) (by omega), ← rngD_nats]
    rfl
  have key := for_nx (gd := gdName 10) (g := l__law_right_4) natD (fun _ ρ => RtI (.list (ts.map Tk.d)) (.list (ps.map Pg.d)) (shD ts ps) (.list (prsD ts ps (2 ^ ps.length))) DU LO ρ) (xs := List.range 3) (ρ := ρ) h fun i k hk ρ h => rt_turn2 ok hz hl hZ hb k ρ h
  have r1 := rep_TQ ok
  have r2 := eq_TQ ok
  refine W_seq ?_
  have hi : iApp range1D (aCons (eK (.int 3)) aNil) ρ = some ((List.range 3).map natD, ρ) := by simp [hr]
  generalize (List.range 3).map natD = X at *
  simp only [sFor, hi, Option.bind_some]
  refine key.mono fun o ⟨ρ', h1, a, b, s2, s7, s8, s10, s11, s12, s13, s14, s15, s16, s17, s18, s19, s20, ha, h2⟩ => ?_
  subst h1 h2
  refine SeqK.nx (W_last ?_)
  generalize PyData.list (prsD ts ps (2 ^ ps.length)) = PR at *
  generalize ts.map Tk.d = TS at *
  generalize ps.map Pg.d = PS at *
  generalize shD ts ps = SH at *
  simp [RS, r1, r2]
  exact BodyK.ret (by simp) ⟨_, rfl⟩
noncomputable def e2 : SM := sSeq q__law_right_5 e1
theorem rep_ttt : gRepr [.list [.bool true, .bool true, .bool true]] = some (.d (.str "[True, True, True]")) := by
  have h : Fit 1 200 (.list [.bool true, .bool true, .bool true]) := (Fit.list (k := 3) (w := 0) (fun x hx => by
    have : x = .bool true := by simpa using hx
    rw [this]
    exact Fit.bool true) (by simp)).up (by omega) (by omega)
  rw [h.repr]
  congr 3
theorem q5_I {TS PS SH PR : PyData} {D L Zs : List PyData} {s2 s7 s8 s10 s11 s12 s13 s14 s15 s16 s17 s18 s19 : Sl} {a b : Int} (hl : gLen [.list D] = some (.d (.int (D.length : Int)))) (hz : gMul (.list [.int 0]) (.int (D.length : Int)) = some (.l Zs)) (hgt : gTuple [.list L] = some (.d (.tuple L))) :
    (iSeq (eApp gLst (aCons (eVar 6) (aCons (eApp gTuple (aCons (eVar 9) aNil)) (aCons (eBin gMul (eApp gLst (aCons (eK (.int 0)) aNil)) (eApp gLen (aCons (eVar 6) aNil))) aNil))))) [pot a b, .d TS, s2, .d PS, .d SH, .d PR, .d (.list D), s7, s8, .l L, s10, s11, s12, s13, s14, s15, s16, s17, s18, s19, .u] = some ([PyData.list D, .tuple L, .list Zs], [pot a b, .d TS, s2, .d PS, .d SH, .d PR, .d (.list D), s7, s8, .d (.list L), s10, s11, s12, s13, s14, s15, s16, s17, s18, s19, .u]) := by
  have g3 : gLst [PyData.list D, .tuple L, .list Zs] = some (.l [PyData.list D, .tuple L, .list Zs]) := x_gLst (by simp)
  have g1 : gLst [PyData.int 0] = some (.l [.int 0]) := x_gLst (by simp)
  simp only [x_iSeq, x_eBin, x_eApp, x_aCons, x_aNil, x_eVar, x_eK, List.getElem?_cons_succ, List.getElem?_cons_zero, x_obs, x_oms, x_data_d, x_data_l, List.set_cons_succ, List.set_cons_zero, x_itemsL, hgt, hz, hl, g1, g3]
theorem q5_C {TS PS SH PR : PyData} {D L Zs : List PyData} {s2 s7 s8 s10 s11 s12 s13 s14 s15 s16 s17 s18 s19 : Sl} {a b : Int} (hD : ∀ v ∈ [PyData.list D, .tuple L, .list Zs], m_is_price_table [.d TS, .d PS, .d v] = some (.d (.bool true), [.u, .u, .u])) (hl : gLen [.list D] = some (.d (.int (D.length : Int)))) (hz : gMul (.list [.int 0]) (.int (D.length : Int)) = some (.l Zs)) :
    eComp [20] (iSeq (eApp gLst (aCons (eVar 6) (aCons (eApp gTuple (aCons (eVar 9) aNil)) (aCons (eBin gMul (eApp gLst (aCons (eK (.int 0)) aNil)) (eApp gLen (aCons (eVar 6) aNil))) aNil))))) (gdName 20) tAll (eCall 3 m_is_price_table (aCons (eVar 1) (aCons (eVar 3) (aCons (eVar 20) aNil)))) [pot a b, .d TS, s2, .d PS, .d SH, .d PR, .d (.list D), s7, s8, .l L, s10, s11, s12, s13, s14, s15, s16, s17, s18, s19, .u] = some (.l [.bool true, .bool true, .bool true], [pot a b, .d TS, s2, .d PS, .d SH, .d PR, .d (.list D), s7, s8, .d (.list L), s10, s11, s12, s13, s14, s15, s16, s17, s18, s19, .u]) := by
  have hgt : gTuple [.list L] = some (.d (.tuple L)) := rfl
  refine W_eq.mp (W_compA id (fun _ => .bool true) [PyData.list D, .tuple L, .list Zs] (ρ' := [pot a b, .d TS, s2, .d PS, .d SH, .d PR, .d (.list D), s7, s8, .d (.list L), s10, s11, s12, s13, s14, s15, s16, s17, s18, s19, .u]) (q5_I hl hz hgt) (fun v hv => ?_) (by simp) rfl)
  have := hD v hv
  simp [this]
theorem q5_R {ρ ρ' : Rho} (hc : eComp [20] (iSeq (eApp gLst (aCons (eVar 6) (aCons (eApp gTuple (aCons (eVar 9) aNil)) (aCons (eBin gMul (eApp gLst (aCons (eK (.int 0)) aNil)) (eApp gLen (aCons (eVar 6) aNil))) aNil))))) (gdName 20) tAll (eCall 3 m_is_price_table (aCons (eVar 1) (aCons (eVar 3) (aCons (eVar 20) aNil)))) ρ = some (.l [.bool true, .bool true, .bool true], ρ')) : W (q__law_right_5 ρ) (· = .nx ρ') := by
  have hr := rep_ttt
  have hne := ne_self (x := "[True, True, True]") (by decide +kernel)
  obtain ⟨X, hX⟩ : ∃ X, X = PyData.str "[True, True, True]" := ⟨_, rfl⟩
  rw [← hX] at hr hne
  unfold q__law_right_5
  rw [← hX]
  simp only [x_sIf, x_tVal, x_eBin, x_eApp, x_aCons, x_aNil, x_eK, W_bind, W_map, hc, W_some, x_data_l, x_data_d, hr, hne, x_boolOf]
  simp
end K9
end PK92MR
section PK92MS
set_option maxHeartbeats 1000000
open PySem PySem.Spec PyProof.Rows L2 DL
namespace K9
variable {ts : List Tk} {ps : List Pg}
abbrev tabD (V : List (Option Int)) : List PyData := V.map optD
theorem mul_zero (n : Nat) (h : n ≤ 100) : gMul (.list [.int 0]) (.int (n : Int)) = some (.l (List.replicate n (.int 0))) := mul_one _ n h
theorem zers_D (n : Nat) : (zers n).map optD = List.replicate n (.int 0) := by
  unfold zers
  rw [List.map_replicate]
  rfl
theorem p64 {n : Nat} (h : n ≤ 6) : 2 ^ n ≤ 64 := Nat.pow_le_pow_right (by omega) h
/-- the lower table -/
structure Lw (ts ts' : List Tk) (ps : List Pg) (V : List (Option Int)) : Prop where
  ok : Ok ts' ps
  le : Less ts ts'
  t : Tbl ts' ps V
theorem lp_of (ok : Ok ts ps) (h6 : ps.length ≤ 6) {V V' : List (Option Int)} {ts' : List Tk} (T : Tbl ts ps V) (T' : Lw ts ts' ps V') : Lp ts ps (.list (V.map optD)) (.list (V'.map optD)) := by
  have h := p64 h6
  have hl := T.len
  refine ⟨V.length, _, mul_zero _ (by omega), by simp, rfl, fun d hd a b ha => ?_⟩
  simp only [List.mem_cons, List.not_mem_nil, or_false] at hd
  rcases hd with rfl | rfl | rfl | rfl
  · exact bent_W ok h6 T.len (T.wth ok) a b ha
  · exact bent_W ok h6 T.len (T.wth ok) a b ha
  · exact bent_W ok h6 T'.t.len (T'.t.wth T'.ok) a b ha
  · rw [← zers_D]
    exact bent_W ok h6 (by simp [zers, hl]) (fun x hx => by
      have e := (List.mem_replicate.mp hx).2
      cases e
      omega) a b ha
theorem short_o {V : List (Option Int)} (h : V.length ≤ 64) {v : PyData} (hv : SeqOf (V.map optD) v) : ShortV v := fun ds hd => by
  rw [hd.uni hv, List.length_map]
  omega
theorem from5 (ok : Ok ts ps) (h6 : ps.length ≤ 6) {V V' : List (Option Int)} {ts' : List Tk} (T : Tbl ts ps V) (T' : Lw ts ts' ps V') (a b : Int) (ha : 0 ≤ a) (s2 s7 s8 : Sl) : W (e2 [pot a b, .d (.list (ts.map Tk.d)), s2, .d (.list (ps.map Pg.d)), .d (shD ts ps), .d (.list (prsD ts ps (2 ^ ps.length))), .d (.list (V.map optD)), s7, s8, .l (V'.map optD), .u, .u, .u, .u, .u, .u, .u, .u, .u, .u, .u]) (BodyK 1 RiR) := by
  have h := p64 h6
  have hl := T.len
  have hl' := T'.t.len
  have hD : ∀ v ∈ [PyData.list (V.map optD), .tuple (V'.map optD), .list (List.replicate (V.map optD).length (.int 0))], m_is_price_table [.d (.list (ts.map Tk.d)), .d (.list (ps.map Pg.d)), .d v] = some (.d (.bool true), [.u, .u, .u]) := fun v hv => by
    simp only [List.mem_cons, List.not_mem_nil, or_false] at hv
    rcases hv with rfl | rfl | rfl
    · rw [is_price_table_v ok .l .l _ (short_o (V := V) (by omega) .l), tab_due ok T .l]
    · rw [is_price_table_v ok .l .l _ (short_o (V := V') (by omega) .t), tab_less T'.ok T'.le T'.t .t]
    · rw [List.length_map, hl, ← zers_D, is_price_table_v ok .l .l _ (short_o (V := zers (2 ^ ps.length)) (by simp [zers]; omega) .l), tab_zero ok .l]
  have q := q5_R (q5_C (TS := .list (ts.map Tk.d)) (PS := .list (ps.map Pg.d)) (SH := shD ts ps) (PR := .list (prsD ts ps (2 ^ ps.length))) (s2 := s2) (s7 := s7) (s8 := s8) (s10 := .u) (s11 := .u) (s12 := .u) (s13 := .u) (s14 := .u) (s15 := .u) (s16 := .u) (s17 := .u) (s18 := .u) (s19 := .u) (a := a) (b := b) hD (by simp) (mul_zero _ (by rw [List.length_map]; omega)))
  refine W_seq (q.mono fun o e => ?_)
  subst e
  exact SeqK.nx (end_W ok (lp_of ok h6 T T') _ ⟨a, b, _, _, _, _, _, _, _, _, _, _, _, _, _, _, ha, rfl⟩)
noncomputable def e3 : SM := sSeq (sSet 9 (eCall 2 m__law_least (aCons (eCall 2 m__law_prices (aCons (eVar 8) (aCons (eVar 3) aNil))) (aCons (eVar 3) aNil)))) e2
theorem from6 (ok : Ok ts ps) (h6 : ps.length ≤ 6) {V : List (Option Int)} {ts' : List Tk} (T : Tbl ts ps V) (ok' : Ok ts' ps) (le : Less ts ts') (a b : Int) (ha : 0 ≤ a) (s2 s7 : Sl) : W (e3 [pot a b, .d (.list (ts.map Tk.d)), s2, .d (.list (ps.map Pg.d)), .d (shD ts ps), .d (.list (prsD ts ps (2 ^ ps.length))), .d (.list (V.map optD)), s7, .l (ts'.map Tk.d), .u, .u, .u, .u, .u, .u, .u, .u, .u, .u, .u, .u]) (BodyK 1 RiR) := by
  obtain ⟨V', T', hv⟩ := law_least_v (ts := ts') ok'.p10
  have hp := law_prices_v ok'
  have nx := from5 ok h6 T ⟨ok', le, T'⟩
  generalize PyData.list (prsD ts ps (2 ^ ps.length)) = PR at *
  generalize prsD ts' ps (2 ^ ps.length) = PR' at *
  generalize ts.map Tk.d = TS at *
  generalize ts'.map Tk.d = LS at *
  generalize ps.map Pg.d = PS at *
  generalize shD ts ps = SH at *
  generalize V.map optD = DU at *
  generalize V'.map optD = LO at *
  refine W_seq ?_
  simp only [x_sSet, x_eCall, x_aCons, x_aNil, x_eVar, W_bind, W_map, List.getElem?_cons_succ, List.getElem?_cons_zero, W_some, x_obs, x_oms, x_data_d, x_data_l, List.length_cons, List.length_nil, List.map_cons, List.map_nil, if_true, hp, hv, List.set_cons_succ, List.set_cons_zero, x_sl_l, Nat.zero_add, Nat.reduceAdd]
  exact SeqK.nx (nx a b ha _ _ _)
end K9
end PK92MS
section PK92MT
set_option maxHeartbeats 1000000
open PySem PySem.Spec PyProof.Rows L2 DL
namespace K9
variable {ts : List Tk} {ps : List Pg}
/-! the cheaper tickets -/
theorem gmax1 (x : Int) : gMax [.int 1, .int x] = some (.d (.int (if x > 1 then x else 1))) := rfl
def S6 (TS PS SH PR DU : PyData) (a b : Int) (s2 s7 s8 s9 : Sl) (v w x y z : Sl) : Rho := [pot a b, .d TS, s2, .d PS, .d SH, .d PR, .d DU, s7, s8, s9, .u, .u, .u, .u, .u, v, w, x, y, z, .u]
theorem less_el {TS PS SH PR DU : PyData} {s2 s7 s8 s9 : Sl} (t : Tk) (ht : t.ok) (a b : Int) (ha : 0 ≤ a) {P : Rs × Rho → Prop} (k : ∀ (c a b : Int), 0 ≤ a → 1 ≤ c → c ≤ t.price → P (.d (Tk.d { t with price := c }), S6 TS PS SH PR DU a b s2 s7 s8 s9 (.d (.str "ticket")) (.d (.int t.price)) (.d (.int t.minutes)) (.d (zD t.zones)) (.d (.int t.persons)))) :
    W (eApp gTup (aCons (eVar 15) (aCons (eApp gMax (aCons (eK (.int 1)) (aCons (eBin gSub (eBin gSub (eVar 16) (eK (.int 1))) (eCallP 2 m__law_draw 0 (aCons (eK (.int 40)) aNil))) aNil))) (aCons (eVar 17) (aCons (eVar 18) (aCons (eVar 19) aNil))))) (S6 TS PS SH PR DU a b s2 s7 s8 s9 (.d (.str "ticket")) (.d (.int t.price)) (.d (.int t.minutes)) (.d (zD t.zones)) (.d (.int t.persons)))) P := by
  have hp := ht.p
  unfold S6 at *
  simp only [x_eApp, x_aCons, x_aNil, x_eVar, x_eK, x_eBin, W_bind, W_map, List.getElem?_cons_succ, List.getElem?_cons_zero, W_some, x_obs, x_oms, x_data_d, List.set_cons_succ, List.set_cons_zero, x_sl_d, x_subI]
  refine W_draw (n := 40) rfl ha rfl (by omega) (by omega) fun d a b h1 h2 ha => ?_
  have hg : ∀ c : Int, DL.gTup [.str "ticket", .int c, .int t.minutes, zD t.zones, .int t.persons] = some (.d (Tk.d { t with price := c })) := fun c => x_gTup (by simp)
  simp only [x_data_d, x_subI, gmax1, hg, W_some, W_bind, W_map, List.getElem?_cons_succ, List.getElem?_cons_zero, x_obs, x_oms, List.set_cons_succ, List.set_cons_zero, x_sl_d]
  exact k _ a b ha (by split <;> omega) (by split <;> omega)
def LeI (ts : List Tk) (TS PS SH PR DU : PyData) (s2 s7 s8 s9 : Sl) (k : Nat) (acc : List PyData) (ρ : Rho) : Prop := ∃ (us : List Tk) (a b : Int), 0 ≤ a ∧ acc = us.map Tk.d ∧ us.length = k ∧ (∀ u ∈ us, u.ok) ∧ (∀ t ∈ ts.take k, ∃ c, c ≤ t.price ∧ { t with price := c } ∈ us) ∧ ρ = S6 TS PS SH PR DU a b s2 s7 s8 s9 .u .u .u .u .u
theorem S6_wipe (TS PS SH PR DU : PyData) (a b : Int) (s2 s7 s8 s9 v w x y z : Sl) : wipeR (S6 TS PS SH PR DU a b s2 s7 s8 s9 v w x y z) [15, 16, 17, 18, 19] = S6 TS PS SH PR DU a b s2 s7 s8 s9 .u .u .u .u .u := rfl
theorem S6_guard (TS PS SH PR DU : PyData) (a b : Int) (s2 s7 s8 s9 v w x y z : Sl) (t : Tk) : gdTup 5 (gdCons (gdName 15) (gdCons (gdName 16) (gdCons (gdName 17) (gdCons (gdName 18) (gdCons (gdName 19) gdNil))))) (.d t.d) (S6 TS PS SH PR DU a b s2 s7 s8 s9 v w x y z) = some (S6 TS PS SH PR DU a b s2 s7 s8 s9 (.d (.str "ticket")) (.d (.int t.price)) (.d (.int t.minutes)) (.d (zD t.zones)) (.d (.int t.persons))) := rfl
theorem less_W (ht : ∀ t ∈ ts, t.ok) (h8 : ts.length ≤ 8) {PS SH PR DU : PyData} {s2 s7 s8 s9 : Sl} (a b : Int) (ha : 0 ≤ a) {P : Rs × Rho → Prop} (k : ∀ (us : List Tk) (a b : Int), 0 ≤ a → us.length = ts.length → (∀ u ∈ us, u.ok) → Less ts us → P (.l (us.map Tk.d), S6 (.list (ts.map Tk.d)) PS SH PR DU a b s2 s7 s8 s9 .u .u .u .u .u)) :
    W (eComp [15, 16, 17, 18, 19] (iSeq (eVar 1)) (gdTup 5 (gdCons (gdName 15) (gdCons (gdName 16) (gdCons (gdName 17) (gdCons (gdName 18) (gdCons (gdName 19) gdNil)))))) tAll (eApp gTup (aCons (eVar 15) (aCons (eApp gMax (aCons (eK (.int 1)) (aCons (eBin gSub (eBin gSub (eVar 16) (eK (.int 1))) (eCallP 2 m__law_draw 0 (aCons (eK (.int 40)) aNil))) aNil))) (aCons (eVar 17) (aCons (eVar 18) (aCons (eVar 19) aNil)))))) (S6 (.list (ts.map Tk.d)) PS SH PR DU a b s2 s7 s8 s9 .u .u .u .u .u)) P := by
  refine W_compI (LeI ts (.list (ts.map Tk.d)) PS SH PR DU s2 s7 s8 s9) (ts.map Tk.d) (ρ' := S6 (.list (ts.map Tk.d)) PS SH PR DU a b s2 s7 s8 s9 .u .u .u .u .u) rfl ⟨[], a, b, ha, rfl, rfl, by simp, by simp, rfl⟩ (fun i d hd acc ρ h => ?_) fun acc ρ h => ?_
  · obtain ⟨us, a, b, ha, h1, h2, h3, h4, rfl⟩ := h
    obtain ⟨t, hti, rfl⟩ := tk_ix ts hd
    have htm := List.mem_of_getElem? hti
    refine ⟨_, S6_guard _ _ _ _ _ _ _ _ _ _ _ _ _ _ _ _ t, _, rfl, ?_⟩
    simp only [if_true]
    refine less_el t (ht t htm) a b ha fun c a b ha c1 c2 => ⟨?_, ?_⟩
    · have := (List.getElem?_eq_some_iff.mp hti).1
      exact small_lt (by rw [h1, List.length_map]; omega)
    · have hu : Tk.ok { t with price := c } := by
        have o := ht t htm
        have := o.p
        exact ⟨⟨c1, by show c ≤ 9999; omega⟩, o.m, o.z, o.n⟩
      refine ⟨us ++ [{ t with price := c }], a, b, ha, by rw [h1, List.map_append]; rfl, by simp [h2], fun u hu' => ?_, fun t' ht' => ?_, S6_wipe _ _ _ _ _ _ _ _ _ _ _ _ _ _ _ _⟩
      · rcases List.mem_append.mp hu' with h | h
        · exact h3 u h
        · rw [List.mem_singleton.mp h]; exact hu
      · rw [take_at hti] at ht'
        rcases List.mem_append.mp ht' with h | h
        · obtain ⟨c', g1, g2⟩ := h4 t' h
          exact ⟨c', g1, List.mem_append_left _ g2⟩
        · rw [List.mem_singleton.mp h]
          exact ⟨c, c2, by simp⟩
  · obtain ⟨us, a, b, ha, h1, h2, h3, h4, rfl⟩ := h
    rw [List.length_map] at h2 h4
    rw [List.take_length] at h4
    subst h1
    exact k us a b ha h2 h3 h4
noncomputable def e4 : SM := sSeq q__law_right_6 e3
theorem from7 (ok : Ok ts ps) (h6 : ps.length ≤ 6) {V : List (Option Int)} (T : Tbl ts ps V) (a b : Int) (ha : 0 ≤ a) (s2 s7 : Sl) : W (e4 (S6 (.list (ts.map Tk.d)) (.list (ps.map Pg.d)) (shD ts ps) (.list (prsD ts ps (2 ^ ps.length))) (.list (V.map optD)) a b s2 s7 .u .u .u .u .u .u .u)) (BodyK 1 RiR) := by
  refine W_seq ?_
  simp only [q__law_right_6, x_sSet, W_map]
  refine less_W ok.tok ok.t8 a b ha fun us a b ha hl hu hle => ?_
  refine SeqK.nx ?_
  exact from6 (ts' := us) ok h6 T ⟨hu, ok.pok, by rw [hl]; exact ok.t1, by rw [hl]; exact ok.t8, ok.p10⟩ hle a b ha s2 s7
end K9
end PK92MT
section PK92MU
set_option maxHeartbeats 1000000
open PySem PySem.Spec PyProof.Rows L2 DL
namespace K9
variable {ts : List Tk} {ps : List Pg}
theorem fit_tab (ok : Ok ts ps) (h6 : ps.length ≤ 6) {V : List (Option Int)} (T : Tbl ts ps V) : Fit 1 3000 (.list (V.map optD)) := by
  have h := p64 h6
  have hl := T.len
  refine (Fit.list (n := 0) (w := 41) (k := 64) (fun x hx => ?_) (by rw [List.length_map]; omega)).up (by omega) (by omega)
  obtain ⟨o, ho, rfl⟩ := List.mem_map.mp hx
  exact fit_od fun x hx => by have := T.wth ok x (hx ▸ ho); omega
noncomputable def e5 : SM := sSeq q__law_right_7 e4
noncomputable def e6 : SM := sSeq (sExpr (eMeth opClear 7 aNil)) e5
noncomputable def e7 : SM := sSeq (sSet 7 (eCall 2 m_price_table (aCons (eVar 1) (aCons (eVar 3) aNil)))) e6
noncomputable def e8 : SM := sSeq q__law_right_8 e7
theorem q7_W {TS PS SH PR : PyData} {D : List PyData} {a b : Int} {s2 s7 s8 s9 : Sl} {x : Str} (hp : m_price_table [.d TS, .d PS] = some (.l D, [.u, .u])) (hr : gRepr [.list D] = some (.d (.str x))) (hx : PyData.strOk x = true) : W (q__law_right_7 (S6 TS PS SH PR (.list D) a b s2 s7 s8 s9 .u .u .u .u .u)) (· = .nx (S6 TS PS SH PR (.list D) a b s2 s7 s8 s9 .u .u .u .u .u)) := by
  have hne := ne_self hx
  unfold S6
  simp only [q__law_right_7, x_sIf, x_tVal, x_eBin, x_eApp, x_eCall, x_aCons, x_aNil, x_eVar, x_eK, W_bind, W_map, List.getElem?_cons_succ, List.getElem?_cons_zero, W_some, x_obs, x_oms, x_data_d, x_data_l, List.length_cons, List.length_nil, List.map_cons, List.map_nil, if_true, hp, hr, hne, List.set_cons_succ, List.set_cons_zero, x_sl_d, x_sl_l, Nat.zero_add, Nat.reduceAdd, x_boolOf]
  simp
theorem set7_W {TS PS SH PR DU : PyData} {D : List PyData} {a b : Int} {s2 s7 s8 s9 : Sl} (hp : m_price_table [.d TS, .d PS] = some (.l D, [.u, .u])) : W (sSet 7 (eCall 2 m_price_table (aCons (eVar 1) (aCons (eVar 3) aNil))) (S6 TS PS SH PR DU a b s2 s7 s8 s9 .u .u .u .u .u)) (· = .nx (S6 TS PS SH PR DU a b s2 (.l D) s8 s9 .u .u .u .u .u)) := by
  unfold S6
  simp only [x_sSet, x_eCall, x_aCons, x_aNil, x_eVar, W_bind, W_map, List.getElem?_cons_succ, List.getElem?_cons_zero, W_some, x_obs, x_oms, x_data_d, x_data_l, List.length_cons, List.length_nil, List.map_cons, List.map_nil, if_true, hp, List.set_cons_succ, List.set_cons_zero, x_sl_d, x_sl_l, Nat.zero_add, Nat.reduceAdd]
theorem clear_W {TS PS SH PR DU : PyData} {D : List PyData} {a b : Int} {s2 s8 s9 : Sl} : W (sExpr (eMeth opClear 7 aNil) (S6 TS PS SH PR DU a b s2 (.l D) s8 s9 .u .u .u .u .u)) (· = .nx (S6 TS PS SH PR DU a b s2 (.l []) s8 s9 .u .u .u .u .u)) := W.of rfl rfl
theorem q8_W {SH PR : PyData} {T P D : List PyData} {a b : Int} {s2 s7 s8 s9 : Sl} {x : Str} (hp : m_price_table [.d (.list T), .d (.list P)] = some (.l D, [.u, .u])) (hp2 : m_price_table [.d (.tuple T), .d (.tuple P)] = some (.l D, [.u, .u])) (hr : gRepr [.list [.list D, .list D]] = some (.d (.str x))) (hx : PyData.strOk x = true) : W (q__law_right_8 [pot a b, .d (.list T), s2, .d (.list P), .d SH, .d PR, .l D, s7, s8, s9, .u, .u, .u, .u, .u, .u, .u, .u, .u, .u, .u]) (· = .nx (S6 (.list T) (.list P) SH PR (.list D) a b s2 s7 s8 s9 .u .u .u .u .u)) := by
  have hne := ne_self hx
  have g2 : gLst [.list D, .list D] = some (.l [.list D, .list D]) := x_gLst (by simp)
  have t1 : gTuple [.list T] = some (.d (.tuple T)) := rfl
  have t2 : gTuple [.list P] = some (.d (.tuple P)) := rfl
  have hpm : ∀ x y : PyData, perm [1, 0] [x, y] = [y, x] := fun x y => rfl
  unfold S6
  simp only [q__law_right_8, x_sIf, x_tVal, x_eBin, x_eApp, x_eCall, x_eCallK, hpm, x_aCons, x_aNil, x_eVar, x_eK, W_bind, W_map, List.getElem?_cons_succ, List.getElem?_cons_zero, W_some, x_obs, x_oms, x_data_d, x_data_l, List.length_cons, List.length_nil, List.map_cons, List.map_nil, and_self, if_true, hp, hp2, t1, t2, g2, hr, hne, List.set_cons_succ, List.set_cons_zero, x_sl_d, x_sl_l, Nat.zero_add, Nat.reduceAdd, x_boolOf]
  simp
theorem from8 (ok : Ok ts ps) (h6 : ps.length ≤ 6) {V : List (Option Int)} (T : Tbl ts ps V) (a b : Int) (ha : 0 ≤ a) (s2 : Sl) : W (e8 [pot a b, .d (.list (ts.map Tk.d)), s2, .d (.list (ps.map Pg.d)), .d (shD ts ps), .d (.list (prsD ts ps (2 ^ ps.length))), .l (V.map optD), .u, .u, .u, .u, .u, .u, .u, .u, .u, .u, .u, .u, .u, .u]) (BodyK 1 RiR) := by
  have p1 := price_table_v ok .l .l T
  have p2 := price_table_v ok .t .t T
  have f := fit_tab ok h6 T
  have f2 : Fit 2 7000 (.list [.list (V.map optD), .list (V.map optD)]) := (Fit.list (k := 2) (fun x hx => by
    simp only [List.mem_cons, List.not_mem_nil, or_false] at hx
    rcases hx with rfl | rfl <;> exact f) (by simp)).up (by omega) (by omega)
  refine W_seq ((q8_W p1 p2 f2.repr f2.so).mono fun o e => ?_)
  subst e
  refine SeqK.nx (W_seq ((set7_W p1).mono fun o e => ?_))
  subst e
  refine SeqK.nx (W_seq (clear_W.mono fun o e => ?_))
  subst e
  refine SeqK.nx (W_seq ((q7_W p1 f.repr f.so).mono fun o e => ?_))
  subst e
  exact SeqK.nx (from7 ok h6 T a b ha s2 (.l []))
end K9
end PK92MU
section PK92MV
set_option maxHeartbeats 1000000
open PySem PySem.Spec PyProof.Rows L2 DL
namespace K9
variable {ts : List Tk} {ps : List Pg}
noncomputable def e9 : SM := sSeq (sSet 6 (eCall 2 m__law_least (aCons (eVar 5) (aCons (eVar 3) aNil)))) e8
noncomputable def e10 : SM := sSeq (sPar 4 5 (eApp gRepr (aCons (eApp gLst (aCons (eVar 1) (aCons (eVar 3) aNil))) aNil)) (eCall 2 m__law_prices (aCons (eVar 1) (aCons (eVar 3) aNil)))) e9
noncomputable def e11 : SM := sSeq (sSet 3 (eCallP 3 m__law_passages 0 (aCons (eVar 1) (aCons (eVar 2) aNil)))) e10
noncomputable def e12 : SM := sSeq q__law_right_9 e11
noncomputable def e13 : SM := sSeq (sSet 1 (eCallP 1 m__law_tickets 0 aNil)) e12
theorem right_e : m__law_right = ofBody 1 20 (sSeq q__law_right_10 e13) := rfl
theorem least_W {TS PS SH : PyData} {PR D : List PyData} {a b : Int} {s2 : Sl} (h : m__law_least [.d (.list PR), .d PS] = some (.l D, [.u, .u])) : W (sSet 6 (eCall 2 m__law_least (aCons (eVar 5) (aCons (eVar 3) aNil))) [pot a b, .d TS, s2, .d PS, .d SH, .l PR, .u, .u, .u, .u, .u, .u, .u, .u, .u, .u, .u, .u, .u, .u, .u]) (· = .nx [pot a b, .d TS, s2, .d PS, .d SH, .d (.list PR), .l D, .u, .u, .u, .u, .u, .u, .u, .u, .u, .u, .u, .u, .u, .u]) := by
  simp only [x_sSet, x_eCall, x_aCons, x_aNil, x_eVar, W_bind, W_map, List.getElem?_cons_succ, List.getElem?_cons_zero, W_some, x_obs, x_oms, x_data_d, x_data_l, List.length_cons, List.length_nil, List.map_cons, List.map_nil, if_true, h, List.set_cons_succ, List.set_cons_zero, x_sl_d, x_sl_l, Nat.zero_add, Nat.reduceAdd]
theorem par_W {TS PS PR : List PyData} {SH : PyData} {a b : Int} {s2 : Sl} (hr : gRepr [.list [.list TS, .list PS]] = some (.d SH)) (h : m__law_prices [.d (.list TS), .d (.list PS)] = some (.l PR, [.u, .u])) : W (sPar 4 5 (eApp gRepr (aCons (eApp gLst (aCons (eVar 1) (aCons (eVar 3) aNil))) aNil)) (eCall 2 m__law_prices (aCons (eVar 1) (aCons (eVar 3) aNil))) [pot a b, .d (.list TS), s2, .l PS, .u, .u, .u, .u, .u, .u, .u, .u, .u, .u, .u, .u, .u, .u, .u, .u, .u]) (· = .nx [pot a b, .d (.list TS), s2, .d (.list PS), .d SH, .l PR, .u, .u, .u, .u, .u, .u, .u, .u, .u, .u, .u, .u, .u, .u, .u]) := by
  have g2 : gLst [.list TS, .list PS] = some (.l [.list TS, .list PS]) := x_gLst (by simp)
  simp only [x_sPar, x_eApp, x_eCall, x_aCons, x_aNil, x_eVar, W_bind, W_map, List.getElem?_cons_succ, List.getElem?_cons_zero, W_some, x_obs, x_oms, x_data_d, x_data_l, List.length_cons, List.length_nil, List.map_cons, List.map_nil, if_true, h, hr, g2, List.set_cons_succ, List.set_cons_zero, x_sl_d, x_sl_l, Nat.zero_add, Nat.reduceAdd]
theorem from10 (ok : Ok ts ps) (h6 : ps.length ≤ 6) (a b : Int) (ha : 0 ≤ a) (s2 : Sl) : W (e10 [pot a b, .d (.list (ts.map Tk.d)), s2, .l (ps.map Pg.d), .u, .u, .u, .u, .u, .u, .u, .u, .u, .u, .u, .u, .u, .u, .u, .u, .u]) (BodyK 1 RiR) := by
  obtain ⟨V, T, hv⟩ := law_least_v (ts := ts) ok.p10
  refine W_seq ((par_W (rep_TQ ok) (law_prices_v ok)).mono fun o e => ?_)
  subst e
  refine SeqK.nx (W_seq ((least_W hv).mono fun o e => ?_))
  subst e
  exact SeqK.nx (from8 ok h6 T a b ha s2)
theorem many_of {d : PyData} {n : Nat} (hn : n = 3 ∨ n = 6) (hdm : d ∈ [PyData.int 0, .int 1, .int 2, .int 3, .int 4, .int 5, .int 4, .int (n : Int)]) : ∃ n : Nat, n ≤ 6 ∧ d = .int (n : Int) := by
  simp only [List.mem_cons, List.not_mem_nil, or_false] at hdm
  rcases hdm with rfl | rfl | rfl | rfl | rfl | rfl | rfl | rfl
  · exact ⟨0, by omega, rfl⟩
  · exact ⟨1, by omega, rfl⟩
  · exact ⟨2, by omega, rfl⟩
  · exact ⟨3, by omega, rfl⟩
  · exact ⟨4, by omega, rfl⟩
  · exact ⟨5, by omega, rfl⟩
  · exact ⟨4, by omega, rfl⟩
  · exact ⟨n, by omega, rfl⟩
theorem from11 (ht : ∀ t ∈ ts, t.ok) (ht1 : 1 ≤ ts.length) (ht8 : ts.length ≤ 8) (n : Nat) (hn : n ≤ 6) (a b : Int) (ha : 0 ≤ a) (s1 : Sl) (h1 : s1 = .l (ts.map Tk.d) ∨ s1 = .d (.list (ts.map Tk.d))) : W (e11 [pot a b, s1, .d (.int n), .u, .u, .u, .u, .u, .u, .u, .u, .u, .u, .u, .u, .u, .u, .u, .u, .u, .u]) (BodyK 1 RiR) := by
  refine W_seq ?_
  simp only [x_sSet, W_map]
  have hf : aCons (eVar 1) (aCons (eVar 2) aNil) [pot a b, s1, .d (.int n), .u, .u, .u, .u, .u, .u, .u, .u, .u, .u, .u, .u, .u, .u, .u, .u, .u, .u] = some ([.list (ts.map Tk.d), .int (n : Int)], [pot a b, .d (.list (ts.map Tk.d)), .d (.int n), .u, .u, .u, .u, .u, .u, .u, .u, .u, .u, .u, .u, .u, .u, .u, .u, .u, .u]) := by
    rcases h1 with rfl | rfl <;> rfl
  refine W_fnR (m := 2) (ds := [.list (ts.map Tk.d), .int (n : Int)]) (Pr := fun r => ∃ ps : List Pg, (∀ p ∈ ps, p.ok) ∧ ps.length = n ∧ r = .l (ps.map Pg.d)) ((passages_W ts ht ht1 ht8 n (by omega) a b ha).mono fun x ⟨ps, a, b, hps, hpl, ha, e⟩ => ⟨_, a, b, ha, ⟨ps, hps, hpl, rfl⟩, e⟩) rfl hf rfl rfl fun r a b ⟨ps, hps, hpl, hr⟩ ha => ?_
  subst hr
  exact SeqK.nx (from10 ⟨ht, hps, ht1, ht8, by omega⟩ (by omega) a b ha (.d (.int n)))
theorem from12 (ht : ∀ t ∈ ts, t.ok) (ht1 : 1 ≤ ts.length) (ht8 : ts.length ≤ 8) (a b : Int) (ha : 0 ≤ a) : W (e12 [pot a b, .l (ts.map Tk.d), .u, .u, .u, .u, .u, .u, .u, .u, .u, .u, .u, .u, .u, .u, .u, .u, .u, .u, .u]) (BodyK 1 RiR) := by
  have nx := from11 ht ht1 ht8
  have hl : gLen [.list (ts.map Tk.d)] = some (.d (.int (ts.length : Int))) := by simp
  refine W_seq ?_
  simp only [q__law_right_9, x_sSet, W_map]
  refine W_pick rfl ?_
  generalize ts.map Tk.d = TS at *
  have hc : ∃ n : Nat, (n = 3 ∨ n = 6) ∧ eIf (tVal (eBin gGt (eApp gLen (aCons (eVar 1) aNil)) (eK (.int 4)))) (eK (.int 3)) (eK (.int 6)) [pot a b, .l TS, .u, .u, .u, .u, .u, .u, .u, .u, .u, .u, .u, .u, .u, .u, .u, .u, .u, .u, .u] = some (.d (.int (n : Int)), [pot a b, .d (.list TS), .u, .u, .u, .u, .u, .u, .u, .u, .u, .u, .u, .u, .u, .u, .u, .u, .u, .u, .u]) := by
    by_cases h4 : (ts.length : Int) > 4
    · refine ⟨3, .inl rfl, ?_⟩
      simp [hl, h4]
    · refine ⟨6, .inr rfl, ?_⟩
      simp [hl, h4]
  obtain ⟨n, hn, hc⟩ := hc
  have g8 : gLst [PyData.int 0, .int 1, .int 2, .int 3, .int 4, .int 5, .int 4, .int (n : Int)] = some (.l [PyData.int 0, .int 1, .int 2, .int 3, .int 4, .int 5, .int 4, .int (n : Int)]) := x_gLst (by simp)
  simp only [x_aCons, x_eApp, x_eK, x_aNil, W_bind, W_map, W_some, x_obs, x_oms, x_data_d, x_data_l, hc, g8]
  refine ⟨_, .inl rfl, by simp, by simp, a, b, ha, rfl, fun d hdm a b ha => ?_⟩
  obtain ⟨m, m6, rfl⟩ := many_of hn hdm
  exact SeqK.nx (nx m m6 a b ha _ (.inr rfl))
theorem ri_out {ρ : Rho} (h : 1 ≤ ρ.length) : BodyK 1 RiR (.ret (.d (.bool true)) ρ) := BodyK.ret h ⟨_, rfl⟩
theorem from13 (a b : Int) (ha : 0 ≤ a) : W (e13 (pot a b :: List.replicate 20 .u)) (BodyK 1 RiR) := by
  refine W_seq ?_
  simp only [x_sSet, W_map]
  refine W_fnR (m := 0) (ρ1 := pot a b :: List.replicate 20 .u) (ds := []) (Pr := fun r => ∃ ts : List Tk, (∀ t ∈ ts, t.ok) ∧ 1 ≤ ts.length ∧ ts.length ≤ 8 ∧ r = .l (ts.map Tk.d)) ((tickets_W a b ha).mono fun x ⟨ts, a, b, h1, h2, h3, h4, h5⟩ => ⟨_, a, b, h4, ⟨ts, h1, h2, h3, rfl⟩, h5⟩) rfl rfl rfl rfl fun r a b ⟨ts, ht, ht1, ht8, hr⟩ ha => ?_
  subst hr
  exact SeqK.nx (from12 ht ht1 ht8 a b ha)
theorem right_W (a b : Int) (ha : 0 ≤ a) : W (m__law_right [pot a b]) RiR := by
  rw [right_e]
  refine W_body (W_seq ?_)
  simp only [q__law_right_10, x_sIf, x_tAnd2, x_tVal, x_eBin, W_bind, W_map]
  refine W_draw (n := 4) rfl ha (by simp) (by omega) (by omega) fun d a b h1 h2 ha => ?_
  by_cases hd : d = 0
  · simp [hd]
    refine W_fnR (m := 0) (ρ1 := pot a b :: List.replicate 20 .u) (ds := []) (Pr := fun r => r = .d (.bool true)) ((refused_W a b ha).mono fun x ⟨a, b, h1, h2⟩ => ⟨_, a, b, h1, rfl, h2⟩) rfl rfl rfl rfl fun r a b hr ha => ?_
    subst hr
    simp
    exact SeqK.nx (from13 a b ha)
  · simp [hd]
    exact SeqK.nx (from13 a b ha)
theorem right_ok : ∀ s1 s2 : Int, 0 ≤ s1 → ∃ ρ', m__law_right [.p [.int s1, .int s2]] = some (.d (.bool true), ρ') := fun s1 s2 h => by
  obtain ⟨x, e, ρ', rfl⟩ := right_W s1 s2 h
  exact ⟨ρ', e⟩
end K9
end PK92MV
section PK92C
set_option maxHeartbeats 1000000
open PySem PySem.Spec PyProof.Rows L2 DL
namespace K9
def spPot [TC : TabsC] (K : PySem.W.Frag) : Sp := fun vs H Q _ => ∃ (a : Addr) (ns : List Int), vs = [.ref a, .int 0] ∧ TabsH H ∧ SqL K H a (ns.map V.int) ∧ ns.length ≤ 63 ∧ ∀ (s1 s2 : Int) (p : Addr) (H' : Hp), 0 ≤ s1 → TabsH H' → H' p = some (.lst [.int s1, .int s2]) → Q (.ref p) H'
def spLaw (K : PySem.W.Frag) (Pa : Addr) : Sp := fun vs H Q _ => ∃ (a : Addr) (ns : List Int), vs = [.ref a] ∧ H Pa = some (.tbl #[]) ∧ SqL K H a (ns.map V.int) ∧ ns.length ≤ 63 ∧ ∀ H', Q (.bl true) H'
theorem sc__law_pot : FnScope ["script", "k", "cell"] ["script", "k"] (defScope s__law_pot) := ⟨rfl, rfl, rfl, by decide +kernel, rfl, by decide +kernel, by decide +kernel⟩
theorem sc_law : FnScope ["script"] ["script"] (defScope s_law) := ⟨rfl, rfl, rfl, by decide +kernel, rfl, by decide +kernel, by decide +kernel⟩
def b_pot2 : SM := sSeq (sRet (eApp DL.gLst (aCons (eApp gMax (aCons (eK (.int 0)) (aCons (eBin gSub (eVar 2) (eBin gPow (eK (.int 10)) (eK (.int 18)))) aNil))) (aCons (eBin gAdd (eBin gMod (eApp gInt1 (aCons (eBin gAdd (eBin gAdd (eBin gMul (eBin gMod (eApp gInt1 (aCons (eVar 2) aNil)) (eK (.int 2147483549))) (eK (.int 40237))) (eBin gMul (eK (.int 751)) (eVar 1))) (eK (.int 1523))) aNil)) (eK (.int 2147483563))) (eK (.int 1))) aNil)))) sNil
theorem pot2 (c : Int) : ∃ s1 s2 : Int, 0 ≤ s1 ∧ b_pot2 [.u, .d (.int 0), .d (.int c)] = some (.ret (.l [.int s1, .int s2]) [.u, .d (.int 0), .d (.int c)]) := by
  have hp : (10 : Int) ^ 18 = 1000000000000000000 := by decide
  refine ⟨if c - 10 ^ 18 > 0 then c - 10 ^ 18 else 0, (c % 2147483549 * 40237 + 751 * 0 + 1523) % 2147483563 + 1, ?_, ?_⟩
  · split <;> omega
  · have h1 : cMul (c % 2147483549) 40237 = true := by unfold cMul; simp
    have h2 : cMul 751 0 = true := by decide
    have h3 : cPow 10 18 = true := by decide
    have h4 : (2 : Nat) ≤ sizeLine := by rw [sizeLine_eq]; omega
    simp [b_pot2, sSeq, sRet, eApp, aCons, aNil, gMax, eK, eBin, DL.gSub, gI, eVar, gPow, h3, gAdd, gMod, gInt1, gMul, h1, h2, DL.gLst, h4, Rs.data]
section
variable [TC : TabsC] {CE C1 C2 ca Pa : Addr} {P : Program} {w : World} {K : PySem.W.Frag} {mg : Str → Option Value} {base : Heap}
theorem ok_pot (T : Top K mg) {f : Addr} {fd : FuncData} (F : Fun K "_law_pot" "_law_pot" s__law_pot f fd) : FnG P w K mg base CX0 1 f fd ["script", "k"] (spPot K) := by
  refine fnG_of (N := ["script", "k", "cell"]) F sc__law_pot (fun vs H Q E h => ?_) fun cdv A outer s H vs Q E hgu hr h => ?_
  · obtain ⟨a, ns, rfl, _⟩ := h
    rfl
  · obtain ⟨a, ns, rfl, hT, hS, hl, k⟩ := h
    refine ⟨_, pss_cons (ps_set (i := 2) sc__law_pot.nd rfl (Or.inl rfl) (pe_ifExp (pt_cmpR op_lt (pv 1) (pe_callB call_len_seq (by rfl) T.z_len bb_len (pa_cons (pv 0) pa_nil)) (nomark _))
      (pe_callB call_abs (by rfl) T.z_abs bb_abs (pa_cons (pe_ix ix_list (pv 0) (pv 1) (fun _ _ => rfl)) pa_nil)) (pe_op op_add (pe_op op_mul pe_int (pv 1)) pe_int)) rfl)
      (dss_cons (g := sRet _) (ds_ret (de_lst (da_cons (de_callB (dc_max2 rfl) (by rfl) T.z_max bb_max (da_cons de_int (da_cons (de_op dop_sub (de_var 2) (de_op dop_pow de_int de_int)) da_nil))) (da_cons (de_op dop_add (de_op dop_mod (de_callTy dc_int (by rfl) T.z_int bb_int (da_cons (de_op dop_add (de_op dop_add (de_op dop_mul (de_op dop_mod (de_callTy dc_int (by rfl) T.z_int bb_int (da_cons (de_var 2) da_nil)) de_int) de_int) (de_op dop_mul de_int (de_var 1))) de_int) da_nil)) de_int) de_int) da_nil)))) dss_nil), ?_⟩
    have rest : ∀ c : Int, tDS K b_pot2 { nx := fun _ H' => Q .non H', rt := Q } [some (.ref a), some (.int 0), some (.int c)] H := fun c => by
      obtain ⟨s1, s2, h1, h2⟩ := pot2 c
      refine ⟨fun _ => none, fun _ => none, fun _ => none, _, _, ⟨rfl, (fun _ _ e => nomatch e), (fun _ _ e => nomatch e), ⟨hT, (fun _ _ e => nomatch e), (fun _ _ e => nomatch e)⟩, (fun _ e => absurd rfl e), fun i t e => ?_, fun i j b c1 _ => ?_⟩, h2, fun v σ' B' H' S s' q => ?_⟩
      · match i, e with
        | 0, e => cases e; trivial
        | 1, e => cases e; exact ⟨_, rfl, .int _⟩
        | 2, e => cases e; exact ⟨_, rfl, .int _⟩
        | i + 3, e => cases e
      · obtain ⟨t, e, hc, _⟩ := c1
        match i, e with
        | 0, e => cases e; cases hc
        | 1, e => cases e; cases hc
        | 2, e => cases e; cases hc
        | i + 3, e => cases e
      · obtain ⟨p, ws, rfl, _, _, hp, hd, _⟩ := q
        obtain ⟨v1, v2, rfl, d1, d2⟩ := two_of hd
        cases d1
        cases d2
        exact k s1 s2 p H' h1 S.tb.t hp
    refine ⟨.int 0, rfl, .ref a, rfl, a, _, rfl, .inl hS, 0, _, rfl, rfl, _, rfl, ?_⟩
    cases ns with
    | nil =>
      refine iteF ?_
      exact ⟨_, rfl, 1523, 0, rfl, rfl, .inr ⟨by decide, by decide⟩, _, _, rfl, rfl, rest _⟩
    | cons n ns =>
      refine ite2 (fun _ => ?_) fun z => absurd ?_ z
      · exact ⟨_, rfl, _, rfl, a, _, 0, .int n, rfl, rfl, hS, by simp [atI, ixN], n, rfl, rest _⟩
      · rw [List.length_map]
        exact decide_eq_true (by simp)
theorem ok_law (T : Top K mg) (U : TopU P w K mg base CE C1 C2 ca Pa) (hM : ∀ s1 s2 : Int, 0 ≤ s1 → ∃ ρ', m__law_right [.p [.int s1, .int s2]] = some (.d (.bool true), ρ')) {f : Addr} {fd : FuncData} (F : Fun K "law" "law" s_law f fd) : FnG P w K mg base CX0 14 f fd ["script"] (spLaw K Pa) := by
  obtain ⟨fp, fdp, FP, mp, bp, _⟩ := T.d__law_pot.ex
  obtain ⟨fr, fdr, FR, mr, kr, br, _⟩ := (fn__law_right (P := P) (w := w) (base := base) T U).ex
  refine fnG_of (N := ["script"]) F sc_law (fun vs H Q E h => ?_) fun cdv A outer s H vs Q E hgu hr h => ?_
  · obtain ⟨a, ns, rfl, _⟩ := h
    rfl
  · obtain ⟨a, ns, rfl, hT, hS, hl, k⟩ := h
    refine ⟨_, pss_one (ps_ret (peG_call (E := E0) FR hgu (hr.mono (by decide)) (by rfl) mr kr br .nil pass0 (pa_cons (peG_call (E := E0) (ok_pot T FP) hgu (hr.mono (by decide)) (by rfl) mp FP.kp bp .nil pass0 (pa_cons (pv 0) (pa_cons pe_int pa_nil))) pa_nil))), ?_⟩
    have hT0 : TabsH H := fun p hp => by
      rw [U.tl] at hp
      rw [List.mem_singleton.mp hp]
      exact LamX.TabS.nil hT
    refine ⟨.ref a, rfl, a, ns, rfl, hT0, hS, hl, fun s1 s2 p H' h1 hT hp => ?_⟩
    obtain ⟨ρ', hm⟩ := hM s1 s2 h1
    refine ⟨fun _ => none, fun _ => none, fun j => if j = 0 then some p else none, _, _, _, rfl, ⟨rfl, (fun _ _ e => nomatch e), (fun _ _ e => nomatch e), ⟨hT, (fun _ _ e => nomatch e), (fun _ _ e => nomatch e)⟩, (fun _ e => absurd rfl e), fun i t e => ?_, fun i j b c1 c2 => ?_⟩, fun i b e => ?_, hm, fun v B' H'' S s' q => ?_⟩
    · match i, e with
      | 0, e => cases e; exact ⟨p, _, rfl, rfl, rfl, rfl, hp, .cons (.int _) (.cons (.int _) .nil)⟩
      | i + 1, e => cases e
    · obtain ⟨t, e, _, _⟩ := c1
      obtain ⟨t2, e2, _, _⟩ := c2
      match i, j, e, e2 with
      | 0, 0, _, _ => rfl
      | 0, j + 1, _, e2 => cases e2
      | i + 1, _, e, _ => cases e
    · match i, e with
      | 0, e => cases e; rfl
      | i + 1, e => cases e
    · cases q
      exact k H''
end
def s_ini : Stmt := iniOf (top 1)
section
variable {P : Program} {w : World} {K : PySem.W.Frag} {mg : Str → Option Value} {base : Heap}
theorem ok_ini {f : Addr} {oc dV kV doc pm cdv ct : Value} {od an : Option Addr} {osl : Array (Option Value)} (lk : K.lookup f = some ⟨oc, od, .func (PySem.W.fnOf "__init__" "CityError.__init__" (defArgs s_ini) (defBody s_ini) (defScope s_ini) dV kV doc pm an cdv ct), osl⟩) (hcd : PySem.W.codeIn K cdv "CityError.__init__" = true) :
    FnOk P w K mg base CX0 1 f (PySem.W.fnOf "__init__" "CityError.__init__" (defArgs s_ini) (defBody s_ini) (defScope s_ini) dV kV doc pm an cdv ct) ["self", "value"] (spIni K) := by
  refine fn_of (N := ["self", "value"]) lk hcd ⟨rfl, rfl, rfl, by decide +kernel, rfl, by decide +kernel, by decide +kernel⟩ (fun vs H Q E h => ?_) fun A outer s H vs Q E hr h => ?_
  · obtain ⟨a, y, C, rfl, _⟩ := h
    rfl
  · obtain ⟨a, y, C, rfl, o, v, hH, k⟩ := h
    exact ⟨_, pss_one (ps_ost (pv 0) (pv 1)), y, rfl, .ref a, rfl, a, C, rfl, o, v, .inl ⟨hH, fun dx n ne => k dx n ne⟩⟩
theorem ini_binds {T : Addr} {tc dv kV doc pm cdv ct : Value} {td an : Option Addr} {tn : Nat} {tsl : Array (Option Value)} (lT : K.lookup T = some ⟨tc, td, .seq #[dv] tn, tsl⟩) : L2.Binds K (PySem.W.fnOf "__init__" "CityError.__init__" (defArgs s_ini) (defBody s_ini) (defScope s_ini) (.ref T) kV doc pm an cdv ct) ["self", "value"] [] := fun s us X hl => by
  rw [List.append_nil] at hl ⊢
  match us, hl with
  | [a, b], _ =>
    obtain ⟨k, e1, e2⟩ : ∃ k, bindArgs (PySem.W.fnOf "__init__" "CityError.__init__" (defArgs s_ini) (defBody s_ini) (defScope s_ini) (.ref T) kV doc pm an cdv ct) ⟨[a, b], []⟩ = seqItems? (.ref T) >>= k ∧ k (some #[dv]) = pure ((["self", "value"] : List Str).zip [a, b]) := ⟨_, rfl, rfl⟩
    refine L2.BindsTo.of_looks fun M => ?_
    rw [e1]
    exact looks_items X lT rfl (.of_pure e2)
theorem xcls_mk {x : Str} {C fI T : Addr} {oc tc dv kV doc pm cdv ct : Value} {od td an : Option Addr} {tn : Nat} {osl tsl : Array (Option Value)} (lT : K.lookup T = some ⟨tc, td, .seq #[dv] tn, tsl⟩) (m : mg x = some (.ref C)) (o : Own K C fI) (tI : PySem.W.typeIn K (.ref fI) = some (.type "function"))
    (lk : K.lookup fI = some ⟨oc, od, .func (PySem.W.fnOf "__init__" "CityError.__init__" (defArgs s_ini) (defBody s_ini) (defScope s_ini) (.ref T) kV doc pm an cdv ct), osl⟩) (hcd : PySem.W.codeIn K cdv "CityError.__init__" = true) : XCls P w K mg base x C :=
  ⟨m, o.o, o.f, o.i, o.v, fI, _, o.iC, tI, ok_ini lk hcd, ini_binds lT⟩
end
section
variable {P : Program} {w : World} {K : PySem.W.Frag} {mg : Str → Option Value}
theorem end_mk {h : Heap} {fa CE C1 C2 ca Pa fI Ti : Addr} {oc tc dv kV doc pm cdv ct : Value} {od td an : Option Addr} {tn : Nat} {osl tsl : Array (Option Value)} (lT : K.lookup Ti = some ⟨tc, td, .seq #[dv] tn, tsl⟩) (T : Top K mg) (hM : ∀ s1 s2 : Int, 0 ≤ s1 → ∃ ρ', m__law_right [.p [.int s1, .int s2]] = some (.d (.bool true), ρ')) (hfa : mg "law" = some (.ref fa))
    (hc : PySem.W.CodeHd h ca Pa ∧ h.get? Pa = some (PySem.W.tabObj #[])) (nP : K.lookup Pa = none) (mE : mg "CityError" = some (.ref CE)) (m1 : mg "InvalidTickets" = some (.ref C1)) (m2 : mg "InvalidPassages" = some (.ref C2)) (o1 : Own K C1 fI) (o2 : Own K C2 fI) (tI : PySem.W.typeIn K (.ref fI) = some (.type "function"))
    (lI : K.lookup fI = some ⟨oc, od, .func (PySem.W.fnOf "__init__" "CityError.__init__" (defArgs s_ini) (defBody s_ini) (defScope s_ini) (.ref Ti) kV doc pm an cdv ct), osl⟩) (cI : PySem.W.codeIn K cdv "CityError.__init__" = true)
    (e11 : PySem.W.exmOne K (.ref C1) (.ref C1) = some true) (e21 : PySem.W.exmOne K (.ref C2) (.ref C1) = some false) (e22 : PySem.W.exmOne K (.ref C2) (.ref C2) = some true) (i1 : PySem.W.kitOne K (.ref C1) (.ref CE) = some true) (i2 : PySem.W.kitOne K (.ref C2) (.ref CE) = some true)
    (d : DefT K mg "_law_all_heard" s__law_all_heard ["tickets", "passages"] ca) :
    ∃ (ca Pa : Addr) (fd : FuncData), PySem.W.CodeHd h ca Pa ∧ h.get? Pa = some (PySem.W.tabObj #[]) ∧ K.lookup Pa = none ∧ (∀ (s : Shared) (u : Value), BindsTo s fd ⟨[u], []⟩ [("script", u)]) ∧ ∀ base : Heap, K.In base → base.Ns mainGlobals mg → LamX.TabB base mg ca Pa → FnG P w K mg base CX0 14 fa fd ["script"] (spLaw K Pa) := by
  obtain ⟨f, fd, F, hm, hb, hk⟩ := T.d_law.ex
  have e := hfa.symm.trans hm
  cases e
  refine ⟨ca, Pa, fd, hc.1, hc.2, nP, fun s u => ?_, fun base _ _ tb => ?_⟩
  · obtain ⟨oc, od, kV, doc, pm, an, cdv, ct, osl, e, lk, hcd⟩ := F.ex
    subst e
    exact .of_eq rfl
  · letI : TabsC := ⟨[(Pa, (("_law_all_heard" : Str) ++ ".<locals>.") ++ "<lambda>")]⟩
    exact ok_law T ⟨xcls_mk lT m1 o1 tI lI cI, xcls_mk lT m2 o2 tI lI cI, e11, e21, e22, i1, i2, mE, d, tb, rfl⟩ hM F
end
end K9
end PK92C
open PySem PySem.Spec PyProof.Rows L2 DL in
theorem K9.fin {P : Program} {w : World} {K : PySem.W.Frag} {h : Heap} {mg : PySem.Str → Option Value} {fa : Addr} (X : K.In h) (G : h.Ns mainGlobals mg) (hfa : mg "law" = some (.ref fa))
    (t_is_integer : DL.Def K mg "is_integer" K9.s_is_integer ["value"])
    (t_is_between : DL.Def K mg "is_between" K9.s_is_between ["value", "least", "most"])
    (t_are_rising : DL.Def K mg "are_rising" K9.s_are_rising ["numbers"])
    (t_are_zones : DL.Def K mg "are_zones" K9.s_are_zones ["value"])
    (t_is_ticket : DL.Def K mg "is_ticket" K9.s_is_ticket ["value"])
    (t_is_passage : DL.Def K mg "is_passage" K9.s_is_passage ["value"])
    (t_are_tickets : DL.Def K mg "are_tickets" K9.s_are_tickets ["value"])
    (t_are_passages : DL.Def K mg "are_passages" K9.s_are_passages ["value"])
    (t_want_tickets : DL.Def K mg "want_tickets" K9.s_want_tickets ["value"])
    (t_want_passages : DL.Def K mg "want_passages" K9.s_want_passages ["value"])
    (t_most_at_once : DL.Def K mg "most_at_once" K9.s_most_at_once ["passages"])
    (t_does_cover : DL.Def K mg "does_cover" K9.s_does_cover ["ticket", "passages"])
    (t_places_in : DL.Def K mg "places_in" K9.s_places_in ["number"])
    (t_first_in : DL.Def K mg "first_in" K9.s_first_in ["passages", "number"])
    (t_kinds_that_cover : DL.Def K mg "kinds_that_cover" K9.s_kinds_that_cover ["tickets", "passages", "number"])
    (t_parts_with : DL.Def K mg "parts_with" K9.s_parts_with ["number", "place"])
    (t_least_kinds : DL.Def K mg "least_kinds" K9.s_least_kinds ["tickets", "passages"])
    (t_least_rows : DL.Def K mg "least_rows" K9.s_least_rows ["tickets", "passages"])
    (t_least_prices : DL.Def K mg "least_prices" K9.s_least_prices ["tickets", "passages"])
    (t_cheapest_of : DL.Def K mg "cheapest_of" K9.s_cheapest_of ["tickets", "passages"])
    (t_cover_by : DL.Def K mg "cover_by" K9.s_cover_by ["rows"])
    (t_is_lot : DL.Def K mg "is_lot" K9.s_is_lot ["value", "many"])
    (t_is_bought : DL.Def K mg "is_bought" K9.s_is_bought ["tickets", "passages", "value"])
    (t_covers : DL.Def K mg "covers" K9.s_covers ["tickets", "passages", "value"])
    (t_is_worth : DL.Def K mg "is_worth" K9.s_is_worth ["value"])
    (t_is_bounded : DL.Def K mg "is_bounded" K9.s_is_bounded ["worth", "rest", "single"])
    (t_is_row_let : DL.Def K mg "is_row_let" K9.s_is_row_let ["singles", "passages", "table", "number"])
    (t_bounds : DL.Def K mg "bounds" K9.s_bounds ["tickets", "passages", "value"])
    (t_is_cover : DL.Def K mg "is_cover" K9.s_is_cover ["tickets", "passages", "value"])
    (t_cheapest : DL.Def K mg "cheapest" K9.s_cheapest ["tickets", "passages"])
    (t_cheapest_cover : DL.Def K mg "cheapest_cover" K9.s_cheapest_cover ["tickets", "passages"])
    (t_price_table : DL.Def K mg "price_table" K9.s_price_table ["tickets", "passages"])
    (t_is_price_table : DL.Def K mg "is_price_table" K9.s_is_price_table ["tickets", "passages", "value"])
    (t_charges : DL.Def K mg "charges" K9.s_charges ["tickets", "passages"])
    (t__law_pot : DL.Def K mg "_law_pot" K9.s__law_pot ["script", "k"])
    (t__law_draw : DL.Def K mg "_law_draw" K9.s__law_draw ["pot", "many"])
    (t__law_pick : DL.Def K mg "_law_pick" K9.s__law_pick ["pot", "some"])
    (t__law_zones : DL.Def K mg "_law_zones" K9.s__law_zones ["pot"])
    (t__law_ticket : DL.Def K mg "_law_ticket" K9.s__law_ticket ["pot"])
    (t__law_tickets : DL.Def K mg "_law_tickets" K9.s__law_tickets ["pot"])
    (t__law_passage : DL.Def K mg "_law_passage" K9.s__law_passage ["pot"])
    (t__law_passages : DL.Def K mg "_law_passages" K9.s__law_passages ["pot", "tickets", "many"])
    (t__law_covers : DL.Def K mg "_law_covers" K9.s__law_covers ["ticket", "some"])
    (t__law_lot : DL.Def K mg "_law_lot" K9.s__law_lot ["number", "many"])
    (t__law_prices : DL.Def K mg "_law_prices" K9.s__law_prices ["tickets", "passages"])
    (t__law_first : DL.Def K mg "_law_first" K9.s__law_first ["passages", "lot"])
    (t__law_most : DL.Def K mg "_law_most" K9.s__law_most ["prices", "passages", "table", "number"])
    (t__law_least : DL.Def K mg "_law_least" K9.s__law_least ["prices", "passages"])
    (t__law_is_table : DL.Def K mg "_law_is_table" K9.s__law_is_table ["prices", "passages", "value"])
    (t__law_bent : DL.Def K mg "_law_bent" K9.s__law_bent ["pot", "table", "prices", "passages"])
    (t__law_is_in : DL.Def K mg "_law_is_in" K9.s__law_is_in ["value", "least", "most"])
    (t__law_are_zones : DL.Def K mg "_law_are_zones" K9.s__law_are_zones ["value"])
    (t__law_is_ticket : DL.Def K mg "_law_is_ticket" K9.s__law_is_ticket ["value"])
    (t__law_is_passage : DL.Def K mg "_law_is_passage" K9.s__law_is_passage ["value"])
    (t__law_bent_parts : DL.Def K mg "_law_bent_parts" K9.s__law_bent_parts ["pot", "value"])
    (t__law_heard : DL.Def K mg "_law_heard" K9.s__law_heard ["call"])
    (t__law_all_heard : DL.Def K mg "_law_all_heard" K9.s__law_all_heard ["tickets", "passages"])
    (t__law_refused_right : DL.Def K mg "_law_refused_right" K9.s__law_refused_right ["pot"])
    (t__law_right : DL.Def K mg "_law_right" K9.s__law_right ["pot"])
    (t_law : DL.Def K mg "law" K9.s_law ["script"])
    (z_abs : PySem.W.nsIn K mainGlobals "abs" = some none)
    (z_all : PySem.W.nsIn K mainGlobals "all" = some none)
    (z_any : PySem.W.nsIn K mainGlobals "any" = some none)
    (z_bool : PySem.W.nsIn K mainGlobals "bool" = some none)
    (z_divmod : PySem.W.nsIn K mainGlobals "divmod" = some none)
    (z_enumerate : PySem.W.nsIn K mainGlobals "enumerate" = some none)
    (z_int : PySem.W.nsIn K mainGlobals "int" = some none)
    (z_isinstance : PySem.W.nsIn K mainGlobals "isinstance" = some none)
    (z_len : PySem.W.nsIn K mainGlobals "len" = some none)
    (z_list : PySem.W.nsIn K mainGlobals "list" = some none)
    (z_max : PySem.W.nsIn K mainGlobals "max" = some none)
    (z_min : PySem.W.nsIn K mainGlobals "min" = some none)
    (z_range : PySem.W.nsIn K mainGlobals "range" = some none)
    (z_repr : PySem.W.nsIn K mainGlobals "repr" = some none)
    (z_set : PySem.W.nsIn K mainGlobals "set" = some none)
    (z_sorted : PySem.W.nsIn K mainGlobals "sorted" = some none)
    (z_str : PySem.W.nsIn K mainGlobals "str" = some none)
    (z_tuple : PySem.W.nsIn K mainGlobals "tuple" = some none)
    (z_zip : PySem.W.nsIn K mainGlobals "zip" = some none)
    {v_LATEST : Value} (g_LATEST : PySem.W.nsIn K mainGlobals "LATEST" = some (some v_LATEST)) (e_LATEST : ∃ t, v_LATEST = .int 9999 t)
    {v_MOST_KINDS : Value} (g_MOST_KINDS : PySem.W.nsIn K mainGlobals "MOST_KINDS" = some (some v_MOST_KINDS)) (e_MOST_KINDS : ∃ t, v_MOST_KINDS = .int 8 t)
    {v_MOST_MINUTES : Value} (g_MOST_MINUTES : PySem.W.nsIn K mainGlobals "MOST_MINUTES" = some (some v_MOST_MINUTES)) (e_MOST_MINUTES : ∃ t, v_MOST_MINUTES = .int 11000 t)
    {v_MOST_PASSAGES : Value} (g_MOST_PASSAGES : PySem.W.nsIn K mainGlobals "MOST_PASSAGES" = some (some v_MOST_PASSAGES)) (e_MOST_PASSAGES : ∃ t, v_MOST_PASSAGES = .int 10 t)
    {v_MOST_PERSONS : Value} (g_MOST_PERSONS : PySem.W.nsIn K mainGlobals "MOST_PERSONS" = some (some v_MOST_PERSONS)) (e_MOST_PERSONS : ∃ t, v_MOST_PERSONS = .int 5 t)
    {v_MOST_PRICE : Value} (g_MOST_PRICE : PySem.W.nsIn K mainGlobals "MOST_PRICE" = some (some v_MOST_PRICE)) (e_MOST_PRICE : ∃ t, v_MOST_PRICE = .int 9999 t)
    {v_MOST_SUM : Value} (g_MOST_SUM : PySem.W.nsIn K mainGlobals "MOST_SUM" = some (some v_MOST_SUM)) (e_MOST_SUM : ∃ t, v_MOST_SUM = .int 99999 t)
    {v_MOST_ZONES : Value} (g_MOST_ZONES : PySem.W.nsIn K mainGlobals "MOST_ZONES" = some (some v_MOST_ZONES)) (e_MOST_ZONES : ∃ t, v_MOST_ZONES = .int 4 t)
    {CE C1 C2 ca Pa fI Ti : Addr} {oc tc dv kV doc pm cdv ct : Value} {od td an : Option Addr} {tn : Nat} {osl tsl : Array (Option Value)}
    (dm : DL.DefT K mg "_law_all_heard" K9.s__law_all_heard ["tickets", "passages"] ca) (hc : PySem.W.CodeHd h ca Pa ∧ h.get? Pa = some (PySem.W.tabObj #[])) (nP : K.lookup Pa = none)
    (mE : PySem.W.nsIn K mainGlobals "CityError" = some (some (.ref CE))) (m1 : PySem.W.nsIn K mainGlobals "InvalidTickets" = some (some (.ref C1))) (m2 : PySem.W.nsIn K mainGlobals "InvalidPassages" = some (some (.ref C2)))
    (o1 : DL.Own K C1 fI) (o2 : DL.Own K C2 fI) (tI : PySem.W.typeIn K (.ref fI) = some (.type "function"))
    (lI : K.lookup fI = some ⟨oc, od, .func (PySem.W.fnOf "__init__" "CityError.__init__" (defArgs K9.s_ini) (defBody K9.s_ini) (defScope K9.s_ini) (.ref Ti) kV doc pm an cdv ct), osl⟩) (cI : PySem.W.codeIn K cdv "CityError.__init__" = true) (lT : K.lookup Ti = some ⟨tc, td, .seq #[dv] tn, tsl⟩)
    (e11 : PySem.W.exmOne K (.ref C1) (.ref C1) = some true) (e21 : PySem.W.exmOne K (.ref C2) (.ref C1) = some false) (e22 : PySem.W.exmOne K (.ref C2) (.ref C2) = some true) (i1 : PySem.W.kitOne K (.ref C1) (.ref CE) = some true) (i2 : PySem.W.kitOne K (.ref C2) (.ref CE) = some true)
    : ∃ (ca Pa : Addr) (fd : FuncData), PySem.W.CodeHd h ca Pa ∧ h.get? Pa = some (PySem.W.tabObj #[]) ∧ K.lookup Pa = none ∧ (∀ (s : Shared) (u : Value), BindsTo s fd ⟨[u], []⟩ [("script", u)]) ∧
      ∀ base : Heap, K.In base → base.Ns mainGlobals mg → LamX.TabB base mg ca Pa → DL.FnG P w K mg base CX0 14 fa fd ["script"] (K9.spLaw K Pa) :=
  K9.end_mk lT ⟨t_is_integer, t_is_between, t_are_rising, t_are_zones, t_is_ticket, t_is_passage, t_are_tickets, t_are_passages, t_want_tickets, t_want_passages, t_most_at_once, t_does_cover, t_places_in, t_first_in, t_kinds_that_cover, t_parts_with, t_least_kinds, t_least_rows, t_least_prices, t_cheapest_of, t_cover_by, t_is_lot, t_is_bought, t_covers, t_is_worth, t_is_bounded, t_is_row_let, t_bounds, t_is_cover, t_cheapest, t_cheapest_cover, t_price_table, t_is_price_table, t_charges, t__law_pot, t__law_draw, t__law_pick, t__law_zones, t__law_ticket, t__law_tickets, t__law_passage, t__law_passages, t__law_covers, t__law_lot, t__law_prices, t__law_first, t__law_most, t__law_least, t__law_is_table, t__law_bent, t__law_is_in, t__law_are_zones, t__law_is_ticket, t__law_is_passage, t__law_bent_parts, t__law_heard, t__law_all_heard, t__law_refused_right, t__law_right, t_law, PySem.W.mg_none_of X G z_abs, PySem.W.mg_none_of X G z_all, PySem.W.mg_none_of X G z_any, PySem.W.mg_none_of X G z_bool, PySem.W.mg_none_of X G z_divmod, PySem.W.mg_none_of X G z_enumerate, PySem.W.mg_none_of X G z_int, PySem.W.mg_none_of X G z_isinstance, PySem.W.mg_none_of X G z_len, PySem.W.mg_none_of X G z_list, PySem.W.mg_none_of X G z_max, PySem.W.mg_none_of X G z_min, PySem.W.mg_none_of X G z_range, PySem.W.mg_none_of X G z_repr, PySem.W.mg_none_of X G z_set, PySem.W.mg_none_of X G z_sorted, PySem.W.mg_none_of X G z_str, PySem.W.mg_none_of X G z_tuple, PySem.W.mg_none_of X G z_zip, (e_LATEST.elim fun t e => ⟨t, e ▸ PySem.W.mg_of X G g_LATEST⟩), (e_MOST_KINDS.elim fun t e => ⟨t, e ▸ PySem.W.mg_of X G g_MOST_KINDS⟩), (e_MOST_MINUTES.elim fun t e => ⟨t, e ▸ PySem.W.mg_of X G g_MOST_MINUTES⟩), (e_MOST_PASSAGES.elim fun t e => ⟨t, e ▸ PySem.W.mg_of X G g_MOST_PASSAGES⟩), (e_MOST_PERSONS.elim fun t e => ⟨t, e ▸ PySem.W.mg_of X G g_MOST_PERSONS⟩), (e_MOST_PRICE.elim fun t e => ⟨t, e ▸ PySem.W.mg_of X G g_MOST_PRICE⟩), (e_MOST_SUM.elim fun t e => ⟨t, e ▸ PySem.W.mg_of X G g_MOST_SUM⟩), (e_MOST_ZONES.elim fun t e => ⟨t, e ▸ PySem.W.mg_of X G g_MOST_ZONES⟩)⟩ K9.right_ok hfa hc nP (PySem.W.mg_of X G mE) (PySem.W.mg_of X G m1) (PySem.W.mg_of X G m2) o1 o2 tI lI cI e11 e21 e22 i1 i2 dm
open PySem PySem.W PyProof.Rows
set_option maxRecDepth 100000 in
set_option maxHeartbeats 0 in
theorem PySem.Challenge.cw_citylines_k92_price_tables_bent_holds : PySem.Challenge.rw_citylines_k92_price_tables_bent.Holds := by
  w_on; o_law; k_head; (case hw => w_witness2)
  k_fill
  refine DL.headT (l := PySem.Challenge.rw_citylines_k92_price_tables_bent) (n := 63) (k := 14) (x := "script") (sp := K9.spLaw) rfl (by decide) rfl ⟨rfl, by decide, by decide⟩ (fun w h Y => PySem.W.km_in_of Y) ?F (fun K Pa H a ns hl hP hS => ⟨a, ns, rfl, hP, hS, hl, fun _ => rfl⟩)
  case F =>
    intro w mg mb fa h mean GT KX G hmg
    refine' K9.fin KX G hmg ?t_is_integer ?t_is_between ?t_are_rising ?t_are_zones ?t_is_ticket ?t_is_passage ?t_are_tickets ?t_are_passages ?t_want_tickets ?t_want_passages ?t_most_at_once ?t_does_cover ?t_places_in ?t_first_in ?t_kinds_that_cover ?t_parts_with ?t_least_kinds ?t_least_rows ?t_least_prices ?t_cheapest_of ?t_cover_by ?t_is_lot ?t_is_bought ?t_covers ?t_is_worth ?t_is_bounded ?t_is_row_let ?t_bounds ?t_is_cover ?t_cheapest ?t_cheapest_cover ?t_price_table ?t_is_price_table ?t_charges ?t__law_pot ?t__law_draw ?t__law_pick ?t__law_zones ?t__law_ticket ?t__law_tickets ?t__law_passage ?t__law_passages ?t__law_covers ?t__law_lot ?t__law_prices ?t__law_first ?t__law_most ?t__law_least ?t__law_is_table ?t__law_bent ?t__law_is_in ?t__law_are_zones ?t__law_is_ticket ?t__law_is_passage ?t__law_bent_parts ?t__law_heard ?t__law_all_heard ?t__law_refused_right ?t__law_right ?t_law ?z_abs ?z_all ?z_any ?z_bool ?z_divmod ?z_enumerate ?z_int ?z_isinstance ?z_len ?z_list ?z_max ?z_min ?z_range ?z_repr ?z_set ?z_sorted ?z_str ?z_tuple ?z_zip ?g_LATEST ?e_LATEST ?g_MOST_KINDS ?e_MOST_KINDS ?g_MOST_MINUTES ?e_MOST_MINUTES ?g_MOST_PASSAGES ?e_MOST_PASSAGES ?g_MOST_PERSONS ?e_MOST_PERSONS ?g_MOST_PRICE ?e_MOST_PRICE ?g_MOST_SUM ?e_MOST_SUM ?g_MOST_ZONES ?e_MOST_ZONES ?dm ?zzc ?nP ?mE ?m1 ?m2 ?o1 ?o2 ?tI ?lI ?cI ?lT ?e11 ?e21 ?e22 ?i1 ?i2
    case t_is_integer =>
      refine' DL.def_mk KX G ?a ?l ?c ?k (fun _ _ _ _ _ _ us hl => match us, hl with | [_], _ => rfl)
      (case a => k_is); (case l => k_is); (case c => k_is); (case k => k_is)
    case t_is_between =>
      refine' DL.def_mk KX G ?a ?l ?c ?k (fun _ _ _ _ _ _ us hl => match us, hl with | [_, _, _], _ => rfl)
      (case a => k_is); (case l => k_is); (case c => k_is); (case k => k_is)
    case t_are_rising =>
      refine' DL.def_mk KX G ?a ?l ?c ?k (fun _ _ _ _ _ _ us hl => match us, hl with | [_], _ => rfl)
      (case a => k_is); (case l => k_is); (case c => k_is); (case k => k_is)
    case t_are_zones =>
      refine' DL.def_mk KX G ?a ?l ?c ?k (fun _ _ _ _ _ _ us hl => match us, hl with | [_], _ => rfl)
      (case a => k_is); (case l => k_is); (case c => k_is); (case k => k_is)
    case t_is_ticket =>
      refine' DL.def_mk KX G ?a ?l ?c ?k (fun _ _ _ _ _ _ us hl => match us, hl with | [_], _ => rfl)
      (case a => k_is); (case l => k_is); (case c => k_is); (case k => k_is)
    case t_is_passage =>
      refine' DL.def_mk KX G ?a ?l ?c ?k (fun _ _ _ _ _ _ us hl => match us, hl with | [_], _ => rfl)
      (case a => k_is); (case l => k_is); (case c => k_is); (case k => k_is)
    case t_are_tickets =>
      refine' DL.def_mk KX G ?a ?l ?c ?k (fun _ _ _ _ _ _ us hl => match us, hl with | [_], _ => rfl)
      (case a => k_is); (case l => k_is); (case c => k_is); (case k => k_is)
    case t_are_passages =>
      refine' DL.def_mk KX G ?a ?l ?c ?k (fun _ _ _ _ _ _ us hl => match us, hl with | [_], _ => rfl)
      (case a => k_is); (case l => k_is); (case c => k_is); (case k => k_is)
    case t_want_tickets =>
      refine' DL.def_mk KX G ?a ?l ?c ?k (fun _ _ _ _ _ _ us hl => match us, hl with | [_], _ => rfl)
      (case a => k_is); (case l => k_is); (case c => k_is); (case k => k_is)
    case t_want_passages =>
      refine' DL.def_mk KX G ?a ?l ?c ?k (fun _ _ _ _ _ _ us hl => match us, hl with | [_], _ => rfl)
      (case a => k_is); (case l => k_is); (case c => k_is); (case k => k_is)
    case t_most_at_once =>
      refine' DL.def_mk KX G ?a ?l ?c ?k (fun _ _ _ _ _ _ us hl => match us, hl with | [_], _ => rfl)
      (case a => k_is); (case l => k_is); (case c => k_is); (case k => k_is)
    case t_does_cover =>
      refine' DL.def_mk KX G ?a ?l ?c ?k (fun _ _ _ _ _ _ us hl => match us, hl with | [_, _], _ => rfl)
      (case a => k_is); (case l => k_is); (case c => k_is); (case k => k_is)
    case t_places_in =>
      refine' DL.def_mk KX G ?a ?l ?c ?k (fun _ _ _ _ _ _ us hl => match us, hl with | [_], _ => rfl)
      (case a => k_is); (case l => k_is); (case c => k_is); (case k => k_is)
    case t_first_in =>
      refine' DL.def_mk KX G ?a ?l ?c ?k (fun _ _ _ _ _ _ us hl => match us, hl with | [_, _], _ => rfl)
      (case a => k_is); (case l => k_is); (case c => k_is); (case k => k_is)
    case t_kinds_that_cover =>
      refine' DL.def_mk KX G ?a ?l ?c ?k (fun _ _ _ _ _ _ us hl => match us, hl with | [_, _, _], _ => rfl)
      (case a => k_is); (case l => k_is); (case c => k_is); (case k => k_is)
    case t_parts_with =>
      refine' DL.def_mk KX G ?a ?l ?c ?k (fun _ _ _ _ _ _ us hl => match us, hl with | [_, _], _ => rfl)
      (case a => k_is); (case l => k_is); (case c => k_is); (case k => k_is)
    case t_least_kinds =>
      refine' DL.def_mk KX G ?a ?l ?c ?k (fun _ _ _ _ _ _ us hl => match us, hl with | [_, _], _ => rfl)
      (case a => k_is); (case l => k_is); (case c => k_is); (case k => k_is)
    case t_least_rows =>
      refine' DL.def_mk KX G ?a ?l ?c ?k (fun _ _ _ _ _ _ us hl => match us, hl with | [_, _], _ => rfl)
      (case a => k_is); (case l => k_is); (case c => k_is); (case k => k_is)
    case t_least_prices =>
      refine' DL.def_mk KX G ?a ?l ?c ?k (fun _ _ _ _ _ _ us hl => match us, hl with | [_, _], _ => rfl)
      (case a => k_is); (case l => k_is); (case c => k_is); (case k => k_is)
    case t_cheapest_of =>
      refine' DL.def_mk KX G ?a ?l ?c ?k (fun _ _ _ _ _ _ us hl => match us, hl with | [_, _], _ => rfl)
      (case a => k_is); (case l => k_is); (case c => k_is); (case k => k_is)
    case t_cover_by =>
      refine' DL.def_mk KX G ?a ?l ?c ?k (fun _ _ _ _ _ _ us hl => match us, hl with | [_], _ => rfl)
      (case a => k_is); (case l => k_is); (case c => k_is); (case k => k_is)
    case t_is_lot =>
      refine' DL.def_mk KX G ?a ?l ?c ?k (fun _ _ _ _ _ _ us hl => match us, hl with | [_, _], _ => rfl)
      (case a => k_is); (case l => k_is); (case c => k_is); (case k => k_is)
    case t_is_bought =>
      refine' DL.def_mk KX G ?a ?l ?c ?k (fun _ _ _ _ _ _ us hl => match us, hl with | [_, _, _], _ => rfl)
      (case a => k_is); (case l => k_is); (case c => k_is); (case k => k_is)
    case t_covers =>
      refine' DL.def_mk KX G ?a ?l ?c ?k (fun _ _ _ _ _ _ us hl => match us, hl with | [_, _, _], _ => rfl)
      (case a => k_is); (case l => k_is); (case c => k_is); (case k => k_is)
    case t_is_worth =>
      refine' DL.def_mk KX G ?a ?l ?c ?k (fun _ _ _ _ _ _ us hl => match us, hl with | [_], _ => rfl)
      (case a => k_is); (case l => k_is); (case c => k_is); (case k => k_is)
    case t_is_bounded =>
      refine' DL.def_mk KX G ?a ?l ?c ?k (fun _ _ _ _ _ _ us hl => match us, hl with | [_, _, _], _ => rfl)
      (case a => k_is); (case l => k_is); (case c => k_is); (case k => k_is)
    case t_is_row_let =>
      refine' DL.def_mk KX G ?a ?l ?c ?k (fun _ _ _ _ _ _ us hl => match us, hl with | [_, _, _, _], _ => rfl)
      (case a => k_is); (case l => k_is); (case c => k_is); (case k => k_is)
    case t_bounds =>
      refine' DL.def_mk KX G ?a ?l ?c ?k (fun _ _ _ _ _ _ us hl => match us, hl with | [_, _, _], _ => rfl)
      (case a => k_is); (case l => k_is); (case c => k_is); (case k => k_is)
    case t_is_cover =>
      refine' DL.def_mk KX G ?a ?l ?c ?k (fun _ _ _ _ _ _ us hl => match us, hl with | [_, _, _], _ => rfl)
      (case a => k_is); (case l => k_is); (case c => k_is); (case k => k_is)
    case t_cheapest =>
      refine' DL.def_mk KX G ?a ?l ?c ?k (fun _ _ _ _ _ _ us hl => match us, hl with | [_, _], _ => rfl)
      (case a => k_is); (case l => k_is); (case c => k_is); (case k => k_is)
    case t_cheapest_cover =>
      refine' DL.def_mk KX G ?a ?l ?c ?k (fun _ _ _ _ _ _ us hl => match us, hl with | [_, _], _ => rfl)
      (case a => k_is); (case l => k_is); (case c => k_is); (case k => k_is)
    case t_price_table =>
      refine' DL.def_mk KX G ?a ?l ?c ?k (fun _ _ _ _ _ _ us hl => match us, hl with | [_, _], _ => rfl)
      (case a => k_is); (case l => k_is); (case c => k_is); (case k => k_is)
    case t_is_price_table =>
      refine' DL.def_mk KX G ?a ?l ?c ?k (fun _ _ _ _ _ _ us hl => match us, hl with | [_, _, _], _ => rfl)
      (case a => k_is); (case l => k_is); (case c => k_is); (case k => k_is)
    case t_charges =>
      refine' DL.def_mk KX G ?a ?l ?c ?k (fun _ _ _ _ _ _ us hl => match us, hl with | [_, _], _ => rfl)
      (case a => k_is); (case l => k_is); (case c => k_is); (case k => k_is)
    case t__law_pot =>
      refine' DL.def_mk KX G ?a ?l ?c ?k (fun _ _ _ _ _ _ us hl => match us, hl with | [_, _], _ => rfl)
      (case a => k_is); (case l => k_is); (case c => k_is); (case k => k_is)
    case t__law_draw =>
      refine' DL.def_mk KX G ?a ?l ?c ?k (fun _ _ _ _ _ _ us hl => match us, hl with | [_, _], _ => rfl)
      (case a => k_is); (case l => k_is); (case c => k_is); (case k => k_is)
    case t__law_pick =>
      refine' DL.def_mk KX G ?a ?l ?c ?k (fun _ _ _ _ _ _ us hl => match us, hl with | [_, _], _ => rfl)
      (case a => k_is); (case l => k_is); (case c => k_is); (case k => k_is)
    case t__law_zones =>
      refine' DL.def_mk KX G ?a ?l ?c ?k (fun _ _ _ _ _ _ us hl => match us, hl with | [_], _ => rfl)
      (case a => k_is); (case l => k_is); (case c => k_is); (case k => k_is)
    case t__law_ticket =>
      refine' DL.def_mk KX G ?a ?l ?c ?k (fun _ _ _ _ _ _ us hl => match us, hl with | [_], _ => rfl)
      (case a => k_is); (case l => k_is); (case c => k_is); (case k => k_is)
    case t__law_tickets =>
      refine' DL.def_mk KX G ?a ?l ?c ?k (fun _ _ _ _ _ _ us hl => match us, hl with | [_], _ => rfl)
      (case a => k_is); (case l => k_is); (case c => k_is); (case k => k_is)
    case t__law_passage =>
      refine' DL.def_mk KX G ?a ?l ?c ?k (fun _ _ _ _ _ _ us hl => match us, hl with | [_], _ => rfl)
      (case a => k_is); (case l => k_is); (case c => k_is); (case k => k_is)
    case t__law_passages =>
      refine' DL.def_mk KX G ?a ?l ?c ?k (fun _ _ _ _ _ _ us hl => match us, hl with | [_, _, _], _ => rfl)
      (case a => k_is); (case l => k_is); (case c => k_is); (case k => k_is)
    case t__law_covers =>
      refine' DL.def_mk KX G ?a ?l ?c ?k (fun _ _ _ _ _ _ us hl => match us, hl with | [_, _], _ => rfl)
      (case a => k_is); (case l => k_is); (case c => k_is); (case k => k_is)
    case t__law_lot =>
      refine' DL.def_mk KX G ?a ?l ?c ?k (fun _ _ _ _ _ _ us hl => match us, hl with | [_, _], _ => rfl)
      (case a => k_is); (case l => k_is); (case c => k_is); (case k => k_is)
    case t__law_prices =>
      refine' DL.def_mk KX G ?a ?l ?c ?k (fun _ _ _ _ _ _ us hl => match us, hl with | [_, _], _ => rfl)
      (case a => k_is); (case l => k_is); (case c => k_is); (case k => k_is)
    case t__law_first =>
      refine' DL.def_mk KX G ?a ?l ?c ?k (fun _ _ _ _ _ _ us hl => match us, hl with | [_, _], _ => rfl)
      (case a => k_is); (case l => k_is); (case c => k_is); (case k => k_is)
    case t__law_most =>
      refine' DL.def_mk KX G ?a ?l ?c ?k (fun _ _ _ _ _ _ us hl => match us, hl with | [_, _, _, _], _ => rfl)
      (case a => k_is); (case l => k_is); (case c => k_is); (case k => k_is)
    case t__law_least =>
      refine' DL.def_mk KX G ?a ?l ?c ?k (fun _ _ _ _ _ _ us hl => match us, hl with | [_, _], _ => rfl)
      (case a => k_is); (case l => k_is); (case c => k_is); (case k => k_is)
    case t__law_is_table =>
      refine' DL.def_mk KX G ?a ?l ?c ?k (fun _ _ _ _ _ _ us hl => match us, hl with | [_, _, _], _ => rfl)
      (case a => k_is); (case l => k_is); (case c => k_is); (case k => k_is)
    case t__law_bent =>
      refine' DL.def_mk KX G ?a ?l ?c ?k (fun _ _ _ _ _ _ us hl => match us, hl with | [_, _, _, _], _ => rfl)
      (case a => k_is); (case l => k_is); (case c => k_is); (case k => k_is)
    case t__law_is_in =>
      refine' DL.def_mk KX G ?a ?l ?c ?k (fun _ _ _ _ _ _ us hl => match us, hl with | [_, _, _], _ => rfl)
      (case a => k_is); (case l => k_is); (case c => k_is); (case k => k_is)
    case t__law_are_zones =>
      refine' DL.def_mk KX G ?a ?l ?c ?k (fun _ _ _ _ _ _ us hl => match us, hl with | [_], _ => rfl)
      (case a => k_is); (case l => k_is); (case c => k_is); (case k => k_is)
    case t__law_is_ticket =>
      refine' DL.def_mk KX G ?a ?l ?c ?k (fun _ _ _ _ _ _ us hl => match us, hl with | [_], _ => rfl)
      (case a => k_is); (case l => k_is); (case c => k_is); (case k => k_is)
    case t__law_is_passage =>
      refine' DL.def_mk KX G ?a ?l ?c ?k (fun _ _ _ _ _ _ us hl => match us, hl with | [_], _ => rfl)
      (case a => k_is); (case l => k_is); (case c => k_is); (case k => k_is)
    case t__law_bent_parts =>
      refine' DL.def_mk KX G ?a ?l ?c ?k (fun _ _ _ _ _ _ us hl => match us, hl with | [_, _], _ => rfl)
      (case a => k_is); (case l => k_is); (case c => k_is); (case k => k_is)
    case t__law_heard =>
      refine' DL.def_mk KX G ?a ?l ?c ?k (fun _ _ _ _ _ _ us hl => match us, hl with | [_], _ => rfl)
      (case a => k_is); (case l => k_is); (case c => k_is); (case k => k_is)
    case t__law_all_heard =>
      refine' DL.def_mk KX G ?a ?l ?c ?k (fun _ _ _ _ _ _ us hl => match us, hl with | [_, _], _ => rfl)
      (case a => k_is); (case l => k_is); (case c => k_is); (case k => k_is)
    case t__law_refused_right =>
      refine' DL.def_mk KX G ?a ?l ?c ?k (fun _ _ _ _ _ _ us hl => match us, hl with | [_], _ => rfl)
      (case a => k_is); (case l => k_is); (case c => k_is); (case k => k_is)
    case t__law_right =>
      refine' DL.def_mk KX G ?a ?l ?c ?k (fun _ _ _ _ _ _ us hl => match us, hl with | [_], _ => rfl)
      (case a => k_is); (case l => k_is); (case c => k_is); (case k => k_is)
    case t_law =>
      refine' DL.def_mk KX G ?a ?l ?c ?k (fun _ _ _ _ _ _ us hl => match us, hl with | [_], _ => rfl)
      (case a => k_is); (case l => k_is); (case c => k_is); (case k => k_is)
    (case z_abs => k_is)
    (case z_all => k_is)
    (case z_any => k_is)
    (case z_bool => k_is)
    (case z_divmod => k_is)
    (case z_enumerate => k_is)
    (case z_int => k_is)
    (case z_isinstance => k_is)
    (case z_len => k_is)
    (case z_list => k_is)
    (case z_max => k_is)
    (case z_min => k_is)
    (case z_range => k_is)
    (case z_repr => k_is)
    (case z_set => k_is)
    (case z_sorted => k_is)
    (case z_str => k_is)
    (case z_tuple => k_is)
    (case z_zip => k_is)
    (case g_LATEST => k_is); (case e_LATEST => exact ⟨_, rfl⟩)
    (case g_MOST_KINDS => k_is); (case e_MOST_KINDS => exact ⟨_, rfl⟩)
    (case g_MOST_MINUTES => k_is); (case e_MOST_MINUTES => exact ⟨_, rfl⟩)
    (case g_MOST_PASSAGES => k_is); (case e_MOST_PASSAGES => exact ⟨_, rfl⟩)
    (case g_MOST_PERSONS => k_is); (case e_MOST_PERSONS => exact ⟨_, rfl⟩)
    (case g_MOST_PRICE => k_is); (case e_MOST_PRICE => exact ⟨_, rfl⟩)
    (case g_MOST_SUM => k_is); (case e_MOST_SUM => exact ⟨_, rfl⟩)
    (case g_MOST_ZONES => k_is); (case e_MOST_ZONES => exact ⟨_, rfl⟩)
    case dm =>
      refine' DL.def_mkT KX G ?a ?l ?c ?k (fun _ _ _ _ _ _ us hl => match us, hl with | [_, _], _ => rfl)
      (case a => k_is); (case l => k_is); (case c => k_is); (case k => k_is)
    case zzc =>
      refine' DL.tab_mk (x := "_law_all_heard") GT KX rfl ?zz1 ?zz2 ?zz3 ?zz4 ?zz5
      (case zz1 => k_is); (case zz2 => k_is); (case zz3 => exact rfl); (case zz4 => k_is); (case zz5 => exact rfl)
    (case nP => kernel_rfl)
    (case mE => k_is); (case m1 => k_is); (case m2 => k_is)
    case o1 =>
      refine' DL.own_mk ?zzxL ?zzhb ?zzsa ?zzga ?zzgg ?zznb ?zziC ?zzkC ?zzeC ?zztC ?zzhC ?zzha ?zzhn ?zzht ?zzhm
      (case zzxL => k_is); (case zzhb => exact rfl); (case zzsa => k_is); (case zzga => k_is); (case zzgg => k_is); (case zznb => k_is); (case zziC => k_is); (case zzkC => k_is); (case zzeC => k_is); (case zztC => k_is); (case zzhC => k_is); (case zzha => k_is); (case zzhn => k_is); (case zzht => k_is); (case zzhm => k_is)
    case o2 =>
      refine' DL.own_mk ?zzxL ?zzhb ?zzsa ?zzga ?zzgg ?zznb ?zziC ?zzkC ?zzeC ?zztC ?zzhC ?zzha ?zzhn ?zzht ?zzhm
      (case zzxL => k_is); (case zzhb => exact rfl); (case zzsa => k_is); (case zzga => k_is); (case zzgg => k_is); (case zznb => k_is); (case zziC => k_is); (case zzkC => k_is); (case zzeC => k_is); (case zztC => k_is); (case zzhC => k_is); (case zzha => k_is); (case zzhn => k_is); (case zzht => k_is); (case zzhm => k_is)
    (case tI => k_is); (case lI => k_is); (case cI => k_is); (case lT => k_is)
    (case e11 => kts_exm); (case e21 => kts_exm); (case e22 => kts_exm); (case i1 => kit_is); (case i2 => kit_is)
