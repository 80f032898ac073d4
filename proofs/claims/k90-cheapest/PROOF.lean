import PyProof.Rows.All
import Wide.All
import OpenK.AllK
import Wide.FinOn
import HandS.ForMost
import HandS.Walk
import HandS.IsInst
import HandS.Zip
import HandS.Conv
import HandS.TupAny
import HandS.TupLe
import HandS.TupMul
import HandS.SortInts
import HandS.Deep
import HandS.WideBits
import HandS.Flt
import HandS.Style
import HandS.SetFor
import PyProof.ReprRoads
import KE.GoesEnum
import HandS.TupSets
import KE.DataMinMax
import PyProof.Rows.RowBridgeK
import HandS.RaiseMore
import KE.SortData
import HandS.Strs
import KE.KRevSl
import HandS.Ends
import PyProof.ReprLen
import KE.BitLaws
import KE.OsArith
import KE.DatumOrd
import PySem.Challenge.RW_citylines_k90_whole_cheapest_by_all_cove
set_option Elab.async false
set_option linter.all false
set_option maxRecDepth 100000
section PDL0
/-! The data layer: what a value is as data (a tree), what the slots of a def hold as data, each construct as a function of the slots' data. -/
namespace DL
open PySem PySem.Spec PyProof.Rows L2

/-! ### values as data -/
mutual
/-- the value reads as the data, in what the heap H tells -/
inductive DD (K : PySem.W.Frag) (H : Hp) : V → PyData → Prop
  | non : DD K H .non .none
  | bl (b : Bool) : DD K H (.bl b) (.bool b)
  | int (i : Int) : DD K H (.int i) (.int i)
  | str (x : Str) : DD K H (.str x) (.str x)
  | lst {a : Addr} {vs : List V} {ds : List PyData} : H a = some (.lst vs) → DDs K H vs ds → DD K H (.ref a) (.list ds)
  | tup {a : Addr} {vs : List V} {ds : List PyData} : H a = some (.tup vs) → DDs K H vs ds → DD K H (.ref a) (.tuple ds)
  | nod {a : Addr} : H a = some (.dK []) → DD K H (.ref a) (.dict [])
inductive DDs (K : PySem.W.Frag) (H : Hp) : List V → List PyData → Prop
  | nil : DDs K H [] []
  | cons {v : V} {vs : List V} {d : PyData} {ds : List PyData} : DD K H v d → DDs K H vs ds → DDs K H (v :: vs) (d :: ds)
end

theorem same_seqT {K : PySem.W.Frag} {H H' : Hp} {a : Addr} {xs : List V} (e : Same H H') (h : SqT K H a xs) : SqT K H' a xs := by
  rcases h with (h | ⟨o, h⟩) | h
  · exact .inl (.inl (e _ _ h))
  · exact .inl (.inr ⟨o, e _ _ h⟩)
  · exact .inr h

mutual
theorem DD.mono {K : PySem.W.Frag} {H H' : Hp} (e : Same H H') : ∀ (d : PyData) (v : V), DD K H v d → DD K H' v d
  | .none, _, h => by cases h; exact .non
  | .bool b, _, h => by cases h; exact .bl b
  | .int i, _, h => by cases h; exact .int i
  | .str x, _, h => by cases h; exact .str x
  | .list ds, _, h => by
    cases h with
    | lst hs ha => exact .lst (e _ _ hs) (DDs.mono e ds _ ha)
  | .tuple ds, _, h => by
    cases h with
    | tup hs ha => exact .tup (e _ _ hs) (DDs.mono e ds _ ha)
  | .dict kvs, _, h => by
    cases h with
    | nod hd => exact .nod (e _ _ hd)
theorem DDs.mono {K : PySem.W.Frag} {H H' : Hp} (e : Same H H') : ∀ (ds : List PyData) (vs : List V), DDs K H vs ds → DDs K H' vs ds
  | [], _, h => by cases h; exact .nil
  | d :: ds, _, h => by
    cases h with
    | cons h1 h2 => exact .cons (DD.mono e d _ h1) (DDs.mono e ds _ h2)
end
theorem DD.up {K : PySem.W.Frag} {H H' : Hp} {v : V} {d : PyData} (h : DD K H v d) (e : Same H H') : DD K H' v d := DD.mono e d v h
theorem DDs.up {K : PySem.W.Frag} {H H' : Hp} {vs : List V} {ds : List PyData} (h : DDs K H vs ds) (e : Same H H') : DDs K H' vs ds := DDs.mono e ds vs h
section
variable {K : PySem.W.Frag} {H : Hp}
theorem DDs.length : ∀ {vs : List V} {ds : List PyData}, DDs K H vs ds → vs.length = ds.length
  | _, [], h => by cases h; rfl
  | _, d :: ds, h => by
    cases h with
    | cons _ h2 => simp [DDs.length h2]
theorem DDs.get : ∀ {ds : List PyData} {vs : List V} {i : Nat} {d : PyData}, DDs K H vs ds → ds[i]? = some d → ∃ v, vs[i]? = some v ∧ DD K H v d
  | [], _, _, _, _, e => by simp at e
  | x :: ds, _, 0, d, h, e => by
    cases h with
    | cons h1 h2 => simp at e; subst e; exact ⟨_, rfl, h1⟩
  | x :: ds, _, i + 1, d, h, e => by
    cases h with
    | cons h1 h2 =>
      obtain ⟨v, a, b⟩ := DDs.get (i := i) h2 (by simpa using e)
      exact ⟨v, by simpa using a, b⟩
theorem DDs.getV : ∀ {vs : List V} {ds : List PyData} {i : Nat} {v : V}, DDs K H vs ds → vs[i]? = some v → ∃ d, ds[i]? = some d ∧ DD K H v d
  | [], _, _, _, _, e => by simp at e
  | x :: vs, _, 0, v, h, e => by
    cases h with
    | cons h1 h2 => simp at e; subst e; exact ⟨_, rfl, h1⟩
  | x :: vs, _, i + 1, v, h, e => by
    cases h with
    | cons h1 h2 =>
      obtain ⟨d, a, b⟩ := DDs.getV (i := i) h2 (by simpa using e)
      exact ⟨d, by simpa using a, b⟩
theorem DDs.append : ∀ {ds es : List PyData} {vs us : List V}, DDs K H vs ds → DDs K H us es → DDs K H (vs ++ us) (ds ++ es)
  | [], _, _, _, h, g => by cases h; exact g
  | _ :: _, _, _, _, h, g => by
    cases h with
    | cons h1 h2 => exact .cons h1 (DDs.append h2 g)
theorem DDs.snoc {ds : List PyData} {vs : List V} {v : V} {d : PyData} (h : DDs K H vs ds) (g : DD K H v d) : DDs K H (vs ++ [v]) (ds ++ [d]) := h.append (.cons g .nil)
theorem DDs.take : ∀ {ds : List PyData} {vs : List V} (n : Nat), DDs K H vs ds → DDs K H (vs.take n) (ds.take n)
  | _, _, 0, _ => .nil
  | [], _, _ + 1, h => by cases h; exact .nil
  | _ :: _, _, n + 1, h => by
    cases h with
    | cons h1 h2 => exact .cons h1 (DDs.take n h2)
theorem DDs.drop : ∀ {ds : List PyData} {vs : List V} (n : Nat), DDs K H vs ds → DDs K H (vs.drop n) (ds.drop n)
  | _, _, 0, h => h
  | [], _, _ + 1, h => by cases h; exact .nil
  | _ :: _, _, n + 1, h => by
    cases h with
    | cons h1 h2 => exact DDs.drop n h2
theorem DDs.set : ∀ {ds : List PyData} {vs : List V} {v : V} {d : PyData} (n : Nat), DDs K H vs ds → DD K H v d → DDs K H (vs.set n v) (ds.set n d)
  | [], _, _, _, _, h, _ => by cases h; exact .nil
  | _ :: _, _, _, _, 0, h, g => by
    cases h with
    | cons h1 h2 => exact .cons g h2
  | _ :: _, _, _, _, n + 1, h, g => by
    cases h with
    | cons h1 h2 => exact .cons h1 (DDs.set n h2 g)
theorem DDs.reverse : ∀ {ds : List PyData} {vs : List V}, DDs K H vs ds → DDs K H vs.reverse ds.reverse
  | [], _, h => by cases h; exact .nil
  | _ :: _, _, h => by
    cases h with
    | cons h1 h2 =>
      rw [List.reverse_cons, List.reverse_cons]
      exact (DDs.reverse h2).snoc h1
theorem DDs.ints : ∀ {ns : List Int} {vs : List V}, DDs K H vs (ns.map PyData.int) → vs = ns.map V.int
  | [], _, h => by cases h; rfl
  | n :: ns, _, h => by
    cases h with
    | cons h1 h2 =>
      cases h1
      rw [DDs.ints h2]
      rfl
theorem DDs.bls : ∀ {bs : List Bool} {vs : List V}, DDs K H vs (bs.map PyData.bool) → vs = bs.map V.bl
  | [], _, h => by cases h; rfl
  | n :: ns, _, h => by
    cases h with
    | cons h1 h2 =>
      cases h1
      rw [DDs.bls h2]
      rfl
theorem DDs.of_ints : ∀ (ns : List Int), DDs K H (ns.map V.int) (ns.map PyData.int)
  | [] => .nil
  | n :: ns => .cons (.int n) (DDs.of_ints ns)
theorem DDs.of_bls : ∀ (ns : List Bool), DDs K H (ns.map V.bl) (ns.map PyData.bool)
  | [] => .nil
  | n :: ns => .cons (.bl n) (DDs.of_bls ns)
theorem DDs.replicate : ∀ (n : Nat) {ds : List PyData} {vs : List V}, DDs K H vs ds → DDs K H (List.replicate n vs).flatten (List.replicate n ds).flatten
  | 0, _, _, _ => .nil
  | n + 1, _, _, h => by
    rw [List.replicate_succ, List.replicate_succ, List.flatten_cons, List.flatten_cons]
    exact h.append (DDs.replicate n h)
end

section
variable {X : Cx} {pins : List (Addr × Obj)} {σ : L2.St} {H : Hp} {s : Shared}
theorem nod_reads {a : Addr} (I : Inv X pins σ H s) (h : H a = some (.dK [])) : ∃ as, Reads s.heap (.ref a) (.dict []) as ∧ sysModules ∉ as := by
  obtain ⟨_, hne, vs, hkv, o, es, ep, ho, hx, hd, he⟩ := I.hok _ _ h
  cases hkv
  obtain ⟨_, hp, _⟩ := he
  have hl : es.toList = [] := by
    generalize es.toList = l at hp
    cases hp
    rfl
  refine ⟨_, Reads.dict ho hx.1 hd (by rw [hl]; exact ReadsAll.nil) (by rw [hl]; exact ReadsAll.nil), fun z => ?_⟩
  have e : sysModules = a := by simpa using z
  rw [← e] at hne
  simp at hne
mutual
/-- .. read as the library reads it -/
theorem DD.reads (I : Inv X pins σ H s) : ∀ (d : PyData) (v : V) (u : Value), DD X.K H v d → RelV v u → ∃ as, Reads s.heap u d as
  | .none, _, _, h, r => by
    cases h
    cases r
    exact ⟨_, Reads.none⟩
  | .bool b, _, _, h, r => by
    cases h
    cases r
    exact ⟨_, Reads.bool b⟩
  | .int i, _, _, h, r => by
    cases h
    obtain ⟨t, rfl⟩ := r
    exact ⟨_, Reads.int i t⟩
  | .str x, _, _, h, r => by
    cases h
    obtain ⟨t, rfl⟩ := r
    exact ⟨_, Reads.str x t⟩
  | .list ds, _, _, h, r => by
    cases h with
    | lst hs ha =>
      cases r
      obtain ⟨its, rv, ⟨o, n, ho, hc, _, hd⟩, _⟩ := I.list (SqL.of hs)
      obtain ⟨as, hr⟩ := DD.readsAll I ds _ its ha rv
      exact ⟨_, Reads.list ho hc hd hr⟩
  | .tuple ds, _, _, h, r => by
    cases h with
    | tup hs ha =>
      cases r
      obtain ⟨its, rv, ⟨o, ho, hc, n, hd⟩, _⟩ := I.tuple (SqT.of hs)
      obtain ⟨as, hr⟩ := DD.readsAll I ds _ its ha rv
      exact ⟨_, Reads.tuple ho hc hd hr⟩
  | .dict kvs, _, _, h, r => by
    cases h with
    | nod hs =>
      cases r
      obtain ⟨as, q, _⟩ := nod_reads I hs
      exact ⟨as, q⟩
theorem DD.readsAll (I : Inv X pins σ H s) : ∀ (ds : List PyData) (vs : List V) (us : List Value), DDs X.K H vs ds → Vals vs us → ∃ as, ReadsAll s.heap us ds as
  | [], _, _, h, r => by
    cases h
    cases r
    exact ⟨_, ReadsAll.nil⟩
  | d :: ds, _, _, h, r => by
    cases h with
    | cons h1 h2 =>
      cases r with
      | cons r1 r2 =>
        obtain ⟨as, q1⟩ := DD.reads I d _ _ h1 r1
        obtain ⟨bs, q2⟩ := DD.readsAll I ds _ _ h2 r2
        exact ⟨_, ReadsAll.cons q1 q2⟩
end
/-- what repr shows of the data can be told: no dict but the empty one alone -/
def plainD : PyData → Bool
  | .dict [] => true
  | d => !d.hasDict
theorem DD.reads_sys (I : Inv X pins σ H s) (d : PyData) (v : V) (u : Value) (h : DD X.K H v d) (r : RelV v u) (p : plainD d = true) : ∃ as, Reads s.heap u d as ∧ (d.hasDict = true → sysModules ∉ as) := by
  cases d with
  | dict kvs =>
    cases h with
    | nod hs =>
      cases r
      obtain ⟨as, q, m⟩ := nod_reads I hs
      exact ⟨as, q, fun _ => m⟩
  | none => exact (DD.reads I _ v u h r).elim fun as q => ⟨as, q, fun z => by simp [plainD, z] at p⟩
  | bool b => exact (DD.reads I _ v u h r).elim fun as q => ⟨as, q, fun z => by simp [plainD, z] at p⟩
  | int b => exact (DD.reads I _ v u h r).elim fun as q => ⟨as, q, fun z => by simp [plainD, z] at p⟩
  | str b => exact (DD.reads I _ v u h r).elim fun as q => ⟨as, q, fun z => by simp [plainD, z] at p⟩
  | list b => exact (DD.reads I _ v u h r).elim fun as q => ⟨as, q, fun z => by simp [plainD, z] at p⟩
  | tuple b => exact (DD.reads I _ v u h r).elim fun as q => ⟨as, q, fun z => by simp [plainD, z] at p⟩
end
end DL
end PDL0
section PDL1
/-! Slots as data; the judgements. -/
namespace DL
open PySem PySem.Spec PyProof.Rows L2

/-- what a slot holds: nothing that is known; data that stays; an own list; a list that was handed in to be changed; an own dict (its keys tuples or not) -/
inductive Sl where
  | u
  | d (x : PyData)
  | l (xs : List PyData)
  | p (xs : List PyData)
  | k (t : Bool) (kvs : List (PyData × PyData))
/-- what an expression gives: data; a new list that nothing else holds -/
inductive Rs where
  | d (x : PyData)
  | l (xs : List PyData)
abbrev Rho := List Sl
def Sl.cell : Sl → Bool
  | .l _ => true
  | .p _ => true
  | .k _ _ => true
  | _ => false
def Rs.data : Rs → PyData
  | .d x => x
  | .l xs => .list xs
def Rs.sl : Rs → Sl
  | .d x => .d x
  | .l xs => .l xs
def keyD : Key → PyData
  | .inl i => .int i
  | .inr x => .str x
def keyT (ks : List Key) : PyData := .tuple (ks.map keyD)

def CellAt (ρ : Rho) (σ : L2.St) (i : Nat) (a : Addr) : Prop := ∃ s, ρ[i]? = some s ∧ s.cell = true ∧ σ[i]? = some (some (.ref a))
/-- a dict's entries as data -/
def DictR (K : PySem.W.Frag) (B H : Hp) (a : Addr) : Bool → List (PyData × PyData) → Prop
  | false, kvs => ∃ ks : List (Key × V), H a = some (.dK ks) ∧ Paired (fun p q => keyD p.1 = q.1 ∧ DD K B p.2 q.2) ks kvs
  | true, kvs => ∃ ks : List (List Key × V), H a = some (.dT ks) ∧ Paired (fun p q => keyT p.1 = q.1 ∧ DD K B p.2 q.2) ks kvs
def SlR (K : PySem.W.Frag) (F B : Hp) (pa : Nat → Option Addr) (σ : L2.St) (H : Hp) (i : Nat) : Sl → Prop
  | .u => True
  | .d x => ∃ v, σ[i]? = some (some v) ∧ DD K B v x
  | .l xs => ∃ a vs, σ[i]? = some (some (.ref a)) ∧ B a = none ∧ F a = none ∧ H a = some (.lst vs) ∧ DDs K B vs xs
  | .p xs => ∃ a vs, pa i = some a ∧ σ[i]? = some (some (.ref a)) ∧ B a = none ∧ F a = none ∧ H a = some (.lst vs) ∧ DDs K B vs xs
  | .k t kvs => ∃ a, σ[i]? = some (some (.ref a)) ∧ B a = none ∧ F a = none ∧ DictR K B H a t kvs
/-- the slots σ and the heap H are as the data ρ tells. B: what is data and stays; F: what must be left as it is; pa: where the lists that were handed in stand -/
structure StR (K : PySem.W.Frag) (F B : Hp) (pa : Nat → Option Addr) (σ : L2.St) (H : Hp) (ρ : Rho) : Prop where
  len : ρ.length = σ.length
  sb : Same B H
  sf : Same F H
  fb : ∀ q, F q ≠ none → B q = none
  sl : ∀ i s, ρ[i]? = some s → SlR K F B pa σ H i s
  ds : ∀ i j a, CellAt ρ σ i a → CellAt ρ σ j a → i = j

def RsR (K : PySem.W.Frag) (F B : Hp) (σ : L2.St) (H : Hp) (ρ : Rho) (v : V) : Rs → Prop
  | .d x => DD K B v x
  | .l xs => ∃ a vs, v = .ref a ∧ B a = none ∧ F a = none ∧ H a = some (.lst vs) ∧ DDs K B vs xs ∧ ∀ i, ¬ CellAt ρ σ i a

abbrev EM := Rho → Option (Rs × Rho)
/-- an expression's reading by data -/
def tD (K : PySem.W.Frag) (f : EM) : TE := fun σ H Q => ∃ F B pa ρ r ρ', StR K F B pa σ H ρ ∧ f ρ = some (r, ρ') ∧ ∀ v B' H', StR K F B' pa σ H' ρ' → Same B B' → RsR K F B' σ H' ρ' v r → Q v H'
abbrev DE (X : Cx) (e : Expr) (f : EM) : Prop := PE X e (tD X.K f)

theorem PE.imp {X : Cx} {e : Expr} {t t' : TE} (h : PE X e t) (i : ∀ σ H Q, t' σ H Q → t σ H Q) : PE X e t' := ⟨fun pins s σ H Q I hw => h.run pins s σ H Q I (i σ H Q hw)⟩
theorem PT.imp {X : Cx} {e : Expr} {t t' : TT} (h : PT X e t) (i : ∀ σ H Q, t' σ H Q → t σ H Q) : PT X e t' := ⟨fun pins s σ H Q I hw => h.run pins s σ H Q I (i σ H Q hw)⟩
theorem PS.imp {X : Cx} {e : Stmt} {t t' : TS} (h : PS X e t) (i : ∀ D σ H, t' D σ H → t D σ H) : PS X e t' := ⟨fun pins s σ H D I hw => h.run pins s σ H D I (i D σ H hw)⟩
theorem PSs.imp {X : Cx} {e : List Stmt} {t t' : TS} (h : PSs X e t) (i : ∀ D σ H, t' D σ H → t D σ H) : PSs X e t' := ⟨fun pins s σ H D I hw => h.run pins s σ H D I (i D σ H hw)⟩
theorem PG.imp {X : Cx} {e : Expr} {t t' : TG} (h : PG X e t) (i : ∀ v σ H Q, t' v σ H Q → t v σ H Q) : PG X e t' := ⟨fun pins s σ H v u Q I r hw => h.run pins s σ H v u Q I r (i v σ H Q hw)⟩
theorem PI.imp {X : Cx} {tg e : Expr} {t t' : TI} (h : PI X tg e t) (i : ∀ σ H Q, t' σ H Q → t σ H Q) : PI X tg e t' := ⟨fun pins s σ H Q I hw => h.run pins s σ H Q I (i σ H Q hw)⟩

section
variable {K : PySem.W.Frag} {F B B' H H' : Hp} {pa : Nat → Option Addr} {σ : L2.St} {ρ : Rho} {v : V}
theorem ne_of_two {H : Hp} {a b : Addr} {o : HO} (h : H a = none) (h' : H b = some o) : b ≠ a := ne_of_none h' h
theorem same_new {B : Hp} {a : Addr} {o : HO} (h : B a = none) : Same B (upd B a o) := fun b u e => by
  rw [upd_ne (ne_of_none e h)]
  exact e
theorem same_both {B H : Hp} {a : Addr} {o : HO} (h : Same B H) (e : H a = some o) : Same (upd B a o) H := fun b u q => by
  by_cases z : b = a
  · subst z
    rw [upd_same] at q
    rw [e]; exact q
  · rw [upd_ne z] at q
    exact h b u q
theorem same_off {B H : Hp} {a : Addr} {o : HO} (h : Same B H) (n : B a = none) : Same B (upd H a o) := fun b u q => by
  rw [upd_ne (ne_of_none q n)]
  exact h b u q
theorem DictR.mono {a : Addr} (e : Same B B') (h : H' a = H a) : ∀ {t kvs}, DictR K B H a t kvs → DictR K B' H' a t kvs
  | false, kvs, ⟨ks, q, r⟩ => ⟨ks, h.trans q, Paired.mapP r fun p q z => ⟨z.1, z.2.up e⟩⟩
  | true, kvs, ⟨ks, q, r⟩ => ⟨ks, h.trans q, Paired.mapP r fun p q z => ⟨z.1, z.2.up e⟩⟩
/-- the object of a slot that holds one of its own -/
theorem StR.cellB (S : StR K F B pa σ H ρ) {i : Nat} {a : Addr} (c : CellAt ρ σ i a) : B a = none ∧ F a = none ∧ H a ≠ none := by
  obtain ⟨s, e, hc, hs⟩ := c
  have q := S.sl i s e
  cases s with
  | u => cases hc
  | d x => cases hc
  | l xs =>
    obtain ⟨b, vs, h1, h2, h3, h4, _⟩ := q
    rw [hs] at h1; cases h1
    exact ⟨h2, h3, by rw [h4]; simp⟩
  | p xs =>
    obtain ⟨b, vs, _, h1, h2, h3, h4, _⟩ := q
    rw [hs] at h1; cases h1
    exact ⟨h2, h3, by rw [h4]; simp⟩
  | k t kvs =>
    obtain ⟨b, h1, h2, h3, h4⟩ := q
    rw [hs] at h1; cases h1
    refine ⟨h2, h3, ?_⟩
    cases t with
    | false => obtain ⟨_, z, _⟩ := h4; rw [z]; simp
    | true => obtain ⟨_, z, _⟩ := h4; rw [z]; simp
/-- a slot's word under more data, where the slots' own objects stand as they stood -/
theorem SlR.keep {i : Nat} {s : Sl} (e : Same B B') (hc : ∀ a, s.cell = true → σ[i]? = some (some (.ref a)) → B' a = none ∧ H' a = H a) (q : SlR K F B pa σ H i s) : SlR K F B' pa σ H' i s := by
  cases s with
  | u => trivial
  | d x => obtain ⟨v, h1, h2⟩ := q; exact ⟨v, h1, h2.up e⟩
  | l xs =>
    obtain ⟨b, vs, h1, h2, h3, h4, h5⟩ := q
    obtain ⟨c1, c2⟩ := hc b rfl h1
    exact ⟨b, vs, h1, c1, h3, c2.trans h4, h5.up e⟩
  | p xs =>
    obtain ⟨b, vs, h0, h1, h2, h3, h4, h5⟩ := q
    obtain ⟨c1, c2⟩ := hc b rfl h1
    exact ⟨b, vs, h0, h1, c1, h3, c2.trans h4, h5.up e⟩
  | k t kvs =>
    obtain ⟨b, h1, h2, h3, h4⟩ := q
    obtain ⟨c1, c2⟩ := hc b rfl h1
    exact ⟨b, h1, c1, h3, h4.mono e c2⟩
/-- the heap grows, the data grow: the slots' own objects stand -/
theorem StR.grow (S : StR K F B pa σ H ρ) (e : Same B B') (sb : Same B' H') (sf : Same F H') (fb : ∀ q, F q ≠ none → B' q = none) (hc : ∀ i a, CellAt ρ σ i a → B' a = none ∧ H' a = H a) : StR K F B' pa σ H' ρ :=
  ⟨S.len, sb, sf, fb, fun i s q => (S.sl i s q).keep e fun a c z => hc i a ⟨s, q, c, z⟩, S.ds⟩
/-- a new object -/
theorem StR.new (S : StR K F B pa σ H ρ) {a : Addr} {o : HO} (n : H a = none) : StR K F B pa σ (upd H a o) ρ :=
  S.grow (Same.refl _) (fun b u q => by rw [upd_ne (ne_of_none (S.sb b u q) n)]; exact S.sb b u q) (fun b u q => by rw [upd_ne (ne_of_none (S.sf b u q) n)]; exact S.sf b u q) S.fb fun i b c => by
    obtain ⟨h1, h2, h3⟩ := S.cellB c
    refine ⟨h1, upd_ne fun z => ?_⟩
    rw [z] at h3
    exact h3 n
theorem StR.noB (S : StR K F B pa σ H ρ) {a : Addr} (n : H a = none) : B a = none := S.sb.free n
theorem StR.noF (S : StR K F B pa σ H ρ) {a : Addr} (n : H a = none) : F a = none := S.sf.free n
theorem StR.noC (S : StR K F B pa σ H ρ) {a : Addr} (n : H a = none) (i : Nat) : ¬ CellAt ρ σ i a := fun c => (S.cellB c).2.2 n
/-- .. that becomes data -/
theorem StR.put (S : StR K F B pa σ H ρ) {a : Addr} {o : HO} (h : H a = some o) (n : B a = none) (nf : F a = none) (nc : ∀ i, ¬ CellAt ρ σ i a) : StR K F (upd B a o) pa σ H ρ :=
  S.grow (same_new n) (same_both S.sb h) S.sf (fun q hq => by
    rw [upd_ne (fun z => hq (by rw [z]; exact nf))]
    exact S.fb q hq) fun i b c => by
    refine ⟨?_, rfl⟩
    rw [upd_ne (fun z => nc i (by rw [← z]; exact c))]
    exact (S.cellB c).1
theorem StR.newData (S : StR K F B pa σ H ρ) {a : Addr} {o : HO} (n : H a = none) : StR K F (upd B a o) pa σ (upd H a o) ρ ∧ Same B (upd B a o) :=
  ⟨(S.new n).put upd_same (S.noB n) (S.noF n) fun i c => by
    have q := (S.noC n i)
    exact q c, same_new (S.noB n)⟩
/-- a result becomes data -/
theorem RsR.freeze {r : Rs} (S : StR K F B pa σ H ρ) (q : RsR K F B σ H ρ v r) : ∃ B', Same B B' ∧ StR K F B' pa σ H ρ ∧ DD K B' v r.data := by
  cases r with
  | d x => exact ⟨B, Same.refl _, S, q⟩
  | l xs =>
    obtain ⟨a, vs, rfl, h1, h2, h3, h4, h5⟩ := q
    exact ⟨upd B a (.lst vs), same_new h1, S.put h3 h1 h2 h5, .lst upd_same (h4.up (same_new h1))⟩
/-- what an expression gives, taken as data -/
theorem tD_take {f : EM} {r : Rs} {ρ' : Rho} {Q : VK} (S : StR K F B pa σ H ρ) (e : f ρ = some (r, ρ')) (k : ∀ v B' H', StR K F B' pa σ H' ρ' → Same B B' → DD K B' v r.data → Q v H') : tD K f σ H Q :=
  ⟨F, B, pa, ρ, r, ρ', S, e, fun v B1 H1 S1 s1 q1 => by
    obtain ⟨B2, s2, S2, q2⟩ := q1.freeze S1
    exact k v B2 H1 S2 (s1.trans s2) q2⟩
end

/-! ### statements -/
inductive Out where
  | nx (ρ : Rho)
  | ret (r : Rs) (ρ : Rho)
  | bk (ρ : Rho)
  | ct (ρ : Rho)
abbrev SM := Rho → Option Out
def OutR (K : PySem.W.Frag) (F B : Hp) (pa : Nat → Option Addr) (D : Ends) : Out → Prop
  | .nx ρ' => ∀ σ' B' H', StR K F B' pa σ' H' ρ' → Same B B' → D.nx σ' H'
  | .ret r ρ' => ∀ v σ' B' H', StR K F B' pa σ' H' ρ' → Same B B' → RsR K F B' σ' H' ρ' v r → D.rt v H'
  | .bk ρ' => ∀ σ' B' H', StR K F B' pa σ' H' ρ' → Same B B' → D.bk σ' H'
  | .ct ρ' => ∀ σ' B' H', StR K F B' pa σ' H' ρ' → Same B B' → D.ct σ' H'
def tDS (K : PySem.W.Frag) (g : SM) : TS := fun D σ H => ∃ F B pa ρ out, StR K F B pa σ H ρ ∧ g ρ = some out ∧ OutR K F B pa D out
abbrev DS (X : Cx) (st : Stmt) (g : SM) : Prop := PS X st (tDS X.K g)
abbrev DSs (X : Cx) (st : List Stmt) (g : SM) : Prop := PSs X st (tDS X.K g)
theorem OutR.mono {K : PySem.W.Frag} {F B B1 : Hp} {pa : Nat → Option Addr} {D : Ends} {o : Out} (e : Same B B1) (h : OutR K F B pa D o) : OutR K F B1 pa D o := by
  cases o with
  | nx ρ' => exact fun σ' B' H' S s => h σ' B' H' S (e.trans s)
  | ret r ρ' => exact fun v σ' B' H' S s => h v σ' B' H' S (e.trans s)
  | bk ρ' => exact fun σ' B' H' S s => h σ' B' H' S (e.trans s)
  | ct ρ' => exact fun σ' B' H' S s => h σ' B' H' S (e.trans s)

section
variable {X : Cx} {st : Stmt} {rest : List Stmt} {pos : Pos}
def sNil : SM := fun ρ => some (.nx ρ)
def sSeq (g h : SM) : SM := fun ρ => (g ρ).bind fun
  | .nx ρ1 => h ρ1
  | o => some o
theorem dss_nil : DSs X [] sNil := PSs.imp pss_nil fun D σ H ⟨F, B, pa, ρ, out, S, e, k⟩ => by
  cases e
  exact k σ B H S (Same.refl _)
theorem dss_cons {g h : SM} (h1 : DS X st g) (h2 : DSs X rest h) : DSs X (st :: rest) (sSeq g h) := PSs.imp (pss_cons h1 h2) fun D σ H ⟨F, B, pa, ρ, out, S, e, k⟩ => by
  unfold sSeq at e
  cases eg : g ρ with
  | none => rw [eg] at e; cases e
  | some o =>
    rw [eg] at e
    refine ⟨F, B, pa, ρ, o, S, eg, ?_⟩
    cases o with
    | nx ρ1 => exact fun σ' B' H' S' s => ⟨F, B', pa, ρ1, out, S', e, k.mono s⟩
    | ret r ρ1 => cases e; exact k
    | bk ρ1 => cases e; exact k
    | ct ρ1 => cases e; exact k
theorem dss_one {g : SM} (h1 : DS X st g) : DSs X [st] g := PSs.imp (pss_one h1) fun D σ H h => h
end
end DL
end PDL1
section PDL2
/-! Expressions: by values. -/
namespace DL
open PySem PySem.Spec PyProof.Rows L2

/-- what a rule by values gives: data that stood already, a new list, a new tuple -/
inductive NewR (K : PySem.W.Frag) (B H : Hp) : V → Hp → Rs → Prop
  | old {v : V} {x : PyData} (h : DD K B v x) : NewR K B H v H (.d x)
  | lst {a : Addr} {vs : List V} {xs : List PyData} (n : H a = none) (h : DDs K B vs xs) : NewR K B H (.ref a) (upd H a (.lst vs)) (.l xs)
  | tup {a : Addr} {vs : List V} {xs : List PyData} (n : H a = none) (h : DDs K B vs xs) : NewR K B H (.ref a) (upd H a (.tup vs)) (.d (.tuple xs))
section
variable {K : PySem.W.Frag} {F B B' H H' : Hp} {pa : Nat → Option Addr} {σ : L2.St} {ρ : Rho} {v : V} {r : Rs}
theorem NewR.back (S : StR K F B pa σ H ρ) (n : NewR K B H v H' r) : ∃ B', StR K F B' pa σ H' ρ ∧ Same B B' ∧ RsR K F B' σ H' ρ v r := by
  cases n with
  | old h => exact ⟨B, S, Same.refl _, h⟩
  | lst n h => exact ⟨B, S.new n, Same.refl _, _, _, rfl, S.noB n, S.noF n, upd_same, h, S.noC n⟩
  | tup n h =>
    obtain ⟨S', e⟩ := S.newData n
    exact ⟨_, S', e, .tup upd_same (h.up e)⟩
end
/-- an operator's reading by data -/
def rD (K : PySem.W.Frag) (G : PyData → PyData → Option Rs) : R2 := fun x y H Q => ∃ B d e r, Same B H ∧ DD K B x d ∧ DD K B y e ∧ G d e = some r ∧ ∀ v H', NewR K B H v H' r → Q v H'
/-- a built-in's reading by data -/
def rCD (K : PySem.W.Frag) (G : List PyData → Option Rs) : List V → Hp → VK → Prop := fun xs H Q => ∃ B ds r, Same B H ∧ DDs K B xs ds ∧ G ds = some r ∧ ∀ v H', NewR K B H v H' r → Q v H'
theorem OpR.imp {X : Cx} {f : Value → Value → Sem Value} {r r' : R2} (h : OpR X f r) (i : ∀ x y H Q, r' x y H Q → r x y H Q) : OpR X f r' := fun pins s σ H x y v u Q I rx ry hw => h pins s σ H x y v u Q I rx ry (i x y H Q hw)
theorem CallR.imp {X : Cx} {f : Value} {r r' : List V → Hp → VK → Prop} (h : CallR X f r) (i : ∀ xs H Q, r' xs H Q → r xs H Q) : CallR X f r' := fun pins s σ H xs us Q I rx hw => h pins s σ H xs us Q I rx (i xs H Q hw)

def eBin (G : PyData → PyData → Option Rs) (f g : EM) : EM := fun ρ => (f ρ).bind fun a => (g a.2).bind fun b => (G a.1.data b.1.data).map fun r => (r, b.2)
section
variable {X : Cx} {a b c : Expr} {f g h : EM} {pos : Pos} {G G' : PyData → PyData → Option Rs}
theorem bind_some {α β : Type} {o : Option α} {k : α → Option β} {y : β} (e : o.bind k = some y) : ∃ x, o = some x ∧ k x = some y := by
  cases o with
  | none => cases e
  | some x => exact ⟨x, rfl, e⟩
theorem map_some {α β : Type} {o : Option α} {k : α → β} {y : β} (e : o.map k = some y) : ∃ x, o = some x ∧ k x = y := by
  cases o with
  | none => cases e
  | some x => exact ⟨x, rfl, Option.some.inj e⟩
theorem eBin_some {ρ ρ' : Rho} {r : Rs} (e : eBin G f g ρ = some (r, ρ')) : ∃ r1 ρ1 r2, f ρ = some (r1, ρ1) ∧ g ρ1 = some (r2, ρ') ∧ G r1.data r2.data = some r := by
  obtain ⟨⟨r1, ρ1⟩, e1, e⟩ := bind_some e
  obtain ⟨⟨r2, ρ2⟩, e2, e⟩ := bind_some e
  obtain ⟨r3, e3, e⟩ := map_some e
  cases e
  exact ⟨r1, ρ1, r2, e1, e2, e3⟩
/-- two operands, then the rule by values -/
theorem tOp_of {K : PySem.W.Frag} {σ : L2.St} {H : Hp} {Q : VK} (q : tD K (eBin G f g) σ H Q) : tOp (rD K G) (tD K f) (tD K g) σ H Q := by
  obtain ⟨F, B, pa, ρ, r, ρ', S, e, k⟩ := q
  obtain ⟨r1, ρ1, r2, e1, e2, e3⟩ := eBin_some e
  refine tD_take S e1 fun v B1 H1 S1 s1 d1 => tD_take S1 e2 fun w B2 H2 S2 s2 d2 => ?_
  refine ⟨B2, _, _, r, S2.sb, d1.up s2, d2, e3, fun z H3 n => ?_⟩
  obtain ⟨B3, S3, s3, q3⟩ := n.back S2
  exact k z B3 H3 S3 (s1.trans (s2.trans s3)) q3
theorem de_op {op : Operator} (ho : OpR X (binaryOp op) (rD X.K G)) (ha : DE X a f) (hb : DE X b g) : DE X (.BinOp a op b pos) (eBin G f g) := PE.imp (pe_op ho ha hb) fun _ _ _ => tOp_of
theorem de_cmp {op : CmpOp} (ho : OpR X (compareOp op) (rD X.K G)) (ha : DE X a f) (hb : DE X b g) (hm : behindInMarks op b = false) : DE X (.Compare a [op] [b] pos) (eBin G f g) := PE.imp (pe_cmpR ho ha hb hm) fun _ _ _ => tOp_of
/-- a < b < c -/
def eChain (G G' : PyData → PyData → Option Rs) (f g h : EM) : EM := fun ρ => (f ρ).bind fun a => (g a.2).bind fun b => (G a.1.data b.1.data).bind fun
  | .d (.bool true) => (h b.2).bind fun c => (G' b.1.data c.1.data).map fun r => (r, c.2)
  | .d (.bool false) => some (.d (.bool false), b.2)
  | _ => none
end

/-! ### numbers -/
def gAdd : PyData → PyData → Option Rs
  | .int i, .int j => some (.d (.int (i + j)))
  | .list xs, .list ys => if xs.length + ys.length ≤ sizeLine then some (.l (xs ++ ys)) else none
  | .tuple xs, .tuple ys => if xs.length + ys.length ≤ sizeLine then some (.d (.tuple (xs ++ ys))) else none
  | .str x, .str y => if x.length + y.length ≤ sizeLine then some (.d (.str (x ++ y))) else none
  | _, _ => none
section
variable {X : Cx}
theorem dop_add : OpR X (binaryOp .Add) (rD X.K gAdd) := by
  intro pins s σ H x y v u Q I rx ry h
  obtain ⟨B, d, e, r, sb, hd, he, eg, k⟩ := h
  unfold gAdd at eg
  split at eg
  · cases eg; cases hd; cases he
    exact op_add pins s σ H _ _ v u Q I rx ry ⟨_, _, rfl, rfl, k _ _ (.old (.int _))⟩
  · split at eg
    · rename_i hz
      cases eg
      cases hd with
      | lst h1 d1 =>
        cases he with
        | lst h2 d2 =>
          exact op_cat pins s σ H _ _ v u Q I rx ry ⟨_, _, _, _, rfl, rfl, sb _ _ h1, sb _ _ h2, by rw [d1.length, d2.length]; exact hz, fun p n => k _ _ (.lst n (d1.append d2))⟩
    · cases eg
  · split at eg
    · rename_i hz
      cases eg
      cases hd with
      | tup h1 d1 =>
        cases he with
        | tup h2 d2 =>
          refine op_catA pins s σ H _ _ v u Q I rx ry ⟨_, _, _, _, rfl, rfl, SqT.of (sb _ _ h1), SqT.of (sb _ _ h2), by rw [d1.length, d2.length]; exact hz, fun z => ?_, fun z1 z2 => ?_, fun z1 z2 p n => k _ _ (.tup n (d1.append d2))⟩
          · subst z
            cases d1
            exact k _ _ (.old (.tup h2 d2))
          · subst z2
            cases d2
            rw [List.append_nil] at k
            exact k _ _ (.old (.tup h1 d1))
    · cases eg
  · split at eg
    · rename_i hz
      cases eg; cases hd; cases he
      exact op_add_str pins s σ H _ _ v u Q I rx ry ⟨_, _, rfl, rfl, hz, k _ _ (.old (.str _))⟩
    · cases eg
  · cases eg
/-- ints by a condition -/
def gI (C : Int → Int → Bool) (w : Int → Int → PyData) : PyData → PyData → Option Rs
  | .int i, .int j => if C i j = true then some (.d (w i j)) else none
  | _, _ => none
theorem dop_int {f : Value → Value → Sem Value} {C : Int → Int → Prop} {C' : Int → Int → Bool} {w : Int → Int → V} {w' : Int → Int → PyData} (ho : OpR X f (rI C w)) (hc : ∀ i j, C' i j = true → C i j) (hw : ∀ K B i j, DD K B (w i j) (w' i j)) : OpR X f (rD X.K (gI C' w')) := by
  intro pins s σ H x y v u Q I rx ry h
  obtain ⟨B, d, e, r, sb, hd, he, eg, k⟩ := h
  unfold gI at eg
  split at eg
  · split at eg
    · rename_i hz
      cases eg; cases hd; cases he
      exact ho pins s σ H _ _ v u Q I rx ry ⟨_, _, rfl, rfl, hc _ _ hz, k _ _ (.old (hw _ _ _ _))⟩
    · cases eg
  · cases eg
theorem rI_of {f : Value → Value → Sem Value} {w : Int → Int → V} (ho : OpR X f (rI0 w)) : OpR X f (rI (fun _ _ => True) w) := OpR.imp ho fun x y H Q ⟨i, j, a, b, _, q⟩ => ⟨i, j, a, b, q⟩
def gSub : PyData → PyData → Option Rs := gI (fun _ _ => true) fun i j => .int (i - j)
theorem dop_sub : OpR X (binaryOp .Sub) (rD X.K gSub) := dop_int (rI_of op_sub) (fun _ _ _ => trivial) fun _ _ _ _ => .int _
/-- the smaller factor within 64 bits; a list or tuple so many times -/
def cMul (i j : Int) : Bool := (decide (-(2 ^ 64) < i) && decide (i < 2 ^ 64)) || (decide (-(2 ^ 64) < j) && decide (j < 2 ^ 64))
def gMul : PyData → PyData → Option Rs
  | .int i, .int j => if cMul i j = true then some (.d (.int (i * j))) else none
  | .list xs, .int k => if (decide (-(2 ^ 63) ≤ k) && decide (k < 2 ^ 63) && decide (xs.length * k.toNat ≤ sizeLine)) = true then some (.l (List.replicate k.toNat xs).flatten) else none
  | .tuple xs, .int k => if (decide (2 ≤ k) && decide (k ≤ 1000) && decide (xs.length ≤ 1000) && !xs.isEmpty) = true then some (.d (.tuple (List.replicate k.toNat xs).flatten)) else none
  | _, _ => none
theorem dop_mul : OpR X (binaryOp .Mult) (rD X.K gMul) := by
  intro pins s σ H x y v u Q I rx ry h
  obtain ⟨B, d, e, r, sb, hd, he, eg, k⟩ := h
  unfold gMul at eg
  split at eg
  · split at eg
    · rename_i hz
      cases eg; cases hd; cases he
      refine op_mul pins s σ H _ _ v u Q I rx ry ⟨_, _, rfl, rfl, ?_, k _ _ (.old (.int _))⟩
      unfold cMul at hz
      simp only [Bool.or_eq_true, Bool.and_eq_true, decide_eq_true_eq] at hz
      exact hz
    · cases eg
  · split at eg
    · rename_i hz
      simp only [Bool.and_eq_true, decide_eq_true_eq] at hz
      cases eg
      cases he
      cases hd with
      | lst h1 d1 => exact op_rep pins s σ H _ _ v u Q I rx ry ⟨_, _, _, rfl, rfl, sb _ _ h1, hz.1.1, hz.1.2, by rw [d1.length]; exact hz.2, fun p n => k _ _ (.lst n (DDs.replicate _ d1))⟩
    · cases eg
  · split at eg
    · rename_i hz
      simp only [Bool.and_eq_true, decide_eq_true_eq, Bool.not_eq_true'] at hz
      cases eg
      cases he
      cases hd with
      | tup h1 d1 =>
        refine op_repT pins s σ H _ _ v u Q I rx ry ⟨_, _, _, rfl, rfl, SqT.of (sb _ _ h1), fun z => ?_, hz.1.1.1, hz.1.1.2, by rw [d1.length]; exact hz.1.2, fun p n => k _ _ (.tup n (DDs.replicate _ d1))⟩
        subst z
        cases d1
        exact absurd hz.2 (by simp)
    · cases eg
  · cases eg
def gFdiv : PyData → PyData → Option Rs := gI (fun _ j => decide (0 < j) && decide (j < 1073741824)) fun i j => .int (i / j)
theorem dop_fdiv : OpR X (binaryOp .FloorDiv) (rD X.K gFdiv) := dop_int op_fdiv (fun _ _ h => by simpa [CDiv] using h) fun _ _ _ _ => .int _
def gMod : PyData → PyData → Option Rs := gI (fun _ j => decide (0 < j)) fun i j => .int (i % j)
theorem dop_mod : OpR X (binaryOp .Mod) (rD X.K gMod) := dop_int op_mod (fun _ _ h => by simpa using h) fun _ _ _ _ => .int _
def cPow (i j : Int) : Bool := decide (0 ≤ j) && decide (j ≤ 1000000) && decide (i.natAbs < 2 ^ 64)
theorem cPow_ok (i j : Int) (h : cPow i j = true) : CPow i j := by
  unfold cPow at h
  simp only [Bool.and_eq_true, decide_eq_true_eq] at h
  exact ⟨h.1.1, h.1.2, h.2⟩
def gPow : PyData → PyData → Option Rs := gI cPow fun i j => .int (i ^ j.toNat)
theorem dop_pow : OpR X (binaryOp .Pow) (rD X.K gPow) := dop_int op_pow cPow_ok fun _ _ _ _ => .int _
def gShl : PyData → PyData → Option Rs := gI cPow fun i j => .int (i * 2 ^ j.toNat)
theorem dop_shl : OpR X (binaryOp .LShift) (rD X.K gShl) := dop_int op_shl cPow_ok fun _ _ _ _ => .int _
def gShr : PyData → PyData → Option Rs := gI (fun _ j => decide (0 ≤ j)) fun i j => .int (i / 2 ^ j.toNat)
theorem dop_shr : OpR X (binaryOp .RShift) (rD X.K gShr) := dop_int op_shr (fun _ _ h => by simpa using h) fun _ _ _ _ => .int _
def gAnd : PyData → PyData → Option Rs := gI (fun _ _ => true) fun i j => .int (Builtin.bitAnd i j)
theorem dop_and : OpR X (binaryOp .BitAnd) (rD X.K gAnd) := dop_int (rI_of op_and) (fun _ _ _ => trivial) fun _ _ _ _ => .int _
/-! ### comparisons -/
/-- ints, and tuples of ints -/
def intsOf : List PyData → Option (List Int)
  | [] => some []
  | .int i :: r => (intsOf r).map (i :: ·)
  | _ :: _ => none
theorem intsOf_eq : ∀ {xs : List PyData} {ns : List Int}, intsOf xs = some ns → xs = ns.map PyData.int
  | [], ns, e => by cases e; rfl
  | x :: r, ns, e => by
    unfold intsOf at e
    cases x with
    | int i =>
      obtain ⟨ms, e1, e2⟩ := map_some (show (intsOf r).map (i :: ·) = some ns from e)
      rw [intsOf_eq e1, ← e2]
      rfl
    | none => cases e
    | bool _ => cases e
    | str _ => cases e
    | list _ => cases e
    | tuple _ => cases e
    | dict _ => cases e
theorem intsOf_map : ∀ ns : List Int, intsOf (ns.map PyData.int) = some ns
  | [] => rfl
  | n :: ns => by
    show (intsOf (ns.map PyData.int)).map (n :: ·) = _
    rw [intsOf_map ns]
    rfl
def gLt : PyData → PyData → Option Rs
  | .int i, .int j => some (.d (.bool (decide (i < j))))
  | .tuple xs, .tuple ys => (intsOf xs).bind fun ns => (intsOf ys).map fun ms => .d (.bool (HT.lexLt ns ms))
  | _, _ => none
theorem dop_lt (hu : X.A.units < cLine) : OpR X (compareOp .Lt) (rD X.K gLt) := by
  intro pins s σ H x y v u Q I rx ry h
  obtain ⟨B, d, e, r, sb, hd, he, eg, k⟩ := h
  unfold gLt at eg
  split at eg
  · cases eg; cases hd; cases he
    exact op_lt pins s σ H _ _ v u Q I rx ry ⟨_, _, rfl, rfl, k _ _ (.old (.bl _))⟩
  · obtain ⟨ns, e1, eg⟩ := bind_some eg
    obtain ⟨ms, e2, eg⟩ := map_some eg
    cases eg
    rw [intsOf_eq e1] at hd
    rw [intsOf_eq e2] at he
    cases hd with
    | tup h1 d1 =>
      cases he with
      | tup h2 d2 =>
        rw [d1.ints] at h1
        rw [d2.ints] at h2
        exact op_ltT hu pins s σ H _ _ v u Q I rx ry ⟨_, _, ns, ms, rfl, rfl, SqT.of (sb _ _ h1), SqT.of (sb _ _ h2), k _ _ (.old (.bl _))⟩
  · cases eg
def gLe : PyData → PyData → Option Rs := gI (fun _ _ => true) fun i j => .bool (decide (i ≤ j))
theorem dop_le : OpR X (compareOp .LtE) (rD X.K gLe) := dop_int (rI_of op_le) (fun _ _ _ => trivial) fun _ _ _ _ => .bl _
def gGt : PyData → PyData → Option Rs := gI (fun _ _ => true) fun i j => .bool (decide (j < i))
theorem dop_gt : OpR X (compareOp .Gt) (rD X.K gGt) := dop_int (rI_of op_gt) (fun _ _ _ => trivial) fun _ _ _ _ => .bl _
def gGe : PyData → PyData → Option Rs := gI (fun _ _ => true) fun i j => .bool (decide (j ≤ i))
theorem dop_ge : OpR X (compareOp .GtE) (rD X.K gGe) := dop_int (rI_of op_ge) (fun _ _ _ => trivial) fun _ _ _ _ => .bl _
def gEq (d e : PyData) : Option Rs := if (SeqAt.shaped d && SeqAt.shaped e) = true then some (.d (.bool (PyData.eqv d e))) else none
theorem dop_eq (hu : X.A.units + 64 < cLine) : OpR X (compareOp .Eq) (rD X.K gEq) := by
  intro pins s σ H x y v u Q I rx ry h
  obtain ⟨B, d, e, r, sb, hd, he, eg, k⟩ := h
  unfold gEq at eg
  split at eg
  · rename_i hz
    cases eg
    obtain ⟨as, r1⟩ := DD.reads I d x v (hd.up sb) rx
    obtain ⟨bs, r2⟩ := DD.reads I e y u (he.up sb) ry
    exact SeqAt.compareEq_shaped r1 r2 (Bool.and_eq_true_iff.mp hz).1 (Bool.and_eq_true_iff.mp hz).2 hu ⟨.bl _, H, I, rfl, k _ _ (.old (.bl _))⟩
  · cases eg
def gNe (d e : PyData) : Option Rs := if (SeqAt.shaped d && SeqAt.shaped e) = true then some (.d (.bool (!PyData.eqv d e))) else none
theorem dop_ne (hu : X.A.units + 64 < cLine) : OpR X (compareOp .NotEq) (rD X.K gNe) := by
  intro pins s σ H x y v u Q I rx ry h
  obtain ⟨B, d, e, r, sb, hd, he, eg, k⟩ := h
  unfold gNe at eg
  split at eg
  · rename_i hz
    cases eg
    obtain ⟨as, r1⟩ := DD.reads I d x v (hd.up sb) rx
    obtain ⟨bs, r2⟩ := DD.reads I e y u (he.up sb) ry
    exact SeqAt.compareNe_shaped r1 r2 (Bool.and_eq_true_iff.mp hz).1 (Bool.and_eq_true_iff.mp hz).2 hu ⟨.bl _, H, I, rfl, k _ _ (.old (.bl _))⟩
  · cases eg
def isNone : PyData → Bool
  | .none => true
  | _ => false
theorem dd_none {K : PySem.W.Frag} {B : Hp} {v : V} {d : PyData} (h : DD K B v d) : decide (v = .non) = isNone d := by
  cases h <;> simp [isNone]
def gIs (d e : PyData) : Option Rs := if isNone e = true then some (.d (.bool (isNone d))) else none
theorem dop_is : OpR X (compareOp .Is) (rD X.K gIs) := by
  intro pins s σ H x y v u Q I rx ry h
  obtain ⟨B, d, e, r, sb, hd, he, eg, k⟩ := h
  unfold gIs at eg
  split at eg
  · rename_i hz
    cases eg
    refine op_isN pins s σ H _ _ v u Q I rx ry ⟨?_, ?_⟩
    · have := dd_none he
      rw [hz] at this
      exact of_decide_eq_true this
    · rw [dd_none hd]
      exact k _ _ (.old (.bl _))
  · cases eg
def gIsNot (d e : PyData) : Option Rs := if isNone e = true then some (.d (.bool (!isNone d))) else none
theorem dop_isnot : OpR X (compareOp .IsNot) (rD X.K gIsNot) := by
  intro pins s σ H x y v u Q I rx ry h
  obtain ⟨B, d, e, r, sb, hd, he, eg, k⟩ := h
  unfold gIsNot at eg
  split at eg
  · rename_i hz
    cases eg
    refine op_notN pins s σ H _ _ v u Q I rx ry ⟨?_, ?_⟩
    · have := dd_none he
      rw [hz] at this
      exact of_decide_eq_true this
    · rw [dd_none hd]
      exact k _ _ (.old (.bl _))
  · cases eg
/-! ### in -/
def flatD : PyData → Bool
  | .none => true
  | .bool _ => true
  | .int _ => true
  | .str _ => true
  | _ => false
end
end DL
end PDL2
section PDL3
/-! Expressions: names, constants, arguments, displays, tests. -/
namespace DL
open PySem PySem.Spec PyProof.Rows L2

section
variable {X : Cx}
/-! ### in -/
def itemsOf : PyData → Option (List PyData)
  | .list xs => some xs
  | .tuple xs => some xs
  | _ => none
def gIn (neg : Bool) (d e : PyData) : Option Rs := (itemsOf e).bind fun xs => if (PyData.canLayAll0 xs && SeqAt.shaped d) = true then some (.d (.bool (xor neg (xs.any fun y => PyData.eqv y d)))) else none
theorem dop_in (hu : X.A.units + 65 < cLine) : OpR X (compareOp .In) (rD X.K (gIn false)) := by
  intro pins s σ H x y v u Q I rx ry h
  obtain ⟨B, d, e, r, sb, hd, he, eg, k⟩ := h
  obtain ⟨xs, e1, eg⟩ := bind_some eg
  split at eg
  · rename_i hz
    cases eg
    obtain ⟨as, r1⟩ := DD.reads I d x v (hd.up sb) rx
    obtain ⟨bs, r2⟩ := DD.reads I e y u (he.up sb) ry
    have z1 := (Bool.and_eq_true_iff.mp hz).1
    have z2 := (Bool.and_eq_true_iff.mp hz).2
    have fin : EP X pins σ Q (.bool (xs.any fun y => PyData.eqv y d)) s := ⟨.bl _, H, I, rfl, by
      have q := k _ _ (NewR.old (.bl (xor false (xs.any fun y => PyData.eqv y d))))
      rw [Bool.false_xor] at q
      exact q⟩
    cases e with
    | list ys =>
      cases e1
      exact SeqAt.in_list_reads r2 r1 z1 (SeqAt.canLay_of_shaped z2) (room_in_shaped z2 hu) fin
    | tuple ys =>
      cases e1
      exact SeqAt.in_tuple_reads r2 r1 z1 (SeqAt.canLay_of_shaped z2) (room_in_shaped z2 hu) fin
    | none => cases e1
    | bool _ => cases e1
    | int _ => cases e1
    | str _ => cases e1
    | dict _ => cases e1
  · cases eg
theorem dop_notin (hu : X.A.units + 65 < cLine) : OpR X (compareOp .NotIn) (rD X.K (gIn true)) := by
  intro pins s σ H x y v u Q I rx ry h
  obtain ⟨B, d, e, r, sb, hd, he, eg, k⟩ := h
  obtain ⟨xs, e1, eg⟩ := bind_some eg
  split at eg
  · rename_i hz
    cases eg
    obtain ⟨as, r1⟩ := DD.reads I d x v (hd.up sb) rx
    obtain ⟨bs, r2⟩ := DD.reads I e y u (he.up sb) ry
    have z1 := (Bool.and_eq_true_iff.mp hz).1
    have z2 := (Bool.and_eq_true_iff.mp hz).2
    have fin : EP X pins σ Q (.bool (!xs.any fun y => PyData.eqv y d)) s := ⟨.bl _, H, I, rfl, by
      have q := k _ _ (NewR.old (.bl (xor true (xs.any fun y => PyData.eqv y d))))
      rw [Bool.true_xor] at q
      exact q⟩
    cases e with
    | list ys =>
      cases e1
      exact SeqAt.notIn_list_reads r2 r1 z1 (SeqAt.canLay_of_shaped z2) (room_in_shaped z2 hu) fin
    | tuple ys =>
      cases e1
      exact SeqAt.notIn_tuple_reads r2 r1 z1 (SeqAt.canLay_of_shaped z2) (room_in_shaped z2 hu) fin
    | none => cases e1
    | bool _ => cases e1
    | int _ => cases e1
    | str _ => cases e1
    | dict _ => cases e1
  · cases eg

/-! ### names and constants -/
def eK (d : PyData) : EM := fun ρ => some (.d d, ρ)
theorem tC_of {K : PySem.W.Frag} {v : V} {d : PyData} (hd : ∀ B, DD K B v d) : ∀ σ H Q, tD K (eK d) σ H Q → tC v σ H Q := fun σ H Q ⟨F, B, pa, ρ, r, ρ', S, e, k⟩ => by
  cases e
  exact k v B H S (Same.refl _) (hd B)
theorem de_int {i j pos} : DE X (.Constant (.int i) j pos) (eK (.int i)) := PE.imp pe_int (tC_of fun B => .int i)
theorem de_bl {b j pos} : DE X (.Constant (.bool b) j pos) (eK (.bool b)) := PE.imp pe_bl (tC_of fun B => .bl b)
theorem de_non {j pos} : DE X (.Constant .none j pos) (eK .none) := PE.imp pe_non (tC_of fun B => .non)
theorem de_str {x j pos} : DE X (.Constant (.str x) j pos) (eK (.str x)) := PE.imp pe_str (tC_of fun B => .str x)
/-- a module's int -/
theorem de_globI {x : Str} {i : Int} {t : Tok} {pos : Pos} (hg : Gl X x) (hm : X.mg x = some (.int i t)) (hd : (x == ("__debug__" : Str)) = false := by decide) : DE X (.Name x pos) (eK (.int i)) := PE.imp (pe_glob (v := .int i) hg hm ⟨_, rfl⟩ hd) (tC_of fun B => .int i)

/-- a slot's value as data; a list of its own is data from then on -/
def eVar (i : Nat) : EM := fun ρ => match ρ[i]? with
  | some (.d x) => some (.d x, ρ)
  | some (.l xs) => some (.d (.list xs), ρ.set i (.d (.list xs)))
  | _ => none
section
variable {K : PySem.W.Frag} {F B B' H H' : Hp} {pa : Nat → Option Addr} {σ : L2.St} {ρ : Rho} {v : V}
theorem CellAt.set {ρ : Rho} {σ : L2.St} {i j : Nat} {a : Addr} {s : Sl} (h : CellAt (ρ.set i s) σ j a) : (j = i ∧ s.cell = true ∧ σ[j]? = some (some (.ref a))) ∨ (j ≠ i ∧ CellAt ρ σ j a) := by
  obtain ⟨t, e, c, z⟩ := h
  by_cases hj : j = i
  · subst hj
    have hl : j < ρ.length := by
      obtain ⟨hl, _⟩ := List.getElem?_eq_some_iff.mp e
      simpa using hl
    rw [List.getElem?_set_self hl] at e
    cases e
    exact .inl ⟨rfl, c, z⟩
  · rw [List.getElem?_set_ne (Ne.symm hj)] at e
    exact .inr ⟨hj, t, e, c, z⟩
/-- a slot's own list becomes data -/
theorem StR.frz (S : StR K F B pa σ H ρ) {i : Nat} {xs : List PyData} (e : ρ[i]? = some (.l xs)) : ∃ B' v, Same B B' ∧ σ[i]? = some (some v) ∧ DD K B' v (.list xs) ∧ StR K F B' pa σ H (ρ.set i (.d (.list xs))) := by
  obtain ⟨a, vs, h1, h2, h3, h4, h5⟩ := S.sl i _ e
  have ca : CellAt ρ σ i a := ⟨_, e, rfl, h1⟩
  have sB := same_new (o := .lst vs) h2
  refine ⟨upd B a (.lst vs), .ref a, sB, h1, .lst upd_same (h5.up sB), ⟨by simp [S.len], same_both S.sb h4, S.sf, fun q hq => ?_, fun j s es => ?_, fun j k b c1 c2 => ?_⟩⟩
  · rw [upd_ne (fun z => hq (by rw [z]; exact h3))]
    exact S.fb q hq
  · by_cases hj : j = i
    · subst hj
      have hl : j < ρ.length := (List.getElem?_eq_some_iff.mp e).1
      rw [List.getElem?_set_self hl] at es
      cases es
      exact ⟨_, h1, .lst upd_same (h5.up sB)⟩
    · rw [List.getElem?_set_ne (Ne.symm hj)] at es
      refine (S.sl j s es).keep sB fun b c z => ⟨?_, rfl⟩
      have cb : CellAt ρ σ j b := ⟨s, es, c, z⟩
      rw [upd_ne (fun q => hj (S.ds j i a (by rw [← q]; exact cb) ca))]
      exact (S.cellB cb).1
  · rcases c1.set with ⟨_, z, _⟩ | ⟨_, c1⟩
    · cases z
    · rcases c2.set with ⟨_, z, _⟩ | ⟨_, c2⟩
      · cases z
      · exact S.ds j k b c1 c2
end
theorem tVar_of {K : PySem.W.Frag} {i : Nat} : ∀ σ H Q, tD K (eVar i) σ H Q → tVar i σ H Q := fun σ H Q ⟨F, B, pa, ρ, r, ρ', S, e, k⟩ => by
  unfold eVar at e
  split at e
  · rename_i x hx
    cases e
    obtain ⟨v, h1, h2⟩ := S.sl i _ hx
    exact ⟨v, h1, k v B H S (Same.refl _) h2⟩
  · rename_i xs hx
    cases e
    obtain ⟨B', v, s1, h1, h2, S'⟩ := S.frz hx
    exact ⟨v, h1, k v B' H S' s1 h2⟩
  · cases e
theorem de_var (i : Nat) {x : Str} {pos : Pos} (hN : X.N[i]? = some x := by rfl) (hv : Vis X.env.scope x := by first | exact Or.inl rfl | exact Or.inr (Or.inl rfl) | exact Or.inr (Or.inr rfl)) (hd : (x == ("__debug__" : Str)) = false := by decide)
    (hcd : (x == ("__classdict__" : Str)) = false := by decide) : DE X (.Name x pos) (eVar i) := PE.imp (pe_var hN hv hd hcd) tVar_of

/-! ### arguments -/
abbrev AM := Rho → Option (List PyData × Rho)
def tDA (K : PySem.W.Frag) (f : AM) : TA := fun σ H Q => ∃ F B pa ρ ds ρ', StR K F B pa σ H ρ ∧ f ρ = some (ds, ρ') ∧ ∀ vs B' H', StR K F B' pa σ H' ρ' → Same B B' → DDs K B' vs ds → Q vs H'
abbrev DA (X : Cx) (es : List Expr) (f : AM) : Prop := PA X es (tDA X.K f)
theorem PA.imp {X : Cx} {es : List Expr} {t t' : TA} (h : PA X es t) (i : ∀ σ H Q, t' σ H Q → t σ H Q) : PA X es t' := ⟨fun pos pins s σ H Q I hw => h.run pos pins s σ H Q I (i σ H Q hw)⟩
def aNil : AM := fun ρ => some ([], ρ)
def aCons (f : EM) (g : AM) : AM := fun ρ => (f ρ).bind fun a => (g a.2).map fun b => (a.1.data :: b.1, b.2)
theorem da_nil : DA X [] aNil := PA.imp pa_nil fun σ H Q ⟨F, B, pa, ρ, ds, ρ', S, e, k⟩ => by
  cases e
  exact k [] B H S (Same.refl _) .nil
theorem da_cons {e : Expr} {es : List Expr} {f : EM} {g : AM} (ha : DE X e f) (hr : DA X es g) (hs : starEach (e :: es) X.env = (false, eval e X.env) :: starEach es X.env := by rfl) : DA X (e :: es) (aCons f g) :=
  PA.imp (pa_cons ha hr hs) fun σ H Q ⟨F, B, pa, ρ, ds, ρ', S, e, k⟩ => by
    obtain ⟨⟨r1, ρ1⟩, e1, e⟩ := bind_some e
    obtain ⟨⟨es, ρ2⟩, e2, e⟩ := map_some e
    cases e
    refine tD_take S e1 fun v B1 H1 S1 s1 d1 => ⟨F, B1, pa, ρ1, es, _, S1, e2, fun vs B2 H2 S2 s2 d2 => ?_⟩
    exact k _ B2 H2 S2 (s1.trans s2) (.cons (d1.up s2) d2)
/-- a built-in on arguments -/
def eApp (G : List PyData → Option Rs) (f : AM) : EM := fun ρ => (f ρ).bind fun a => (G a.1).map fun r => (r, a.2)
theorem tCB_of {K : PySem.W.Frag} {G : List PyData → Option Rs} {f : AM} : ∀ σ H Q, tD K (eApp G f) σ H Q → tCB (rCD K G) (tDA K f) σ H Q := fun σ H Q ⟨F, B, pa, ρ, r, ρ', S, e, k⟩ => by
  obtain ⟨⟨ds, ρ1⟩, e1, e⟩ := bind_some e
  obtain ⟨r', e2, e⟩ := map_some e
  cases e
  refine ⟨F, B, pa, ρ, ds, _, S, e1, fun vs B1 H1 S1 s1 d1 => ⟨B1, ds, r, S1.sb, d1, e2, fun v H2 n => ?_⟩⟩
  obtain ⟨B2, S2, s2, q2⟩ := n.back S1
  exact k v B2 H2 S2 (s1.trans s2) q2
section
variable {x : Str} {p pos : Pos} {e : Expr} {es : List Expr} {f : AM} {G : List PyData → Option Rs} {id T : String}
theorem de_callB (hc : CallR X (.builtin id) (rCD X.K G)) (hg : Gl X x) (hm : X.mg x = none) (hv : bootBuiltins x = some (.builtin id)) (ha : DA X (e :: es) f) (hn : x ≠ "__name__" := by decide) (hdb : (x == ("__debug__" : Str)) = false := by decide)
    (he : starEach (e :: es) X.env = (false, eval e X.env) :: starEach es X.env := by rfl) (hpl : (backTo pos (starEach es X.env)).any (·.1) = false := by rfl) : DE X (.Call (.Name x p) (e :: es) [] pos) (eApp G f) :=
  PE.imp (pe_callB hc hg hm hv ha hn hdb he hpl) tCB_of
theorem de_callTy (hc : CallR X (.type T) (rCD X.K G)) (hg : Gl X x) (hm : X.mg x = none) (hv : bootBuiltins x = some (.type T)) (ha : DA X (e :: es) f) (hn : x ≠ "__name__" := by decide) (hdb : (x == ("__debug__" : Str)) = false := by decide)
    (he : starEach (e :: es) X.env = (false, eval e X.env) :: starEach es X.env := by rfl) (hpl : (backTo pos (starEach es X.env)).any (·.1) = false := by rfl) : DE X (.Call (.Name x p) (e :: es) [] pos) (eApp G f) :=
  PE.imp (pe_callTy hc hg hm hv ha hn hdb he hpl) tCB_of
end
/-! ### displays -/
def gTup (ds : List PyData) : Option Rs := if ds.length ≤ sizeLine then some (.d (.tuple ds)) else none
def gLst (ds : List PyData) : Option Rs := if ds.length ≤ sizeLine then some (.l ds) else none
theorem de_tup {es : List Expr} {k : Nat} {pos : Pos} {f : AM} (h : DA X es f) : DE X (.Tuple es k pos) (eApp gTup f) := PE.imp (pe_tup h) fun σ H Q ⟨F, B, pa, ρ, r, ρ', S, e, k⟩ => by
  obtain ⟨⟨ds, ρ1⟩, e1, e⟩ := bind_some e
  obtain ⟨r', e2, e⟩ := map_some e
  cases e
  refine ⟨F, B, pa, ρ, ds, _, S, e1, fun vs B1 H1 S1 s1 d1 => ?_⟩
  unfold gTup at e2
  split at e2
  · rename_i hz
    cases e2
    refine ⟨by rw [d1.length]; exact hz, fun q n => ?_⟩
    obtain ⟨B2, S2, s2, q2⟩ := (NewR.tup n d1).back S1
    exact k _ B2 _ S2 (s1.trans s2) q2
  · cases e2
theorem de_lst {es : List Expr} {pos : Pos} {f : AM} (h : DA X es f) : DE X (.List es pos) (eApp gLst f) := PE.imp (pe_lst h) fun σ H Q ⟨F, B, pa, ρ, r, ρ', S, e, k⟩ => by
  obtain ⟨⟨ds, ρ1⟩, e1, e⟩ := bind_some e
  obtain ⟨r', e2, e⟩ := map_some e
  cases e
  refine ⟨F, B, pa, ρ, ds, _, S, e1, fun vs B1 H1 S1 s1 d1 => ?_⟩
  unfold gLst at e2
  split at e2
  · rename_i hz
    cases e2
    refine ⟨by rw [d1.length]; exact hz, fun q n => ?_⟩
    obtain ⟨B2, S2, s2, q2⟩ := (NewR.lst n d1).back S1
    exact k _ B2 _ S2 (s1.trans s2) q2
  · cases e2
/-! ### tests -/
abbrev TM := Rho → Option (Bool × Rho)
def tDT (K : PySem.W.Frag) (f : TM) : TT := fun σ H Q => ∃ F B pa ρ b ρ', StR K F B pa σ H ρ ∧ f ρ = some (b, ρ') ∧ ∀ B' H', StR K F B' pa σ H' ρ' → Same B B' → Q b H'
abbrev DT (X : Cx) (e : Expr) (f : TM) : Prop := PT X e (tDT X.K f)
abbrev DW (X : Cx) (e : Expr) (f : TM) : Prop := PW X e (tDT X.K f)
theorem PW.imp {X : Cx} {e : Expr} {t t' : TT} (h : PW X e t) (i : ∀ σ H Q, t' σ H Q → t σ H Q) : PW X e t' := ⟨fun w pins s σ H Q I hw => h.run w pins s σ H Q I (i σ H Q hw)⟩
def boolOf : PyData → Option Bool
  | .bool b => some b
  | _ => none
def tVal (f : EM) : TM := fun ρ => (f ρ).bind fun a => (boolOf a.1.data).map fun b => (b, a.2)
theorem boolOf_eq {d : PyData} {b : Bool} (h : boolOf d = some b) : d = .bool b := by
  cases d with
  | bool c => cases h; rfl
  | none => cases h
  | int _ => cases h
  | str _ => cases h
  | list _ => cases h
  | tuple _ => cases h
  | dict _ => cases h
theorem dt_val {e : Expr} {f : EM} (he : DE X e f) (hs : ∀ whole, isTrue e X.env whole = (do let v ← whole; standAt e.pos; holding [v] (truthy v)) := by intro _; rfl) : DT X e (tVal f) :=
  PT.imp (pt_val he hs) fun σ H Q ⟨F, B, pa, ρ, b, ρ', S, e, k⟩ => by
    obtain ⟨⟨r, ρ1⟩, e1, e⟩ := bind_some e
    obtain ⟨b', e2, e⟩ := map_some e
    cases e
    refine tD_take S e1 fun v B1 H1 S1 s1 d1 => ?_
    have d1 : DD X.K B1 v r.data := d1
    rw [boolOf_eq e2] at d1
    cases d1
    exact ⟨_, rfl, k B1 H1 S1 s1⟩
end
end DL
end PDL3
section PDL4
/-! Expressions: chains, and, or, not, if .. else, a look that changes nothing, subscripts, slices. -/
namespace DL
open PySem PySem.Spec PyProof.Rows L2

section
variable {X : Cx} {a b c : Expr} {f g h : EM} {pos : Pos} {G G' : PyData → PyData → Option Rs}
theorem tChain_of {K : PySem.W.Frag} : ∀ σ H Q, tD K (eChain G G' f g h) σ H Q → tChain (rD K G) (rD K G') (tD K f) (tD K g) (tD K h) σ H Q := fun σ H Q ⟨F, B, pa, ρ, r, ρ', S, e, k⟩ => by
  obtain ⟨⟨r1, ρ1⟩, e1, e⟩ := bind_some e
  obtain ⟨⟨r2, ρ2⟩, e2, e⟩ := bind_some e
  obtain ⟨r3, e3, e⟩ := bind_some e
  refine tD_take S e1 fun v B1 H1 S1 s1 d1 => tD_take S1 e2 fun w B2 H2 S2 s2 d2 => ?_
  refine ⟨B2, _, _, r3, S2.sb, d1.up s2, d2, e3, fun z H3 n => ?_⟩
  obtain ⟨B3, S3, s3, q3⟩ := n.back S2
  cases r3 with
  | l xs => cases e
  | d x =>
    cases x with
    | bool t =>
      cases q3
      refine ⟨t, rfl, ?_⟩
      cases t with
      | false =>
        cases e
        rw [if_neg Bool.false_ne_true]
        exact k _ B3 H3 S3 (s1.trans (s2.trans s3)) (.bl false)
      | true =>
        rw [if_pos rfl]
        obtain ⟨⟨r4, ρ4⟩, e4, e⟩ := bind_some e
        obtain ⟨r5, e5, e⟩ := map_some e
        cases e
        refine tD_take S3 e4 fun y B4 H4 S4 s4 d4 => ⟨B4, _, _, r, S4.sb, d2.up (s3.trans s4), d4, e5, fun z' H5 n' => ?_⟩
        obtain ⟨B5, S5, s5, q5⟩ := n'.back S4
        exact k z' B5 H5 S5 (s1.trans (s2.trans (s3.trans (s4.trans s5)))) q5
    | none => cases e
    | int _ => cases e
    | str _ => cases e
    | list _ => cases e
    | tuple _ => cases e
    | dict _ => cases e
theorem de_chain {op op' : CmpOp} (ho : OpR X (compareOp op) (rD X.K G)) (ho' : OpR X (compareOp op') (rD X.K G')) (ha : DE X a f) (hb : DE X b g) (hc : DE X c h) (hm : lastMarks [op, op'] [b, c] = false := by with_unfolding_all rfl) :
    DE X (.Compare a [op, op'] [b, c] pos) (eChain G G' f g h) := PE.imp (pe_chain ho ho' ha hb hc hm) tChain_of
theorem tTest_of {K : PySem.W.Frag} {t : TE} {f : EM} (i : ∀ σ H Q, tD K f σ H Q → t σ H Q) : ∀ σ H Q, tDT K (tVal f) σ H Q → tTest t σ H Q := fun σ H Q ⟨F, B, pa, ρ, b, ρ', S, e, k⟩ => by
  obtain ⟨⟨r, ρ1⟩, e1, e⟩ := bind_some e
  obtain ⟨b', e2, e⟩ := map_some e
  cases e
  refine i σ H _ (tD_take S e1 fun v B1 H1 S1 s1 d1 => ?_)
  have d1 : DD K B1 v r.data := d1
  rw [boolOf_eq e2] at d1
  cases d1
  exact ⟨_, rfl, k B1 H1 S1 s1⟩
theorem dt_chain {op op' : CmpOp} (ho : OpR X (compareOp op) (rD X.K G)) (ho' : OpR X (compareOp op') (rD X.K G')) (ha : DE X a f) (hb : DE X b g) (hc : DE X c h) (hm : lastMarks [op, op'] [b, c] = false := by with_unfolding_all rfl) :
    DT X (.Compare a [op, op'] [b, c] pos) (tVal (eChain G G' f g h)) := PT.imp (pt_chain ho ho' ha hb hc hm) (tTest_of tChain_of)
theorem dt_cmp {op : CmpOp} (ho : OpR X (compareOp op) (rD X.K G)) (ha : DE X a f) (hb : DE X b g) (hm : behindInMarks op b = false) : DT X (.Compare a [op] [b] pos) (tVal (eBin G f g)) := PT.imp (pt_cmpR ho ha hb hm) (tTest_of fun _ _ _ => tOp_of)

/-! ### and, or, not -/
def eAnd (f g : EM) : EM := fun ρ => (f ρ).bind fun a => match a.1.data with
  | .bool true => g a.2
  | .bool false => some (.d (.bool false), a.2)
  | _ => none
def eOr (f g : EM) : EM := fun ρ => (f ρ).bind fun a => match a.1.data with
  | .bool false => g a.2
  | .bool true => some (.d (.bool true), a.2)
  | _ => none
def eNot (f : EM) : EM := fun ρ => (f ρ).bind fun a => match a.1.data with
  | .bool b => some (.d (.bool (!b)), a.2)
  | _ => none
theorem de_one {op : BoolOp} (ha : DE X a f) : DE X (.BoolOp op [a] pos) f := pe_one ha
theorem de_and {rest : List Expr} (ha : DE X a f) (hb : DE X (.BoolOp .And (b :: rest) pos) g) : DE X (.BoolOp .And (a :: b :: rest) pos) (eAnd f g) := PE.imp (pe_and ha hb) fun σ H Q ⟨F, B, pa, ρ, r, ρ', S, e, k⟩ => by
  obtain ⟨⟨r1, ρ1⟩, e1, e⟩ := bind_some e
  refine tD_take S e1 fun v B1 H1 S1 s1 d1 => ?_
  have d1 : DD X.K B1 v r1.data := d1
  change (match r1.data with | .bool true => g ρ1 | .bool false => some (.d (.bool false), ρ1) | _ => none) = some (r, ρ') at e
  split at e
  · rename_i hz
    rw [hz] at d1
    cases d1
    refine ⟨true, rfl, ?_⟩
    rw [if_pos rfl]
    exact ⟨F, B1, pa, ρ1, r, ρ', S1, e, fun w B2 H2 S2 s2 q2 => k w B2 H2 S2 (s1.trans s2) q2⟩
  · rename_i hz
    rw [hz] at d1
    cases d1
    cases e
    refine ⟨false, rfl, ?_⟩
    rw [if_neg Bool.false_ne_true]
    exact k _ B1 H1 S1 s1 (.bl false)
  · cases e
theorem de_or {rest : List Expr} (ha : DE X a f) (hb : DE X (.BoolOp .Or (b :: rest) pos) g) : DE X (.BoolOp .Or (a :: b :: rest) pos) (eOr f g) := PE.imp (pe_or ha hb) fun σ H Q ⟨F, B, pa, ρ, r, ρ', S, e, k⟩ => by
  obtain ⟨⟨r1, ρ1⟩, e1, e⟩ := bind_some e
  refine tD_take S e1 fun v B1 H1 S1 s1 d1 => ?_
  have d1 : DD X.K B1 v r1.data := d1
  change (match r1.data with | .bool false => g ρ1 | .bool true => some (.d (.bool true), ρ1) | _ => none) = some (r, ρ') at e
  split at e
  · rename_i hz
    rw [hz] at d1
    cases d1
    refine ⟨false, rfl, ?_⟩
    rw [if_neg Bool.false_ne_true]
    exact ⟨F, B1, pa, ρ1, r, ρ', S1, e, fun w B2 H2 S2 s2 q2 => k w B2 H2 S2 (s1.trans s2) q2⟩
  · rename_i hz
    rw [hz] at d1
    cases d1
    cases e
    refine ⟨true, rfl, ?_⟩
    rw [if_pos rfl]
    exact k _ B1 H1 S1 s1 (.bl true)
  · cases e
theorem de_not (ha : DE X a f) : DE X (.UnaryOp .Not a pos) (eNot f) := PE.imp (pe_not ha) fun σ H Q ⟨F, B, pa, ρ, r, ρ', S, e, k⟩ => by
  obtain ⟨⟨r1, ρ1⟩, e1, e⟩ := bind_some e
  refine tD_take S e1 fun v B1 H1 S1 s1 d1 => ?_
  have d1 : DD X.K B1 v r1.data := d1
  change (match r1.data with | .bool b => some (.d (.bool (!b)), ρ1) | _ => none) = some (r, ρ') at e
  split at e
  · rename_i hz
    rw [hz] at d1
    cases d1
    cases e
    exact ⟨_, rfl, k _ B1 H1 S1 s1 (.bl _)⟩
  · cases e
def tAnd2 (f g : TM) : TM := fun ρ => (f ρ).bind fun a => if a.1 = true then g a.2 else some (false, a.2)
def tOr2 (f g : TM) : TM := fun ρ => (f ρ).bind fun a => if a.1 = true then some (true, a.2) else g a.2
def tNot2 (f : TM) : TM := fun ρ => (f ρ).map fun a => (!a.1, a.2)
section
variable {f g : TM} {rest : List Expr}
theorem dw_and1 (ha : DT X a f) : DW X (.BoolOp .And [a] pos) f := pw_and1 ha
theorem dw_or1 (ha : DT X a f) : DW X (.BoolOp .Or [a] pos) f := pw_or1 ha
theorem dw_and (ha : DT X a f) (hb : DW X (.BoolOp .And (b :: rest) pos) g) : DW X (.BoolOp .And (a :: b :: rest) pos) (tAnd2 f g) := PW.imp (pw_and ha hb) fun σ H Q ⟨F, B, pa, ρ, c, ρ', S, e, k⟩ => by
  obtain ⟨⟨c1, ρ1⟩, e1, e⟩ := bind_some e
  refine ⟨F, B, pa, ρ, c1, ρ1, S, e1, fun B1 H1 S1 s1 => ?_⟩
  cases c1 with
  | true =>
    rw [if_pos rfl]
    exact ⟨F, B1, pa, ρ1, c, ρ', S1, e, fun B2 H2 S2 s2 => k B2 H2 S2 (s1.trans s2)⟩
  | false =>
    cases e
    rw [if_neg Bool.false_ne_true]
    exact k B1 H1 S1 s1
theorem dw_or (ha : DT X a f) (hb : DW X (.BoolOp .Or (b :: rest) pos) g) : DW X (.BoolOp .Or (a :: b :: rest) pos) (tOr2 f g) := PW.imp (pw_or ha hb) fun σ H Q ⟨F, B, pa, ρ, c, ρ', S, e, k⟩ => by
  obtain ⟨⟨c1, ρ1⟩, e1, e⟩ := bind_some e
  refine ⟨F, B, pa, ρ, c1, ρ1, S, e1, fun B1 H1 S1 s1 => ?_⟩
  cases c1 with
  | true =>
    cases e
    rw [if_pos rfl]
    exact k B1 H1 S1 s1
  | false =>
    rw [if_neg Bool.false_ne_true]
    exact ⟨F, B1, pa, ρ1, c, ρ', S1, e, fun B2 H2 S2 s2 => k B2 H2 S2 (s1.trans s2)⟩
theorem dt_not (ha : DT X a f) : DT X (.UnaryOp .Not a pos) (tNot2 f) := PT.imp (pt_not ha) fun σ H Q ⟨F, B, pa, ρ, c, ρ', S, e, k⟩ => by
  obtain ⟨⟨c1, ρ1⟩, e1, e⟩ := map_some e
  cases e
  exact ⟨F, B, pa, ρ, c1, _, S, e1, fun B1 H1 S1 s1 => k B1 H1 S1 s1⟩
end
/-! ### a if t else b -/
def eIf (t : TM) (f g : EM) : EM := fun ρ => (t ρ).bind fun a => if a.1 = true then f a.2 else g a.2
theorem de_if {t : TM} (hc : DT X c t) (ha : DE X a f) (hb : DE X b g) : DE X (.IfExp c a b pos) (eIf t f g) := PE.imp (pe_ifExp hc ha hb) fun σ H Q ⟨F, B, pa, ρ, r, ρ', S, e, k⟩ => by
  obtain ⟨⟨c1, ρ1⟩, e1, e⟩ := bind_some e
  refine ⟨F, B, pa, ρ, c1, ρ1, S, e1, fun B1 H1 S1 s1 => ?_⟩
  cases c1 with
  | true =>
    rw [if_pos rfl]
    exact ⟨F, B1, pa, ρ1, r, ρ', S1, e, fun w B2 H2 S2 s2 q2 => k w B2 H2 S2 (s1.trans s2) q2⟩
  | false =>
    rw [if_neg Bool.false_ne_true]
    exact ⟨F, B1, pa, ρ1, r, ρ', S1, e, fun w B2 H2 S2 s2 q2 => k w B2 H2 S2 (s1.trans s2) q2⟩
/-! ### -a -/
def eNeg (f : EM) : EM := fun ρ => (f ρ).bind fun a => match a.1.data with
  | .int i => some (.d (.int (-i)), a.2)
  | _ => none
theorem de_neg (ha : DE X a f) : DE X (.UnaryOp .USub a pos) (eNeg f) := PE.imp (pe_un un_neg ha) fun σ H Q ⟨F, B, pa, ρ, r, ρ', S, e, k⟩ => by
  obtain ⟨⟨r1, ρ1⟩, e1, e⟩ := bind_some e
  refine tD_take S e1 fun v B1 H1 S1 s1 d1 => ?_
  have d1 : DD X.K B1 v r1.data := d1
  change (match r1.data with | .int i => some (.d (.int (-i)), ρ1) | _ => none) = some (r, ρ') at e
  split at e
  · rename_i hz
    rw [hz] at d1
    cases d1
    cases e
    exact ⟨_, rfl, k _ B1 H1 S1 s1 (.int _)⟩
  · cases e
end

/-! ### a look: own lists are read as data, nothing is kept of it but a plain answer -/
def scalarD : PyData → Bool
  | .none => true
  | .bool _ => true
  | .int _ => true
  | .str _ => true
  | _ => false
def lookSl : Sl → Sl
  | .l xs => .d (.list xs)
  | .p xs => .d (.list xs)
  | .k _ _ => .u
  | s => s
def look (f : EM) : EM := fun ρ => (f (ρ.map lookSl)).bind fun a => match a.1 with
  | .d x => if scalarD x = true then some (.d x, ρ) else none
  | _ => none
theorem DD.scalar {K : PySem.W.Frag} {B B' : Hp} {v : V} {d : PyData} (h : DD K B v d) (s : scalarD d = true) : DD K B' v d := by
  cases h with
  | non => exact .non
  | bl b => exact .bl b
  | int i => exact .int i
  | str x => exact .str x
  | lst _ _ => cases s
  | tup _ _ => cases s
  | nod _ => cases s
section
open Classical
variable {K : PySem.W.Frag} {F B B' H H' : Hp} {pa : Nat → Option Addr} {σ : L2.St} {ρ : Rho} {v : V}
/-- the own lists' objects; the own dicts' objects -/
noncomputable def ownL (ρ : Rho) (σ : L2.St) (H : Hp) : Hp := fun q => if ∃ (i : Nat) (s : Sl), ρ[i]? = some s ∧ ((∃ xs, s = .l xs) ∨ ∃ xs, s = .p xs) ∧ σ[i]? = some (some (V.ref q)) then H q else none
noncomputable def ownK (ρ : Rho) (σ : L2.St) (H : Hp) : Hp := fun q => if ∃ (i : Nat) (t : Bool) (kvs : List (PyData × PyData)), ρ[i]? = some (Sl.k t kvs) ∧ σ[i]? = some (some (V.ref q)) then H q else none
noncomputable def plusH (A C : Hp) : Hp := fun q => if A q = none then C q else A q
theorem plus_same {A C : Hp} : Same A (plusH A C) := fun q o e => by
  unfold plusH
  rw [if_neg (by rw [e]; simp)]
  exact e
theorem plus_right {A C : Hp} (d : ∀ q, C q ≠ none → A q = none) : Same C (plusH A C) := fun q o e => by
  unfold plusH
  rw [if_pos (d q (by rw [e]; simp))]
  exact e
theorem plus_le {A C H : Hp} (a : Same A H) (c : Same C H) : Same (plusH A C) H := fun q o e => by
  unfold plusH at e
  split at e
  · exact c q o e
  · exact a q o e
theorem plus_none {A C : Hp} {q : Addr} : plusH A C q = none ↔ A q = none ∧ C q = none := by
  unfold plusH
  by_cases h : A q = none
  · rw [if_pos h]; simp [h]
  · rw [if_neg h]; simp [h]
theorem ownL_le : Same (ownL ρ σ H) H := fun q o e => by
  unfold ownL at e
  split at e
  · exact e
  · cases e
theorem ownK_le : Same (ownK ρ σ H) H := fun q o e => by
  unfold ownK at e
  split at e
  · exact e
  · cases e
theorem ownL_cell {q : Addr} (h : ownL ρ σ H q ≠ none) : ∃ (i : Nat) (s : Sl), ρ[i]? = some s ∧ ((∃ xs, s = .l xs) ∨ ∃ xs, s = .p xs) ∧ σ[i]? = some (some (V.ref q)) := by
  unfold ownL at h
  split at h
  · assumption
  · exact absurd rfl h
theorem ownK_cell {q : Addr} (h : ownK ρ σ H q ≠ none) : ∃ (i : Nat) (t : Bool) (kvs : List (PyData × PyData)), ρ[i]? = some (Sl.k t kvs) ∧ σ[i]? = some (some (V.ref q)) := by
  unfold ownK at h
  split at h
  · assumption
  · exact absurd rfl h
theorem look_ix {i : Nat} {s : Sl} (e : (ρ.map lookSl)[i]? = some s) : ∃ t, ρ[i]? = some t ∧ lookSl t = s := by
  rw [List.getElem?_map] at e
  cases q : ρ[i]? with
  | none => rw [q] at e; cases e
  | some t => rw [q] at e; exact ⟨t, rfl, Option.some.inj e⟩
/-- the state at a look -/
theorem StR.look (S : StR K F B pa σ H ρ) : StR K (plusH F (ownK ρ σ H)) (plusH B (ownL ρ σ H)) pa σ H (ρ.map lookSl) := by
  have lB : ∀ q, ownL ρ σ H q ≠ none → B q = none := fun q h => by
    obtain ⟨i, s, e, hs, c⟩ := ownL_cell h
    exact (S.cellB (i := i) ⟨s, e, by rcases hs with ⟨_, rfl⟩ | ⟨_, rfl⟩ <;> rfl, c⟩).1
  refine ⟨by rw [List.length_map]; exact S.len, plus_le S.sb ownL_le, plus_le S.sf ownK_le, fun q hq => ?_, fun i s e => ?_, fun i j a c1 c2 => ?_⟩
  · rw [plus_none]
    by_cases hF : F q = none
    · have hk : ownK ρ σ H q ≠ none := fun z => hq (plus_none.mpr ⟨hF, z⟩)
      obtain ⟨i, t, kvs, e, c⟩ := ownK_cell hk
      have ci : CellAt ρ σ i q := ⟨_, e, rfl, c⟩
      refine ⟨(S.cellB ci).1, Classical.byContradiction fun z => ?_⟩
      obtain ⟨j, s, e', hs, c'⟩ := ownL_cell z
      have cj : CellAt ρ σ j q := ⟨s, e', by rcases hs with ⟨_, rfl⟩ | ⟨_, rfl⟩ <;> rfl, c'⟩
      have ij := S.ds i j q ci cj
      subst ij
      rw [e] at e'
      cases e'
      rcases hs with ⟨_, z⟩ | ⟨_, z⟩ <;> cases z
    · refine ⟨S.fb q hF, Classical.byContradiction fun z => ?_⟩
      obtain ⟨j, s, e', hs, c'⟩ := ownL_cell z
      have cj : CellAt ρ σ j q := ⟨s, e', by rcases hs with ⟨_, rfl⟩ | ⟨_, rfl⟩ <;> rfl, c'⟩
      exact hF (S.cellB cj).2.1
  · obtain ⟨t, e1, e2⟩ := look_ix e
    subst e2
    have q := S.sl i t e1
    cases t with
    | u => trivial
    | d x => obtain ⟨v, h1, h2⟩ := q; exact ⟨v, h1, h2.up plus_same⟩
    | l xs =>
      obtain ⟨a, vs, h1, h2, h3, h4, h5⟩ := q
      refine ⟨.ref a, h1, .lst ?_ (h5.up plus_same)⟩
      refine plus_right lB _ _ ?_
      unfold ownL
      rw [if_pos ⟨i, _, e1, .inl ⟨xs, rfl⟩, h1⟩]
      exact h4
    | p xs =>
      obtain ⟨a, vs, h0, h1, h2, h3, h4, h5⟩ := q
      refine ⟨.ref a, h1, .lst ?_ (h5.up plus_same)⟩
      refine plus_right lB _ _ ?_
      unfold ownL
      rw [if_pos ⟨i, _, e1, .inr ⟨xs, rfl⟩, h1⟩]
      exact h4
    | k t kvs => trivial
  · obtain ⟨s, e, hc, _⟩ := c1
    obtain ⟨t, e1, e2⟩ := look_ix e
    subst e2
    cases t <;> cases hc
/-- .. and behind it -/
theorem StR.looked {B1 H1 : Hp} {ρ1 : Rho} (S : StR K F B pa σ H ρ) (S1 : StR K (plusH F (ownK ρ σ H)) B1 pa σ H1 ρ1) (s1 : Same (plusH B (ownL ρ σ H)) B1) : StR K F B pa σ H1 ρ := by
  have lB : ∀ q, ownL ρ σ H q ≠ none → B q = none := fun q h => by
    obtain ⟨i, s, e, hs, c⟩ := ownL_cell h
    exact (S.cellB (i := i) ⟨s, e, by rcases hs with ⟨_, rfl⟩ | ⟨_, rfl⟩ <;> rfl, c⟩).1
  have lF : ∀ q, ownK ρ σ H q ≠ none → F q = none := fun q h => by
    obtain ⟨i, t, kvs, e, c⟩ := ownK_cell h
    exact (S.cellB (i := i) ⟨_, e, rfl, c⟩).2.1
  refine S.grow (Same.refl _) ((plus_same.trans s1).trans S1.sb) (plus_same.trans S1.sf) S.fb fun i a ⟨s, e, hc, c⟩ => ⟨(S.cellB ⟨s, e, hc, c⟩).1, ?_⟩
  have keepL : ((∃ xs, s = .l xs) ∨ ∃ xs, s = .p xs) → H1 a = H a := fun hs => by
    cases z : H a with
    | none => exact absurd z (S.cellB ⟨s, e, hc, c⟩).2.2
    | some o =>
      refine S1.sb a o (s1 a o (plus_right lB a o ?_))
      unfold ownL
      rw [if_pos ⟨i, s, e, hs, c⟩]
      exact z
  cases s with
  | u => cases hc
  | d x => cases hc
  | l xs => exact keepL (.inl ⟨xs, rfl⟩)
  | p xs => exact keepL (.inr ⟨xs, rfl⟩)
  | k t kvs =>
    cases z : H a with
    | none => exact absurd z (S.cellB ⟨_, e, hc, c⟩).2.2
    | some o =>
      refine S1.sf a o (plus_right lF a o ?_)
      unfold ownK
      rw [if_pos ⟨i, t, kvs, e, c⟩]
      exact z
theorem look_of {f : EM} : ∀ σ H Q, tD K (look f) σ H Q → tD K f σ H Q := fun σ H Q ⟨F, B, pa, ρ, r, ρ', S, e, k⟩ => by
  obtain ⟨⟨r1, ρ1⟩, e1, e⟩ := bind_some e
  cases r1 with
  | l xs => cases e
  | d x =>
    change (if scalarD x = true then some (Rs.d x, ρ) else none) = some (r, ρ') at e
    split at e
    · rename_i hx
      cases e
      exact ⟨_, _, pa, _, _, ρ1, S.look, e1, fun v B1 H1 S1 s1 q1 => k v B H1 (S.looked S1 s1) (Same.refl _) (DD.scalar (show DD K B1 v x from q1) hx)⟩
    · cases e
end
theorem de_look {X : Cx} {e : Expr} {f : EM} (h : DE X e f) : DE X e (look f) := PE.imp h look_of
def lookT (f : TM) : TM := fun ρ => (f (ρ.map lookSl)).map fun a => (a.1, ρ)
theorem dt_look {X : Cx} {e : Expr} {f : TM} (h : DT X e f) : DT X e (lookT f) := PT.imp h fun σ H Q ⟨F, B, pa, ρ, r, ρ', S, e, k⟩ => by
  obtain ⟨⟨r1, ρ1⟩, e1, e⟩ := map_some e
  cases e
  exact ⟨_, _, pa, _, _, ρ1, S.look, e1, fun B1 H1 S1 s1 => k B H1 (S.looked S1 s1) (Same.refl _)⟩
end DL
end PDL4
section PDL5
/-! Defs: their promise by data, their calls. -/
namespace DL
open PySem PySem.Spec PyProof.Rows L2

/-! ### a def's promise where no repr is under way -/
structure FnG (P : Program) (w : World) (K : PySem.W.Frag) (mg : Str → Option Value) (base : Heap) (CX : CXT) (k : Nat) (f : Addr) (fd : FuncData) (ps : List Str) (sp : Sp) : Prop where
  len : ∀ vs H Q E, sp vs H Q E → vs.length = ps.length
  run : ∀ (A : Around) (outer : List Env) (s : Shared) (H : Hp) (args : Args) (us : List Value) (vs : List V) (Q : VK) (E : XK), A.guards = some [] → Room k A → Env0 P w K mg base A outer s H → BindsTo s fd args (ps.zip us) → Vals vs us → sp vs H Q E →
    codeAny (model P w) A (.call (.ref f) args) (CR CX outer P w H s Q E) s
theorem FnG.mono {P : Program} {w : World} {K : PySem.W.Frag} {mg : Str → Option Value} {base : Heap} {CX : CXT} {j k : Nat} {f : Addr} {fd : FuncData} {ps : List Str} {sp : Sp} (F : FnG P w K mg base CX j f fd ps sp) (h : j ≤ k) : FnG P w K mg base CX k f fd ps sp :=
  ⟨F.len, fun A outer s H args us vs Q E hg hr => F.run A outer s H args us vs Q E hg (hr.mono h)⟩
theorem FnG.imp {P : Program} {w : World} {K : PySem.W.Frag} {mg : Str → Option Value} {base : Heap} {CX : CXT} {k : Nat} {f : Addr} {fd : FuncData} {ps : List Str} {sp sp' : Sp} (F : FnG P w K mg base CX k f fd ps sp) (h : ∀ vs H Q E, sp' vs H Q E → sp vs H Q E) : FnG P w K mg base CX k f fd ps sp' :=
  ⟨fun vs H Q E q => F.len vs H Q E (h _ _ _ _ q), fun A outer s H args us vs Q E hg hr he hb hv hs => F.run A outer s H args us vs Q E hg hr he hb hv (h _ _ _ _ hs)⟩
theorem fnG_of {CX : CXT} {P : Program} {w : World} {K : PySem.W.Frag} {mg : Str → Option Value} {base : Heap} {k : Nat} {x qual : Str} {st : Stmt} {f : Addr} {fd : FuncData} {N ps : List Str} {sp : Sp} (F : Fun K x qual st f fd) (S : FnScope N ps (defScope st))
    (len : ∀ vs H Q E, sp vs H Q E → vs.length = ps.length)
    (body : ∀ (cdv : Value) (A : Around) (outer : List Env) (s : Shared) (H : Hp) (vs : List V) (Q : VK) (E : XK), A.guards = some [] → Room k (A.deeper (envOfC qual (defScope st) s.heap.objs.size f cdv)) → sp vs H Q E →
      ∃ t, PSs (cxOf CX P w K mg base N qual (defScope st) f cdv A outer s H E) (defBody st) t ∧ t { nx := fun _ H' => Q .non H', rt := Q } (start N vs) H) : FnG P w K mg base CX (k + 1) f fd ps sp := by
  obtain ⟨oc, od, kV, doc, pm, an, cdv, ct, osl, e, lk, hcd⟩ := F.ex
  subst e
  refine ⟨len, fun A outer s H args us vs Q E hg hr e0 hb r hsp => ?_⟩
  have hl := len _ _ _ _ hsp
  have up : ∀ {b : Addr} {o : Obj}, base.get? b = some o → s.heap.get? b = some o := fun e => (e0.bs _ _ e).1
  have lim : s.heap.NoLimit := e0.mod.nolimit.keeps fun b o => up
  have places : ∀ y ∈ ps.zip us, (defScope st).names.lookup y.1 = some .local ∨ ((defScope st).names.lookup y.1 = some .cell ∧ ((cellsFrom (s.heap.objs.size + 1) (defScope st).names []).lookup y.1).isSome = true) := by
    rintro ⟨n, v⟩ hy
    exact (S.par n (List.of_mem_zip hy).1).imp id fun q => ⟨q, PySem.W.cellsFrom_some _ _ _ (.inl q)⟩
  refine codeAny_call_function hr.depth (e0.mod.kin.keeps (fun b o => up) _ _ lk) rfl S.co S.gen rfl (PySem.W.codeRec_of (e0.mod.kin.keeps fun b o => up) hcd) (hb _ _ _ _ ?_)
  refine wpAny_newFunctionEnv_cells S.kind places fun env he s1 new => ?_
  subst he
  refine ⟨lim.keeps new.toInCall.keep, codeAny_func ?_⟩
  obtain ⟨t, ht, hq⟩ := body cdv A outer s H vs Q E hg (hr.deeper _) hsp
  refine wpAny_mono (ht.run [] s1 (start N vs) H _ (inv_start S hr.hd e0 hl r new) hq) (fun fl s' hs => ?_) fun _ _ z => z
  cases fl with
  | ret u =>
    obtain ⟨v, σ', H', J, rv, q⟩ := hs
    exact ⟨v, H', J.os, J.bare, J.base, J.hok, rv, q⟩
  | next =>
    obtain ⟨σ', H', J, q⟩ := hs
    exact ⟨.non, H', J.os, J.bare, J.base, J.hok, rfl, q⟩
  | brk => exact hs.elim fun _ z => z.elim fun _ z => z.2.elim
  | cont => exact hs.elim fun _ z => z.elim fun _ z => z.2.elim
section
variable {X : Cx} {CX : CXT} {k : Nat} {f : Addr} {fd : FuncData} {ps ks : List Str} {sp : Sp} {dvs : List V} {ds : List Value} {E : XK} {x : Str} {p pos : Pos} {e : Expr} {es : List Expr} {t tk : TA} {kws : List Keyword} {g : List Value → List Value → List Value} {gV : List V → List V → List V}
theorem runG {pins : List (Addr × Obj)} {σ : L2.St} {H : Hp} {s : Shared} {Q : VK} {us : List Value} {vs : List V} {args : Args} (F : FnG X.prog X.w X.K X.mg X.base CX k f fd ps sp) (hg : X.A.guards = some []) (hr : Room k X.A) (hb : BindsTo s fd args (ps.zip us)) (hx : Passes CX X E)
    (I : Inv X pins σ H s) (r : Vals vs us) (h : sp vs H Q E) : codeAny (model X.prog X.w) X.A (.call (.ref f) args) (fun r s' => match r with | .ok (.ret u) => EP X pins σ Q u s' | .ok _ => False | .error e => X.xe e s') s := by
  refine codeAny_mono (F.run X.A X.stack s H args us vs Q E hg hr I.env0 hb r h) fun r s' hq => ?_
  cases r with
  | error e => exact hx pins σ H s e s' I hq
  | ok fl =>
    cases fl with
    | ret u => exact I.after hq
    | next => exact hq
    | brk => exact hq
    | cont => exact hq
/-- f(e, ..) -/
theorem peG_call (F : FnG X.prog X.w X.K X.mg X.base CX k f fd ps sp) (hgu : X.A.guards = some []) (hr : Room k X.A) (hg : Gl X x) (hm : X.mg x = some (.ref f)) (hk : PySem.W.keepIn X.K (.ref f) = true) (hb : Binds X.K fd ps ds) (hd : Vals dvs ds) (hx : Passes CX X E)
    (ha : PA X (e :: es) t) (hdb : (x == ("__debug__" : Str)) = false := by decide) (he : starEach (e :: es) X.env = (false, eval e X.env) :: starEach es X.env := by rfl) (hpl : (backTo pos (starEach es X.env)).any (·.1) = false := by rfl) :
    PE X (.Call (.Name x p) (e :: es) [] pos) (tCall sp dvs E t) := by
  refine ⟨fun pins s σ H Q I h => wpAny_Call_Name_kw (ld_glob I hg hm ?_ hdb)⟩
  refine PySem.W.callWith_K (h₀ := X.base) I.ok.mod.kin hk (thn (ha.run pos pins s σ H _ I h) fun us s1 ⟨vs, H1, I1, r, q⟩ => ⟨I1.kIn, ?_⟩) he hpl
  have r2 : Vals (vs ++ dvs) (us ++ ds) := r.append hd
  refine wpAny_call (codeAny_mono (runG F hgu hr (hb s1 us I1.kIn (by rw [← r2.length]; exact F.len _ _ _ _ q)) hx I1 r2 q) fun r s' hq => ?_)
  cases r with
  | error e => exact hq
  | ok fl => cases fl <;> exact hq
/-- f(e, .., k = v, ..) -/
theorem peG_callK (F : FnG X.prog X.w X.K X.mg X.base CX k f fd ps sp) (hgu : X.A.guards = some []) (hr : Room k X.A) (hg : Gl X x) (hm : X.mg x = some (.ref f)) (hk : PySem.W.keepIn X.K (.ref f) = true) (hb : KBinds X.K fd ps ks g gV) (hx : Passes CX X E)
    (ha : PA X (e :: es) t) (hkw : PK X kws tk) (hall : (backToKw pos (keywordEach kws X.env)).all (·.1.isSome) = true := by rfl) (hks : (backToKw pos (keywordEach kws X.env)).filterMap (·.1) = ks := by rfl)
    (hdb : (x == ("__debug__" : Str)) = false := by decide) (he : starEach (e :: es) X.env = (false, eval e X.env) :: starEach es X.env := by rfl)
    (hpl : ((backTo pos (starEach (e :: es) X.env)).any (·.1) || (backToKw pos (keywordEach kws X.env)).any (·.1.isNone)) = false := by rfl) :
    PE X (.Call (.Name x p) (e :: es) kws pos) (tCallK sp gV E t tk) := by
  refine ⟨fun pins s σ H Q I h => wpAny_Call_Name_kw (ld_glob I hg hm ?_ hdb)⟩
  refine PySem.W.callWith_KW (h₀ := X.base) I.ok.mod.kin hk hall (thn (ha.run pos pins s σ H _ I h) fun us s1 ⟨vs, H1, I1, r, q⟩ => ?_) hpl he
  refine thn (hkw.run pos pins s1 σ H1 _ I1 q) fun ws s2 ⟨zs, H2, I2, rz, q2⟩ => ⟨I2.kIn, ?_⟩
  rw [hks]
  have r2 := hb.rel r rz
  refine wpAny_call (codeAny_mono (runG F hgu hr (hb.to s2 us ws I2.kIn (by rw [← r2.length]; exact F.len _ _ _ _ q2)) hx I2 r2 q2) fun r s' hq => ?_)
  cases r with
  | error e => exact hq
  | ok fl => cases fl <;> exact hq
end

/-! ### the promise by data -/
/-- from the parameters' data (data, or lists that are changed) to the answer and what the lists hold then -/
abbrev GM := Rho → Option (Rs × Rho)
def spG (K : PySem.W.Frag) (n : Nat) (G : GM) : Sp := fun vs H Q _ => ∃ F B pa ρ r ρ', vs.length = n ∧ StR K F B pa (vs.map some) H ρ ∧ (∀ i a, pa i = some a → vs[i]? = some (V.ref a)) ∧ G ρ = some (r, ρ') ∧
  ∀ v B' H', StR K F B' pa (vs.map some) H' ρ' → Same B B' → RsR K F B' (vs.map some) H' ρ' v r → Q v H'
/-- what is left of the parameters at the end -/
def keepP : Sl → Sl
  | .p xs => .p xs
  | _ => .u
/-- the body's data, as a def's -/
def endOf (n : Nat) (r : Rs) (ρ' : Rho) : Option (Rs × Rho) := if n ≤ ρ'.length then some (r, (ρ'.take n).map keepP) else none
def ofBody (n m : Nat) (g : SM) : GM := fun ρ => (g (ρ ++ List.replicate m .u)).bind fun
  | .ret r ρ' => endOf n r ρ'
  | .nx ρ' => endOf n (.d .none) ρ'
  | _ => none
section
variable {K : PySem.W.Frag} {F B B' H H' : Hp} {pa : Nat → Option Addr} {σ : L2.St} {ρ : Rho} {v : V} {vs : List V}
theorem StR.start {N : List Str} {m : Nat} (S : StR K F B pa (vs.map some) H ρ) (hm : N.length = vs.length + m) : StR K F B pa (L2.start N vs) H (ρ ++ List.replicate m .u) := by
  have hl : ρ.length = vs.length := by rw [S.len, List.length_map]
  have at1 : ∀ i, i < vs.length → (L2.start N vs)[i]? = (vs.map some)[i]? := fun i hi => by
    unfold L2.start
    rw [List.getElem?_append_left (by simpa using hi)]
  have cell1 : ∀ i a, CellAt (ρ ++ List.replicate m .u) (L2.start N vs) i a → CellAt ρ (vs.map some) i a := fun i a ⟨s, e, hc, z⟩ => by
    by_cases hi : i < ρ.length
    · rw [List.getElem?_append_left hi] at e
      exact ⟨s, e, hc, by rw [← at1 i (by omega)]; exact z⟩
    · rw [List.getElem?_append_right (by omega), List.getElem?_replicate] at e
      split at e
      · cases e; cases hc
      · cases e
  refine ⟨?_, S.sb, S.sf, S.fb, fun i s e => ?_, fun i j a c1 c2 => S.ds i j a (cell1 i a c1) (cell1 j a c2)⟩
  · unfold L2.start
    simp only [List.length_append, List.length_map, List.length_replicate]
    omega
  · by_cases hi : i < ρ.length
    · rw [List.getElem?_append_left hi] at e
      have q := S.sl i s e
      have ea := at1 i (by omega)
      cases s with
      | u => trivial
      | d x => obtain ⟨v, h1, h2⟩ := q; exact ⟨v, ea.trans h1, h2⟩
      | l xs => obtain ⟨b, ws, h1, h2⟩ := q; exact ⟨b, ws, ea.trans h1, h2⟩
      | p xs => obtain ⟨b, ws, h0, h1, h2⟩ := q; exact ⟨b, ws, h0, ea.trans h1, h2⟩
      | k t kvs => obtain ⟨b, h1, h2⟩ := q; exact ⟨b, ea.trans h1, h2⟩
    · rw [List.getElem?_append_right (by omega), List.getElem?_replicate] at e
      split at e
      · cases e; trivial
      · cases e
/-- at a body's end -/
theorem StR.finish {σ' : L2.St} {ρ' : Rho} (S : StR K F B' pa σ' H' ρ') (hl : vs.length ≤ ρ'.length) (hpa : ∀ i a, pa i = some a → vs[i]? = some (V.ref a)) : StR K F B' pa (vs.map some) H' ((ρ'.take vs.length).map keepP) ∧ ∀ i a, CellAt ((ρ'.take vs.length).map keepP) (vs.map some) i a → CellAt ρ' σ' i a := by
  have ix : ∀ {i : Nat} {s : Sl}, ((ρ'.take vs.length).map keepP)[i]? = some s → ∃ t, ρ'[i]? = some t ∧ keepP t = s ∧ i < vs.length := fun {i s} e => by
    rw [List.getElem?_map, List.getElem?_take] at e
    split at e
    · rename_i hi
      cases q : ρ'[i]? with
      | none => rw [q] at e; cases e
      | some t => rw [q] at e; exact ⟨t, rfl, Option.some.inj e, hi⟩
    · cases e
  have word : ∀ {i : Nat} {xs : List PyData}, ρ'[i]? = some (.p xs) → ∃ a ws, pa i = some a ∧ σ'[i]? = some (some (V.ref a)) ∧ (vs.map some)[i]? = some (some (V.ref a)) ∧ B' a = none ∧ F a = none ∧ H' a = some (.lst ws) ∧ DDs K B' ws xs := fun {i xs} e => by
    obtain ⟨a, ws, h0, h1, h2⟩ := S.sl i _ e
    exact ⟨a, ws, h0, h1, by rw [List.getElem?_map, hpa i a h0]; rfl, h2⟩
  have cells : ∀ i a, CellAt ((ρ'.take vs.length).map keepP) (vs.map some) i a → CellAt ρ' σ' i a := fun i a ⟨s, e, hc, z⟩ => by
    obtain ⟨t, e1, e2, hi⟩ := ix e
    cases t with
    | p xs =>
      obtain ⟨b, ws, h0, h1, h2, _⟩ := word e1
      rw [h2] at z
      cases z
      exact ⟨_, e1, rfl, h1⟩
    | u => subst e2; cases hc
    | d x => subst e2; cases hc
    | l xs => subst e2; cases hc
    | k t kvs => subst e2; cases hc
  refine ⟨⟨by simp; omega, S.sb, S.sf, S.fb, fun i s e => ?_, fun i j a c1 c2 => S.ds i j a (cells i a c1) (cells j a c2)⟩, cells⟩
  obtain ⟨t, e1, e2, hi⟩ := ix e
  cases t with
  | p xs =>
    subst e2
    obtain ⟨b, ws, h0, h1, h2, h3⟩ := word e1
    exact ⟨b, ws, h0, h2, h3⟩
  | u => subst e2; trivial
  | d x => subst e2; trivial
  | l xs => subst e2; trivial
  | k t kvs => subst e2; trivial
end
/-- THE RULE of a def that raises nothing: its body's data -/
theorem fn_data {CX : CXT} {P : Program} {w : World} {K : PySem.W.Frag} {mg : Str → Option Value} {base : Heap} {k : Nat} {x qual : Str} {st : Stmt} {f : Addr} {fd : FuncData} {N ps : List Str} {m : Nat} {g : SM} (F : Fun K x qual st f fd) (S : FnScope N ps (defScope st)) (hm : N.length = ps.length + m)
    (body : ∀ (cdv : Value) (A : Around) (outer : List Env) (s : Shared) (H : Hp) (E : XK), A.guards = some [] → Room k (A.deeper (envOfC qual (defScope st) s.heap.objs.size f cdv)) → DSs (cxOf CX P w K mg base N qual (defScope st) f cdv A outer s H E).nox (defBody st) g) :
    FnG P w K mg base CX (k + 1) f fd ps (spG K ps.length (ofBody ps.length m g)) := by
  refine fnG_of F S (fun vs H Q E h => ?_) fun cdv A outer s H vs Q E hgu hr h => ?_
  · obtain ⟨_, _, _, _, _, _, h, _⟩ := h
    exact h
  · obtain ⟨F', B, pa, ρ, r, ρ', hl, S0, hpa, e, q⟩ := h
    refine ⟨_, PSs.nox (body cdv A outer s H E hgu hr), ?_⟩
    have S1 := S0.start (N := N) (m := m) (by omega)
    obtain ⟨out, e1, e2⟩ := bind_some e
    refine ⟨F', B, pa, _, out, S1, e1, ?_⟩
    cases out with
    | bk ρ1 => cases e2
    | ct ρ1 => cases e2
    | ret r1 ρ1 =>
      change endOf ps.length r1 ρ1 = some (r, ρ') at e2
      unfold endOf at e2
      split at e2
      · rename_i hle
        cases e2
        intro v σ' B' H' S2 s2 q2
        obtain ⟨S3, cells⟩ := S2.finish (vs := vs) (by omega) hpa
        rw [hl] at S3 cells
        refine q v B' H' S3 s2 ?_
        cases r with
        | d x => exact q2
        | l xs =>
          obtain ⟨a, ws, h1, h2, h3, h4, h5, h6⟩ := q2
          exact ⟨a, ws, h1, h2, h3, h4, h5, fun i c => h6 i (cells i a c)⟩
      · cases e2
    | nx ρ1 =>
      change endOf ps.length (.d .none) ρ1 = some (r, ρ') at e2
      unfold endOf at e2
      split at e2
      · rename_i hle
        cases e2
        intro σ' B' H' S2 s2
        obtain ⟨S3, cells⟩ := S2.finish (vs := vs) (by omega) hpa
        rw [hl] at S3
        exact q .non B' H' S3 s2 .non
      · cases e2

/-! ### calls -/
section
open Classical
variable {K : PySem.W.Frag} {F B B' H H' : Hp} {pa : Nat → Option Addr} {σ : L2.St} {ρ : Rho} {v : V} {vs : List V}
/-- the slots' own objects but that of slot j -/
noncomputable def ownA (ρ : Rho) (σ : L2.St) (H : Hp) (j : Option Nat) : Hp := fun q => if ∃ i, CellAt ρ σ i q ∧ some i ≠ j then H q else none
theorem ownA_le {j : Option Nat} : Same (ownA ρ σ H j) H := fun q o e => by
  unfold ownA at e
  split at e
  · exact e
  · cases e
theorem ownA_cell {j : Option Nat} {q : Addr} (h : ownA ρ σ H j q ≠ none) : ∃ i, CellAt ρ σ i q ∧ some i ≠ j := by
  unfold ownA at h
  split at h
  · assumption
  · exact absurd rfl h
theorem ownA_at {j : Option Nat} {i : Nat} {q : Addr} (c : CellAt ρ σ i q) (n : some i ≠ j) : ownA ρ σ H j q = H q := by
  unfold ownA
  rw [if_pos ⟨i, c, n⟩]
theorem at_map_d {ds : List PyData} {i : Nat} {s : Sl} (e : (ds.map Sl.d)[i]? = some s) : ∃ x, ds[i]? = some x ∧ s = .d x := by
  rw [List.getElem?_map] at e
  cases q : ds[i]? with
  | none => rw [q] at e; cases e
  | some x => rw [q] at e; cases e; exact ⟨x, rfl, rfl⟩
/-- a callee's state, handed data alone -/
theorem StR.call (S : StR K F B pa σ H ρ) {ds : List PyData} (d : DDs K B vs ds) : StR K (plusH F (ownA ρ σ H none)) B (fun _ => none) (vs.map some) H (ds.map .d) := by
  refine ⟨by simp [d.length], S.sb, plus_le S.sf ownA_le, fun q hq => ?_, fun i s e => ?_, fun i j a c1 c2 => ?_⟩
  · by_cases hF : F q = none
    · obtain ⟨i, c, _⟩ := ownA_cell (fun z => hq (plus_none.mpr ⟨hF, z⟩))
      exact (S.cellB c).1
    · exact S.fb q hF
  · obtain ⟨x, e1, rfl⟩ := at_map_d e
    obtain ⟨v, e2, h⟩ := d.get e1
    exact ⟨v, by rw [List.getElem?_map, e2]; rfl, h⟩
  · obtain ⟨s, e, hc, _⟩ := c1
    obtain ⟨x, _, rfl⟩ := at_map_d e
    cases hc
theorem StR.called {ρ1 : Rho} {pa1 : Nat → Option Addr} {σ1 : L2.St} (S : StR K F B pa σ H ρ) (S1 : StR K (plusH F (ownA ρ σ H none)) B' pa1 σ1 H' ρ1) (s1 : Same B B') : StR K F B' pa σ H' ρ := by
  have dis : ∀ q, ownA ρ σ H none q ≠ none → F q = none := fun q h => by
    obtain ⟨i, c, _⟩ := ownA_cell h
    exact (S.cellB c).2.1
  refine S.grow s1 S1.sb (plus_same.trans S1.sf) (fun q hq => S1.fb q fun z => hq (plus_none.mp z).1) fun i a c => ?_
  have own : ownA ρ σ H none a = H a := ownA_at c (by simp)
  have hne := (S.cellB c).2.2
  refine ⟨S1.fb a fun z => hne (by rw [← own]; exact (plus_none.mp z).2), ?_⟩
  cases z : H a with
  | none => exact absurd z hne
  | some o => exact S1.sf a o (plus_right dis a o (own.trans z))
end
/-- the first object handed in to be changed, the rest data -/
theorem sp_call {K : PySem.W.Frag} {n : Nat} {G : GM} {F B : Hp} {pa : Nat → Option Addr} {σ : L2.St} {H : Hp} {ρ ρ1 : Rho} {vs : List V} {ds : List PyData} {r : Rs} {Q : VK} {E : XK} (S : StR K F B pa σ H ρ) (d : DDs K B vs ds) (hn : ds.length = n) (e : G (ds.map .d) = some (r, ρ1))
    (k : ∀ v B' H', StR K F B' pa σ H' ρ → Same B B' → RsR K F B' σ H' ρ v r → Q v H') : spG K n G vs H Q E := by
  refine ⟨_, B, _, _, r, ρ1, by rw [d.length]; exact hn, S.call d, (fun i a z => by cases z), e, fun v B' H' S1 s1 q1 => ?_⟩
  have S2 := S.called S1 s1
  refine k v B' H' S2 s1 ?_
  cases r with
  | d x => exact q1
  | l xs =>
    obtain ⟨a, ws, h1, h2, h3, h4, h5, h6⟩ := q1
    refine ⟨a, ws, h1, h2, (plus_none.mp h3).1, h4, h5, fun i c => ?_⟩
    have z := (plus_none.mp h3).2
    rw [ownA_at c (by simp)] at z
    exact (S.cellB c).2.2 z
def eCall (n : Nat) (G : GM) (f : AM) : EM := fun ρ => (f ρ).bind fun a => if a.1.length = n then (G (a.1.map .d)).map fun b => (b.1, a.2) else none
theorem tCall_of {K : PySem.W.Frag} {n : Nat} {G : GM} {fa : AM} {E : XK} : ∀ σ H Q, tD K (eCall n G fa) σ H Q → tCall (spG K n G) [] E (tDA K fa) σ H Q := fun σ H Q ⟨F', B, pa, ρ, r, ρ', S, e, k⟩ => by
  obtain ⟨⟨ds, ρ1⟩, e1, e⟩ := bind_some e
  change (if ds.length = n then (G (ds.map .d)).map fun b => (b.1, ρ1) else none) = some (r, ρ') at e
  split at e
  · rename_i hn
    obtain ⟨⟨r1, ρ2⟩, e2, e⟩ := map_some e
    cases e
    refine ⟨F', B, pa, ρ, ds, _, S, e1, fun vs B1 H1 S1 s1 d1 => ?_⟩
    show spG K n G (vs ++ []) H1 Q E
    rw [List.append_nil]
    exact sp_call S1 d1 hn e2 fun v B2 H2 S2 s2 q2 => k v B2 H2 S2 (s1.trans s2) q2
  · cases e
section
variable {X : Cx} {CX : CXT} {k n : Nat} {f : Addr} {fd : FuncData} {ps ks : List Str} {E : XK} {x : Str} {p pos : Pos} {e : Expr} {es : List Expr} {fa fk : AM} {G : GM} {kws : List Keyword}
theorem de_call (F : FnG X.prog X.w X.K X.mg X.base CX k f fd ps (spG X.K n G)) (hgu : X.A.guards = some []) (hr : Room k X.A) (hg : Gl X x) (hm : X.mg x = some (.ref f)) (hk : PySem.W.keepIn X.K (.ref f) = true) (hb : L2.Binds X.K fd ps []) (hx : Passes CX X E) (ha : DA X (e :: es) fa)
    (hdb : (x == ("__debug__" : Str)) = false := by decide) (he : starEach (e :: es) X.env = (false, eval e X.env) :: starEach es X.env := by rfl) (hpl : (backTo pos (starEach es X.env)).any (·.1) = false := by rfl) :
    DE X (.Call (.Name x p) (e :: es) [] pos) (eCall n G fa) := PE.imp (peG_call F hgu hr hg hm hk hb .nil hx ha hdb he hpl) tCall_of
/-! ### f(k = v, ..) -/
abbrev DK (X : Cx) (kws : List Keyword) (f : AM) : Prop := PK X kws (tDA X.K f)
theorem PK.imp {X : Cx} {es : List Keyword} {t t' : TA} (h : PK X es t) (i : ∀ σ H Q, t' σ H Q → t σ H Q) : PK X es t' := ⟨fun pos pins s σ H Q I hw => h.run pos pins s σ H Q I (i σ H Q hw)⟩
theorem dk_nil : DK X [] aNil := PK.imp pk_nil fun σ H Q ⟨F, B, pa, ρ, ds, ρ', S, e, k⟩ => by
  cases e
  exact k [] B H S (Same.refl _) .nil
theorem dk_cons {e : Expr} {nm : Option Str} {kpos : Pos} {f : EM} {g : AM} (ha : DE X e f) (hr : DK X kws g) : DK X (⟨nm, e, kpos⟩ :: kws) (aCons f g) :=
  PK.imp (pk_cons ha hr) fun σ H Q ⟨F, B, pa, ρ, ds, ρ', S, e, k⟩ => by
    obtain ⟨⟨r1, ρ1⟩, e1, e⟩ := bind_some e
    obtain ⟨⟨es, ρ2⟩, e2, e⟩ := map_some e
    cases e
    refine tD_take S e1 fun v B1 H1 S1 s1 d1 => ⟨F, B1, pa, ρ1, es, _, S1, e2, fun vs B2 H2 S2 s2 d2 => ?_⟩
    exact k _ B2 H2 S2 (s1.trans s2) (.cons (d1.up s2) d2)
def perm {α : Type} (ix : List Nat) (l : List α) : List α := ix.filterMap fun j => l[j]?
theorem Vals.perm {vs : List V} {us : List Value} (r : Vals vs us) : ∀ ix : List Nat, Vals (perm ix vs) (perm ix us)
  | [] => .nil
  | j :: ix => by
    unfold DL.perm
    rw [List.filterMap_cons, List.filterMap_cons]
    cases q : vs[j]? with
    | none =>
      rw [r.none_of q]
      exact Vals.perm r ix
    | some v =>
      obtain ⟨u, e, h⟩ := r.get q
      rw [e]
      exact .cons h (Vals.perm r ix)
theorem DDs.perm {K : PySem.W.Frag} {B : Hp} {vs : List V} {ds : List PyData} (r : DDs K B vs ds) : ∀ ix : List Nat, DDs K B (perm ix vs) (perm ix ds)
  | [] => .nil
  | j :: ix => by
    unfold DL.perm
    rw [List.filterMap_cons, List.filterMap_cons]
    cases q : vs[j]? with
    | none =>
      have h : ds[j]? = none := List.getElem?_eq_none_iff.mpr (by rw [← r.length]; exact List.getElem?_eq_none_iff.mp q)
      rw [h]
      exact DDs.perm r ix
    | some v =>
      obtain ⟨d, e, h⟩ := r.getV q
      rw [e]
      exact .cons h (DDs.perm r ix)
/-- how keywords bind -/
def KB (K : PySem.W.Frag) (fd : FuncData) (ps ks : List Str) (ix : List Nat) : Prop := ∀ (s : Shared) (ws : List Value), K.In s.heap → ws.length = ks.length → BindsTo s fd ⟨[], ks.zip ws⟩ (ps.zip (perm ix ws))
theorem KB.all {K : PySem.W.Frag} {fd : FuncData} {ps ks : List Str} {ix : List Nat} (h : ∀ ws : List Value, ws.length = ks.length → bindArgs fd ⟨[], ks.zip ws⟩ = pure (ps.zip (perm ix ws))) : KB K fd ps ks ix := fun s ws _ hl => .of_eq (h ws hl)
def eCallK (n : Nat) (ix : List Nat) (G : GM) (f : AM) : EM := fun ρ => (f ρ).bind fun a => if a.1.length = n ∧ (perm ix a.1).length = n then (G ((perm ix a.1).map .d)).map fun b => (b.1, a.2) else none
theorem de_callK {ix : List Nat} (F : FnG X.prog X.w X.K X.mg X.base CX k f fd ps (spG X.K n G)) (hgu : X.A.guards = some []) (hr : Room k X.A) (hg : Gl X x) (hm : X.mg x = some (.ref f)) (hk : PySem.W.keepIn X.K (.ref f) = true) (hb : KB X.K fd ps ks ix) (hl : ks.length = n) (hx : Passes CX X E) (ha : DK X kws fk)
    (hall : (backToKw pos (keywordEach kws X.env)).all (·.1.isSome) = true := by rfl) (hks : (backToKw pos (keywordEach kws X.env)).filterMap (·.1) = ks := by rfl)
    (hdb : (x == ("__debug__" : Str)) = false := by decide) (hpl : ((backTo pos (starEach [] X.env)).any (·.1) || (backToKw pos (keywordEach kws X.env)).any (·.1.isNone)) = false := by rfl) :
    DE X (.Call (.Name x p) [] kws pos) (eCallK n ix G fk) := by
  refine ⟨fun pins s σ H Q I h => wpAny_Call_Name_kw (ld_glob I hg hm ?_ hdb)⟩
  obtain ⟨F', B, pa, ρ, r, ρ', S, e, kk⟩ := h
  obtain ⟨⟨ds, ρ1⟩, e1, e⟩ := bind_some e
  change (if ds.length = n ∧ (perm ix ds).length = n then (G ((perm ix ds).map .d)).map fun b => (b.1, ρ1) else none) = some (r, ρ') at e
  split at e
  · rename_i hn
    obtain ⟨⟨r1, ρ2⟩, e2, e⟩ := map_some e
    cases e
    refine PySem.W.callWith_KW0 (h₀ := X.base) I.ok.mod.kin hk hall (thn (ha.run pos pins s σ H (fun vs H1 => ∃ B1, StR X.K F' B1 pa σ H1 ρ' ∧ Same B B1 ∧ DDs X.K B1 vs ds) I ⟨F', B, pa, ρ, ds, _, S, e1, fun vs B1 H1 S1 s1 d1 => ⟨B1, S1, s1, d1⟩⟩) fun ws s1 ⟨zs, H1, I1, rz, B1, S1, b1, d1⟩ => ⟨I1.kIn, ?_⟩) hpl
    rw [hks]
    have hw : ws.length = ks.length := by rw [← rz.length, d1.length, hn.1, hl]
    have q : spG X.K n G (perm ix zs) H1 Q E := sp_call S1 (d1.perm ix) hn.2 e2 fun v B2 H2 S2 s2 q2 => kk v B2 H2 S2 (b1.trans s2) q2
    refine wpAny_call (codeAny_mono (runG F hgu hr (hb s1 ws I1.kIn hw) hx I1 (Vals.perm rz ix) q) fun r s' hq => ?_)
    cases r with
    | error e => exact hq
    | ok fl => cases fl <;> exact hq
  · cases e
end
/-! ### f(list to be changed, data ..) -/
section
open Classical
variable {K : PySem.W.Frag} {F B B' H H' : Hp} {pa : Nat → Option Addr} {σ : L2.St} {ρ : Rho} {v : V} {vs : List V}
/-- a slot's own list, and the same slot with other items -/
def listOf : Sl → Option (List PyData)
  | .l xs => some xs
  | .p xs => some xs
  | _ => none
def withList (xs : List PyData) : Sl → Sl
  | .l _ => .l xs
  | .p _ => .p xs
  | s => s
theorem listOf_at (S : StR K F B pa σ H ρ) {i : Nat} {s : Sl} {xs : List PyData} (e : ρ[i]? = some s) (hs : listOf s = some xs) : ∃ a ws, σ[i]? = some (some (V.ref a)) ∧ CellAt ρ σ i a ∧ B a = none ∧ F a = none ∧ H a = some (.lst ws) ∧ DDs K B ws xs := by
  have q := S.sl i s e
  cases s with
  | l ys =>
    cases hs
    obtain ⟨a, ws, h1, h2, h3, h4, h5⟩ := q
    exact ⟨a, ws, h1, ⟨_, e, rfl, h1⟩, h2, h3, h4, h5⟩
  | p ys =>
    cases hs
    obtain ⟨a, ws, h0, h1, h2, h3, h4, h5⟩ := q
    exact ⟨a, ws, h1, ⟨_, e, rfl, h1⟩, h2, h3, h4, h5⟩
  | u => cases hs
  | d _ => cases hs
  | k _ _ => cases hs
/-- a slot's own list has other items now, all else stands -/
theorem StR.relist (S : StR K F B pa σ H ρ) {i : Nat} {s : Sl} {xs ys : List PyData} {a : Addr} {ws : List V} (e : ρ[i]? = some s) (hs : listOf s = some xs) (ha : σ[i]? = some (some (V.ref a))) (sb : Same B B') (bh : Same B' H') (sf : Same F H') (fb : ∀ q, F q ≠ none → B' q = none) (hB : B' a = none)
    (hH : H' a = some (.lst ws)) (hd : DDs K B' ws ys) (oth : ∀ j b, j ≠ i → CellAt ρ σ j b → B' b = none ∧ H' b = H b) : StR K F B' pa σ H' (ρ.set i (withList ys s)) := by
  obtain ⟨b, ws0, h1, h2, h3, h4, h5, h6⟩ := listOf_at S e hs
  rw [ha] at h1
  cases h1
  have hl : i < ρ.length := (List.getElem?_eq_some_iff.mp e).1
  refine ⟨by simp [S.len], bh, sf, fb, fun j t et => ?_, fun j k b c1 c2 => ?_⟩
  · by_cases hj : j = i
    · subst hj
      rw [List.getElem?_set_self hl] at et
      cases et
      have q := S.sl j s e
      cases s with
      | l zs => exact ⟨a, ws, ha, hB, h4, hH, hd⟩
      | p zs =>
        obtain ⟨c, _, h0, hc, _⟩ := q
        rw [ha] at hc
        cases hc
        exact ⟨a, ws, h0, ha, hB, h4, hH, hd⟩
      | u => cases hs
      | d _ => cases hs
      | k _ _ => cases hs
    · rw [List.getElem?_set_ne (Ne.symm hj)] at et
      exact (S.sl j t et).keep sb fun b c z => oth j b hj ⟨t, et, c, z⟩
  · have back : ∀ {j b}, CellAt (ρ.set i (withList ys s)) σ j b → CellAt ρ σ j b := fun {j b} c => by
      rcases c.set with ⟨hj, _, z⟩ | ⟨_, c⟩
      · subst hj
        rw [ha] at z
        cases z
        exact h2
      · exact c
    exact S.ds j k b (back c1) (back c2)
/-- a callee's state, handed the list of slot i and data -/
theorem StR.callP (S : StR K F B pa σ H ρ) {i : Nat} {s : Sl} {xs : List PyData} {a : Addr} (e : ρ[i]? = some s) (hs : listOf s = some xs) (ha : σ[i]? = some (some (V.ref a))) {ds : List PyData} (d : DDs K B vs ds) :
    StR K (plusH F (ownA ρ σ H (some i))) B (fun j => if j = 0 then some a else none) ((V.ref a :: vs).map some) H (.p xs :: ds.map .d) := by
  obtain ⟨b, ws0, h1, h2, h3, h4, h5, h6⟩ := listOf_at S e hs
  rw [ha] at h1
  cases h1
  have nA : ownA ρ σ H (some i) a = none := Classical.byContradiction fun z => by
    obtain ⟨j, c, hj⟩ := ownA_cell z
    exact hj (by rw [S.ds j i a c h2])
  have only : ∀ {j : Nat} {c : Addr}, CellAt (.p xs :: ds.map .d) ((V.ref a :: vs).map some) j c → j = 0 := fun {j c} ⟨t, et, hc, _⟩ => by
    cases j with
    | zero => rfl
    | succ j =>
      rw [List.getElem?_cons_succ] at et
      obtain ⟨x, _, rfl⟩ := at_map_d et
      cases hc
  refine ⟨by simp [d.length], S.sb, plus_le S.sf ownA_le, fun q hq => ?_, fun j t et => ?_, fun j k c c1 c2 => by rw [only c1, only c2]⟩
  · by_cases hF : F q = none
    · obtain ⟨j, c, _⟩ := ownA_cell (fun z => hq (plus_none.mpr ⟨hF, z⟩))
      exact (S.cellB c).1
    · exact S.fb q hF
  · cases j with
    | zero =>
      cases et
      exact ⟨a, ws0, rfl, rfl, h3, plus_none.mpr ⟨h4, nA⟩, h5, h6⟩
    | succ j =>
      rw [List.getElem?_cons_succ] at et
      obtain ⟨x, e1, rfl⟩ := at_map_d et
      obtain ⟨v, e2, h⟩ := d.get e1
      exact ⟨v, by rw [List.map_cons, List.getElem?_cons_succ, List.getElem?_map, e2]; rfl, h⟩
theorem StR.calledP {ρ1 : Rho} {i : Nat} {s : Sl} {xs ys : List PyData} {a : Addr} (S : StR K F B pa σ H ρ) (e : ρ[i]? = some s) (hs : listOf s = some xs) (ha : σ[i]? = some (some (V.ref a)))
    (S1 : StR K (plusH F (ownA ρ σ H (some i))) B' (fun j => if j = 0 then some a else none) ((V.ref a :: vs).map some) H' ρ1) (s1 : Same B B') (h0 : ρ1[0]? = some (.p ys)) : StR K F B' pa σ H' (ρ.set i (withList ys s)) := by
  have dis : ∀ q, ownA ρ σ H (some i) q ≠ none → F q = none := fun q h => by
    obtain ⟨j, c, _⟩ := ownA_cell h
    exact (S.cellB c).2.1
  obtain ⟨c, ws, g0, g1, g2, g3, g4, g5⟩ := S1.sl 0 _ h0
  have ca : c = a := by
    have z : some a = some c := by simpa using g0
    cases z
    rfl
  subst ca
  refine S.relist e hs ha s1 S1.sb (plus_same.trans S1.sf) (fun q hq => S1.fb q fun z => hq (plus_none.mp z).1) g2 g4 g5 fun j b hj cj => ?_
  have own : ownA ρ σ H (some i) b = H b := ownA_at cj (fun z => hj (Option.some.inj z))
  have hne := (S.cellB cj).2.2
  refine ⟨S1.fb b fun z => hne (by rw [← own]; exact (plus_none.mp z).2), ?_⟩
  cases z : H b with
  | none => exact absurd z hne
  | some o => exact S1.sf b o (plus_right dis b o (own.trans z))
end
def pOf : Option Sl → Option (List PyData)
  | some (.p ys) => some ys
  | _ => none
theorem pOf_eq {o : Option Sl} {ys : List PyData} (h : pOf o = some ys) : o = some (.p ys) := by
  unfold pOf at h
  split at h
  · cases h; rfl
  · cases h
def eCallP (n : Nat) (G : GM) (i : Nat) (f : AM) : EM := fun ρ => ((ρ[i]?).bind listOf).bind fun _ => (f ρ).bind fun a => if a.1.length + 1 = n then
    (a.2[i]?).bind fun s => (listOf s).bind fun xs => (G (.p xs :: a.1.map .d)).bind fun b => (pOf b.2[0]?).map fun ys => (b.1, a.2.set i (withList ys s))
  else none
theorem tCallP_of {K : PySem.W.Frag} {n i : Nat} {G : GM} {fa : AM} {E : XK} : ∀ σ H Q, tD K (eCallP n G i fa) σ H Q → tCall (spG K n G) [] E (tCons (tVar i) (tDA K fa)) σ H Q := fun σ H Q ⟨F', B, pa, ρ, r, ρ', S, e, k⟩ => by
  obtain ⟨xs0, e0, e⟩ := bind_some e
  obtain ⟨s0, e00, hs0⟩ := bind_some e0
  obtain ⟨⟨ds, ρ1⟩, e1, e⟩ := bind_some e
  split at e
  · rename_i hn
    obtain ⟨s, es, e⟩ := bind_some e
    obtain ⟨xs, hs, e⟩ := bind_some e
    obtain ⟨⟨r1, ρ2⟩, e2, e⟩ := bind_some e
    obtain ⟨ys, h0, e⟩ := map_some e
    cases e
    obtain ⟨a, _, ha, _⟩ := listOf_at S e00 hs0
    refine ⟨V.ref a, ha, F', B, pa, ρ, ds, ρ1, S, e1, fun vs B1 H1 S1 s1 d1 => ?_⟩
    show spG K n G ((V.ref a :: vs) ++ []) H1 Q E
    rw [List.append_nil]
    refine ⟨_, B1, _, _, _, ρ2, by rw [List.length_cons, d1.length]; exact hn, S1.callP es hs ha d1, fun j c z => ?_, e2, fun v B2 H2 S2 s2 q2 => ?_⟩
    · by_cases hj : j = 0
      · subst hj
        have z' : some a = some c := by simpa using z
        cases z'
        rfl
      · rw [if_neg hj] at z
        cases z
    · have S3 := S1.calledP es hs ha S2 s2 (pOf_eq h0)
      refine k v B2 H2 S3 (s1.trans s2) ?_
      cases r1 with
      | d x => exact q2
      | l zs =>
        obtain ⟨c, ws, h1, h2, h3, h4, h5, h6⟩ := q2
        refine ⟨c, ws, h1, h2, (plus_none.mp h3).1, h4, h5, fun j cj => ?_⟩
        have z := (plus_none.mp h3).2
        by_cases hj : j = i
        · subst hj
          obtain ⟨_, _, _, q⟩ := cj
          rw [ha] at q
          cases q
          exact h6 0 ⟨_, pOf_eq h0, rfl, rfl⟩
        · rcases cj.set with ⟨w, _⟩ | ⟨_, cj⟩
          · exact hj w
          · rw [ownA_at cj (fun w => hj (Option.some.inj w))] at z
            exact (S1.cellB cj).2.2 z
  · cases e
section
variable {X : Cx} {CX : CXT} {k n i : Nat} {f : Addr} {fd : FuncData} {ps ks : List Str} {E : XK} {x y : Str} {p py pos : Pos} {es : List Expr} {fa : AM} {G : GM}
theorem de_callP (F : FnG X.prog X.w X.K X.mg X.base CX k f fd ps (spG X.K n G)) (hgu : X.A.guards = some []) (hr : Room k X.A) (hg : Gl X x) (hm : X.mg x = some (.ref f)) (hk : PySem.W.keepIn X.K (.ref f) = true) (hb : L2.Binds X.K fd ps []) (hx : Passes CX X E) (hp : PE X (.Name y py) (tVar i)) (ha : DA X es fa)
    (hdb : (x == ("__debug__" : Str)) = false := by decide) (he : starEach (.Name y py :: es) X.env = (false, eval (.Name y py) X.env) :: starEach es X.env := by rfl) (hpl : (backTo pos (starEach es X.env)).any (·.1) = false := by rfl) :
    DE X (.Call (.Name x p) (.Name y py :: es) [] pos) (eCallP n G i fa) := PE.imp (peG_call F hgu hr hg hm hk hb .nil hx (pa_cons hp ha he) hdb he hpl) tCallP_of
end
end DL
end PDL5
section PDL6
/-! Statements: names, answers, ifs, own lists changed, targets. -/
namespace DL
open PySem PySem.Spec PyProof.Rows L2

section
variable {K : PySem.W.Frag} {F B B' H H' : Hp} {pa : Nat → Option Addr} {σ : L2.St} {ρ : Rho} {v : V} {vs : List V} {r : Rs}
/-- a value is stored in slot i -/
theorem StR.store (S : StR K F B pa σ H ρ) (q : RsR K F B σ H ρ v r) (i : Nat) : StR K F B pa (σ.set i (some v)) H (ρ.set i r.sl) := by
  have at' : ∀ {j : Nat} {s : Sl}, (ρ.set i r.sl)[j]? = some s → (j = i ∧ s = r.sl ∧ (σ.set i (some v))[j]? = some (some v)) ∨ (j ≠ i ∧ ρ[j]? = some s ∧ (σ.set i (some v))[j]? = σ[j]?) := fun {j s} e => by
    by_cases hj : j = i
    · subst hj
      have hl : j < ρ.length := by
        obtain ⟨hl, _⟩ := List.getElem?_eq_some_iff.mp e
        simpa using hl
      rw [List.getElem?_set_self hl] at e
      cases e
      exact .inl ⟨rfl, rfl, List.getElem?_set_self (by rw [← S.len]; exact hl)⟩
    · rw [List.getElem?_set_ne (Ne.symm hj)] at e
      exact .inr ⟨hj, e, List.getElem?_set_ne (Ne.symm hj)⟩
  have cell : ∀ {j : Nat} {a : Addr}, CellAt (ρ.set i r.sl) (σ.set i (some v)) j a → (j = i ∧ v = V.ref a ∧ r.sl.cell = true) ∨ (j ≠ i ∧ CellAt ρ σ j a) := fun {j a} ⟨s, e, hc, z⟩ => by
    rcases at' e with ⟨hj, hs, e2⟩ | ⟨hj, e1, e2⟩
    · rw [e2] at z
      cases z
      subst hs
      exact .inl ⟨hj, rfl, hc⟩
    · rw [e2] at z
      exact .inr ⟨hj, s, e1, hc, z⟩
  have noC : ∀ {j : Nat} {a : Addr}, v = V.ref a → r.sl.cell = true → ¬ CellAt ρ σ j a := fun {j a} hv hc c => by
    cases r with
    | d x => cases hc
    | l xs =>
      obtain ⟨b, ws, h1, _, _, _, _, h6⟩ := q
      rw [hv] at h1
      cases h1
      exact h6 j c
  refine ⟨by simp [S.len], S.sb, S.sf, S.fb, fun j s e => ?_, fun j k a c1 c2 => ?_⟩
  · rcases at' e with ⟨hj, hs, e2⟩ | ⟨hj, e1, e2⟩
    · subst hs
      cases r with
      | d x => exact ⟨v, e2, q⟩
      | l xs =>
        obtain ⟨b, ws, h1, h2, h3, h4, h5, h6⟩ := q
        subst h1
        exact ⟨b, ws, e2, h2, h3, h4, h5⟩
    · have w := S.sl j s e1
      cases s with
      | u => trivial
      | d x => obtain ⟨u, h1, h2⟩ := w; exact ⟨u, e2.trans h1, h2⟩
      | l xs => obtain ⟨b, ws, h1, h2⟩ := w; exact ⟨b, ws, e2.trans h1, h2⟩
      | p xs => obtain ⟨b, ws, h0, h1, h2⟩ := w; exact ⟨b, ws, h0, e2.trans h1, h2⟩
      | k t kvs => obtain ⟨b, h1, h2⟩ := w; exact ⟨b, e2.trans h1, h2⟩
  · rcases cell c1 with ⟨h1, h2, h3⟩ | ⟨h1, h2⟩
    · rcases cell c2 with ⟨g1, _, _⟩ | ⟨_, g2⟩
      · rw [h1, g1]
      · exact absurd g2 (noC h2 h3)
    · rcases cell c2 with ⟨_, g2, g3⟩ | ⟨_, g2⟩
      · exact absurd h2 (noC g2 g3)
      · exact S.ds j k a h2 g2
/-- a slot is forgotten -/
theorem StR.forget (S : StR K F B pa σ H ρ) (i : Nat) : StR K F B pa σ H (ρ.set i .u) := by
  refine ⟨by simp [S.len], S.sb, S.sf, S.fb, fun j s e => ?_, fun j k a c1 c2 => ?_⟩
  · by_cases hj : j = i
    · subst hj
      have hl : j < ρ.length := by
        obtain ⟨hl, _⟩ := List.getElem?_eq_some_iff.mp e
        simpa using hl
      rw [List.getElem?_set_self hl] at e
      cases e
      trivial
    · rw [List.getElem?_set_ne (Ne.symm hj)] at e
      exact S.sl j s e
  · rcases c1.set with ⟨_, z, _⟩ | ⟨_, c1⟩
    · cases z
    · rcases c2.set with ⟨_, z, _⟩ | ⟨_, c2⟩
      · cases z
      · exact S.ds j k a c1 c2
end

section
variable {X : Cx} {e : Expr} {f : EM} {pos : Pos}
/-! ### name = e, e, return e -/
def sSet (i : Nat) (f : EM) : SM := fun ρ => (f ρ).map fun a => .nx (a.2.set i a.1.sl)
theorem sSet_of {K : PySem.W.Frag} {i : Nat} {t : TE} (h : ∀ σ H Q, tD K f σ H Q → t σ H Q) : ∀ D σ H, tDS K (sSet i f) D σ H → tAsg t (gName i) D σ H := fun D σ H ⟨F, B, pa, ρ, out, S, e, k⟩ => by
  obtain ⟨⟨r, ρ1⟩, e1, e⟩ := map_some e
  cases e
  exact h σ H _ ⟨F, B, pa, ρ, r, ρ1, S, e1, fun v B1 H1 S1 s1 q1 => k _ B1 H1 (S1.store q1 i) s1⟩
theorem ds_set {i : Nat} {x : Str} {pos' : Pos} (hN : X.N.Nodup) (hi : X.N[i]? = some x) (hx : Loc X.env.scope x) (he : DE X e f) (hs : swapsWith e (some (.Name x pos')) pos.line X.env = pure false := by rfl) (hf : X.fn x = true ∨ X.env.scope.names.lookup x = some .local := by first | exact .inl rfl | exact .inr rfl | assumption) :
    DS X (.Assign [.Name x pos'] e pos) (sSet i f) := PS.imp (ps_set hN hi hx he hs hf) (sSet_of fun _ _ _ z => z)
def sExpr (f : EM) : SM := fun ρ => (f ρ).map fun a => .nx a.2
theorem ds_expr (he : DE X e f) (hs : swapsWith e none pos.line X.env = pure false := by rfl) : DS X (.Expr e pos) (sExpr f) := PS.imp (ps_expr he hs) fun D σ H ⟨F, B, pa, ρ, out, S, e, k⟩ => by
  obtain ⟨⟨r, ρ1⟩, e1, e⟩ := map_some e
  cases e
  exact ⟨F, B, pa, ρ, r, ρ1, S, e1, fun v B1 H1 S1 s1 q1 => k σ B1 H1 S1 s1⟩
def sRet (f : EM) : SM := fun ρ => (f ρ).map fun a => .ret a.1 a.2
theorem ds_ret (he : DE X e f) : DS X (.Return (some e) pos) (sRet f) := PS.imp (ps_ret he) fun D σ H ⟨F, B, pa, ρ, out, S, e, k⟩ => by
  obtain ⟨⟨r, ρ1⟩, e1, e⟩ := map_some e
  cases e
  exact ⟨F, B, pa, ρ, r, ρ1, S, e1, fun v B1 H1 S1 s1 q1 => k v σ B1 H1 S1 s1 q1⟩
def sNever : SM := fun _ => none
theorem ds_never {st : Stmt} : DS X st sNever := PS.imp ps_never fun D σ H ⟨F, B, pa, ρ, out, S, e, k⟩ => by cases e
def sIf (t : TM) (g h : SM) : SM := fun ρ => (t ρ).bind fun a => if a.1 = true then g a.2 else h a.2
theorem ds_if {c : Expr} {a b : List Stmt} {t : TM} {g h : SM} (hc : DT X c t) (ha : DSs X a g) (hb : DSs X b h) : DS X (.If c a b pos) (sIf t g h) := PS.imp (ps_if hc ha hb) fun D σ H ⟨F, B, pa, ρ, out, S, e, k⟩ => by
  obtain ⟨⟨c1, ρ1⟩, e1, e⟩ := bind_some e
  refine ⟨F, B, pa, ρ, c1, ρ1, S, e1, fun B1 H1 S1 s1 => ?_⟩
  cases c1 with
  | true =>
    rw [if_pos rfl]
    exact ⟨F, B1, pa, ρ1, out, S1, e, k.mono s1⟩
  | false =>
    rw [if_neg Bool.false_ne_true]
    exact ⟨F, B1, pa, ρ1, out, S1, e, k.mono s1⟩
/-- a name whose own list is handed on whole -/
def eMove (i : Nat) : EM := fun ρ => match ρ[i]? with
  | some (.d x) => some (.d x, ρ)
  | some (.l xs) => some (.l xs, ρ.set i .u)
  | _ => none
theorem de_move (i : Nat) {x : Str} {pos : Pos} (hN : X.N[i]? = some x := by rfl) (hv : Vis X.env.scope x := by first | exact Or.inl rfl | exact Or.inr (Or.inl rfl) | exact Or.inr (Or.inr rfl)) (hd : (x == ("__debug__" : Str)) = false := by decide)
    (hcd : (x == ("__classdict__" : Str)) = false := by decide) : DE X (.Name x pos) (eMove i) := PE.imp (pe_var hN hv hd hcd) fun σ H Q ⟨F, B, pa, ρ, r, ρ', S, e, k⟩ => by
  unfold eMove at e
  split at e
  · rename_i x hx
    cases e
    obtain ⟨v, h1, h2⟩ := S.sl i _ hx
    exact ⟨v, h1, k v B H S (Same.refl _) h2⟩
  · rename_i xs hx
    cases e
    obtain ⟨a, ws, h1, h2, h3, h4, h5⟩ := S.sl i _ hx
    refine ⟨.ref a, h1, k _ B H (S.forget i) (Same.refl _) ⟨a, ws, rfl, h2, h3, h4, h5, fun j c => ?_⟩⟩
    rcases c.set with ⟨_, z, _⟩ | ⟨hj, c⟩
    · cases z
    · exact hj (S.ds j i a c ⟨_, hx, rfl, h1⟩)
  · cases e
end

/-! ### methods that change an own list -/
abbrev LM := List PyData → List PyData → Option (PyData × List PyData)
def rMD (K : PySem.W.Frag) (op : LM) : V → List V → Hp → VK → Prop := fun x vs H Q => ∃ B a ws xs ds d ys, x = .ref a ∧ Same B H ∧ B a = none ∧ H a = some (.lst ws) ∧ DDs K B ws xs ∧ DDs K B vs ds ∧ op xs ds = some (d, ys) ∧ ∀ v ws', DD K B v d → DDs K B ws' ys → Q v (upd H a (.lst ws'))
def eMeth (op : LM) (i : Nat) (f : AM) : EM := fun ρ => ((ρ[i]?).bind listOf).bind fun _ => (f ρ).bind fun a => (a.2[i]?).bind fun s => (listOf s).bind fun xs => (op xs a.1).map fun b => (.d b.1, a.2.set i (withList b.2 s))
section
variable {K : PySem.W.Frag} {F B B' H H' : Hp} {pa : Nat → Option Addr} {σ : L2.St} {ρ : Rho} {v : V} {vs : List V}
theorem same_upd {B H : Hp} {a : Addr} {o : HO} (e : Same B H) (n : B a = none) : Same B (upd H a o) := same_off e n
theorem tBM_of {op : LM} {i : Nat} {fa : AM} : ∀ σ H Q, tD K (eMeth op i fa) σ H Q → tBM K "list" (rMD K op) (tVar i) (tDA K fa) σ H Q := fun σ H Q ⟨F', B, pa, ρ, r, ρ', S, e, k⟩ => by
  obtain ⟨xs0, e0, e⟩ := bind_some e
  obtain ⟨s0, e00, hs0⟩ := bind_some e0
  obtain ⟨⟨ds, ρ1⟩, e1, e⟩ := bind_some e
  obtain ⟨s, es, e⟩ := bind_some e
  obtain ⟨xs, hs, e⟩ := bind_some e
  obtain ⟨⟨d, ys⟩, eo, e⟩ := map_some e
  cases e
  obtain ⟨a, ws0, ha, _, _, _, hH, _⟩ := listOf_at S e00 hs0
  refine ⟨V.ref a, ha, .inl ⟨rfl, ws0, SqL.of hH⟩, F', B, pa, ρ, ds, ρ1, S, e1, fun vs B1 H1 S1 s1 d1 => ?_⟩
  obtain ⟨a', ws, ha', ca, hB, hF, hH1, hd⟩ := listOf_at S1 es hs
  rw [ha] at ha'
  cases ha'
  refine ⟨B1, a, ws, xs, ds, d, ys, rfl, S1.sb, hB, hH1, hd, d1, eo, fun v ws' dv dw => ?_⟩
  refine k v B1 _ (S1.relist es hs ha (Same.refl _) (same_off S1.sb hB) (same_off S1.sf hF) S1.fb hB upd_same dw fun j b hj cj => ⟨(S1.cellB cj).1, upd_ne fun z => hj (S1.ds j i a (by rw [← z]; exact cj) ca)⟩) s1 dv
end
section
variable {X : Cx} {y name : Str} {e : Expr} {es : List Expr} {fa : AM} {py apos cpos : Pos} {i : Nat} {id : String} {op : LM}
theorem MtR.imp {r r' : V → List V → Hp → VK → Prop} (h : MtR X id r) (j : ∀ x xs H Q, r' x xs H Q → r x xs H Q) : MtR X id r' := fun pins s σ H x xs v us Q I rx rs hw => h pins s σ H x xs v us Q I rx rs (j x xs H Q hw)
theorem de_meth (pl : PlainAttrs "list") (slot : Slot "list" name id) (hty : typeOf (.builtin id) = pure (.type "method_descriptor")) (hm : MtR X id (rMD X.K op)) (hp : PE X (.Name y py) (tVar i)) (ha : DA X (e :: es) fa)
    (hbase : attributeBase (.Name y py) name X.env (eval (.Name y py) X.env) = eval (.Name y py) X.env := by rfl)
    (hcall : ((backTo cpos (starEach (e :: es) X.env)).all (!·.1) && (backToKw cpos (keywordEach [] X.env)).all (·.1.isSome) && decide ((e :: es).length + ([] : List Keyword).length + (if ([] : List Keyword).isEmpty = true then 0 else 1) < 30)) = true := by rfl)
    (hline : (apos.endLine == cpos.line) = true := by rfl) (he : starEach (e :: es) X.env = (false, eval e X.env) :: starEach es X.env := by rfl) (hpl : (backTo cpos (starEach es X.env)).any (·.1) = false := by rfl) :
    DE X (.Call (.Attribute (.Name y py) name apos) (e :: es) [] cpos) (eMeth op i fa) := PE.imp (pe_bm pl slot hty hm hp ha hbase hcall hline he hpl) tBM_of
theorem de_meth0 (pl : PlainAttrs "list") (slot : Slot "list" name id) (hty : typeOf (.builtin id) = pure (.type "method_descriptor")) (hm : MtR X id (rMD X.K op)) (hp : PE X (.Name y py) (tVar i))
    (hbase : attributeBase (.Name y py) name X.env (eval (.Name y py) X.env) = eval (.Name y py) X.env := by rfl) (hline : (apos.endLine == cpos.line) = true := by rfl) :
    DE X (.Call (.Attribute (.Name y py) name apos) [] [] cpos) (eMeth op i aNil) := PE.imp (pe_bm0 pl slot hty hm hp hbase hline) fun σ H Q h => by
  obtain ⟨v, hv, ty, q⟩ := tBM_of σ H Q h
  refine ⟨v, hv, ty, ?_⟩
  obtain ⟨F', B, pa, ρ, ds, ρ', S, e, k⟩ := q
  cases e
  exact k [] B H S (Same.refl _) .nil
def opAppend : LM := fun xs ds => match ds with
  | [d] => if xs.length < sizeLine then some (.none, xs ++ [d]) else none
  | _ => none
theorem one_of {K : PySem.W.Frag} {B : Hp} {vs : List V} {d : PyData} (h : DDs K B vs [d]) : ∃ v, vs = [v] ∧ DD K B v d := by
  cases h with
  | cons h1 h2 => cases h2; exact ⟨_, rfl, h1⟩
theorem two_of {K : PySem.W.Frag} {B : Hp} {vs : List V} {d e : PyData} (h : DDs K B vs [d, e]) : ∃ v w, vs = [v, w] ∧ DD K B v d ∧ DD K B w e := by
  cases h with
  | cons h1 h2 =>
    obtain ⟨w, rfl, h3⟩ := one_of h2
    exact ⟨_, _, rfl, h1, h3⟩
theorem md_append : MtR X "list.append" (rMD X.K opAppend) := MtR.imp mt_append fun x vs H Q ⟨B, a, ws, xs, ds, d, ys, hx, sb, hB, hH, dw, dv, eo, k⟩ => by
  unfold opAppend at eo
  split at eo
  · rename_i d1
    split at eo
    · rename_i hz
      cases eo
      obtain ⟨v, rfl, h⟩ := one_of dv
      exact ⟨a, ws, v, hx, rfl, hH, by rw [dw.length]; exact hz, k _ _ .non (dw.snoc h)⟩
    · cases eo
  · cases eo
/-- a pop behind -/
def opPop : LM := fun xs ds => if ds.isEmpty = true then (xs[xs.length - 1]?).map fun d => (d, xs.dropLast) else none
theorem DDs.dropLast {K : PySem.W.Frag} {B : Hp} : ∀ {ds : List PyData} {vs : List V}, DDs K B vs ds → DDs K B vs.dropLast ds.dropLast := fun {ds vs} h => by
  rw [List.dropLast_eq_take, List.dropLast_eq_take, h.length]
  exact h.take _
theorem md_pop : MtR X "list.pop" (rMD X.K opPop) := MtR.imp mt_pop fun x vs H Q ⟨B, a, ws, xs, ds, d, ys, hx, sb, hB, hH, dw, dv, eo, k⟩ => by
  unfold opPop at eo
  split at eo
  · rename_i hz
    obtain ⟨d1, e1, eo⟩ := map_some eo
    cases eo
    cases ds with
    | nil =>
      cases dv
      obtain ⟨v, hv, h⟩ := dw.get e1
      exact ⟨a, ws, v, hx, rfl, hH, by rw [dw.length]; exact hv, k _ _ h dw.dropLast⟩
    | cons _ _ => cases hz
  · cases eo
/-- a pop at a place -/
def opPopAt : LM := fun xs ds => match ds with
  | [.int i] => if -(2 ^ 63) ≤ i ∧ i < 2 ^ 63 then (seqIndex? i xs.length).bind fun j => (xs[j]?).map fun d => (d, xs.eraseIdx j) else none
  | _ => none
theorem DDs.eraseIdx {K : PySem.W.Frag} {B : Hp} {ds : List PyData} {vs : List V} (h : DDs K B vs ds) (j : Nat) : DDs K B (vs.eraseIdx j) (ds.eraseIdx j) := by
  rw [List.eraseIdx_eq_take_drop_succ, List.eraseIdx_eq_take_drop_succ]
  exact (h.take _).append (h.drop _)
theorem md_popAt : MtR X "list.pop" (rMD X.K opPopAt) := MtR.imp mt_popAt fun x vs H Q ⟨B, a, ws, xs, ds, d, ys, hx, sb, hB, hH, dw, dv, eo, k⟩ => by
  unfold opPopAt at eo
  split at eo
  · rename_i j
    split at eo
    · rename_i hz
      obtain ⟨n, e1, eo⟩ := bind_some eo
      obtain ⟨d1, e2, eo⟩ := map_some eo
      cases eo
      obtain ⟨v, rfl, h⟩ := one_of dv
      cases h
      obtain ⟨w, hw, h⟩ := dw.get e2
      exact ⟨a, ws, _, n, w, hx, rfl, hH, hz.1, hz.2, by rw [dw.length]; exact e1, hw, k _ _ h (dw.eraseIdx n)⟩
    · cases eo
  · cases eo
def opInsert : LM := fun xs ds => match ds with
  | [.int i, d] => if xs.length < sizeLine ∧ 0 ≤ i ∧ i < 2 ^ 63 then some (.none, xs.take i.toNat ++ [d] ++ xs.drop i.toNat) else none
  | _ => none
def opClear : LM := fun xs ds => if ds.isEmpty = true then some (.none, []) else none
theorem md_clear : MtR X "list.clear" (rMD X.K opClear) := MtR.imp mt_clear fun x vs H Q ⟨B, a, ws, xs, ds, d, ys, hx, sb, hB, hH, dw, dv, eo, k⟩ => by
  unfold opClear at eo
  split at eo
  · rename_i hz
    cases eo
    cases ds with
    | nil =>
      cases dv
      exact ⟨a, ws, hx, rfl, hH, k _ _ .non .nil⟩
    | cons _ _ => cases hz
  · cases eo
end
end DL
end PDL6
section PDL7
/-! Targets, two and three at once, own dicts. -/
namespace DL
open PySem PySem.Spec PyProof.Rows L2

/-! ### targets -/
/-- only the slots vs are others -/
def Off (vs : List Nat) (σ σ' : L2.St) : Prop := σ'.length = σ.length ∧ ∀ j, j ∉ vs → σ'[j]? = σ[j]?
theorem Off.refl (vs : List Nat) (σ : L2.St) : Off vs σ σ := ⟨rfl, fun _ _ => rfl⟩
theorem Off.set {vs : List Nat} {σ : L2.St} {i : Nat} {v : Option V} (h : i ∈ vs) : Off vs σ (σ.set i v) := ⟨by simp, fun j hj => List.getElem?_set_ne fun z => hj (by rw [← z]; exact h)⟩
theorem Off.app {vs ws : List Nat} {σ σ1 σ2 : L2.St} (a : Off vs σ σ1) (b : Off ws σ1 σ2) : Off (vs ++ ws) σ σ2 :=
  ⟨b.1.trans a.1, fun j hj => (b.2 j fun z => hj (List.mem_append_right _ z)).trans (a.2 j fun z => hj (List.mem_append_left _ z))⟩
abbrev GD := Rs → Rho → Option Rho
def tDG (K : PySem.W.Frag) (vs : List Nat) (gd : GD) : TG := fun v σ H Q => ∃ F B pa ρ r ρ', StR K F B pa σ H ρ ∧ RsR K F B σ H ρ v r ∧ gd r ρ = some ρ' ∧ ∀ σ' B' H', StR K F B' pa σ' H' ρ' → Same B B' → Off vs σ σ' → Q σ' H'
abbrev DG (X : Cx) (vs : List Nat) (tg : Expr) (gd : GD) : Prop := PG X tg (tDG X.K vs gd)
def gdName (i : Nat) : GD := fun r ρ => some (ρ.set i r.sl)
section
variable {X : Cx} {pos : Pos}
theorem dg_name {i : Nat} {x : Str} (hN : X.N.Nodup) (hi : X.N[i]? = some x) (hx : Loc X.env.scope x) (hf : X.fn x = true ∨ X.env.scope.names.lookup x = some .local := by first | exact .inl rfl | exact .inr rfl | assumption) : DG X [i] (.Name x pos) (gdName i) :=
  PG.imp (pg_name hN hi hx hf) fun v σ H Q ⟨F, B, pa, ρ, r, ρ', S, q, e, k⟩ => by
    cases e
    exact k _ B H (S.store q i) (Same.refl _) (Off.set (by simp))
/-- targets one behind another, on data -/
abbrev GDs := List PyData → Rho → Option Rho
def tDGs (K : PySem.W.Frag) (is : List Nat) (gd : GDs) : TGs := fun vs σ H Q => ∃ F B pa ρ ds ρ', StR K F B pa σ H ρ ∧ DDs K B vs ds ∧ gd ds ρ = some ρ' ∧ ∀ σ' B' H', StR K F B' pa σ' H' ρ' → Same B B' → Off is σ σ' → Q σ' H'
abbrev DGs (X : Cx) (is : List Nat) (ts : List Expr) (gd : GDs) : Prop := PGs X ts (tDGs X.K is gd)
theorem PGs.imp {X : Cx} {e : List Expr} {t t' : TGs} (h : PGs X e t) (i : ∀ v σ H Q, t' v σ H Q → t v σ H Q) : PGs X e t' := ⟨fun pins s σ H v u Q I r hw => h.run pins s σ H v u Q I r (i v σ H Q hw)⟩
def gdNil : GDs := fun ds ρ => if ds.isEmpty = true then some ρ else none
def gdCons (g : GD) (h : GDs) : GDs := fun ds ρ => match ds with
  | d :: r => (g (.d d) ρ).bind (h r)
  | [] => none
theorem dgs_nil : DGs X [] [] gdNil := PGs.imp pgs_nil fun vs σ H Q ⟨F, B, pa, ρ, ds, ρ', S, d, e, k⟩ => by
  unfold gdNil at e
  split at e
  · rename_i hz
    cases e
    cases ds with
    | nil =>
      cases d
      exact ⟨rfl, k σ B H S (Same.refl _) (Off.refl _ _)⟩
    | cons _ _ => cases hz
  · cases e
theorem dgs_cons {is js : List Nat} {e : Expr} {es : List Expr} {g : GD} {h : GDs} (h1 : DG X is e g) (h2 : DGs X js es h) (hs : (assignEach (e :: es) X.env).map (·.2) = assign e X.env :: (assignEach es X.env).map (·.2) := by rfl) : DGs X (is ++ js) (e :: es) (gdCons g h) :=
  PGs.imp (pgs_cons h1 h2 hs) fun vs σ H Q ⟨F, B, pa, ρ, ds, ρ', S, d, e, k⟩ => by
    cases ds with
    | nil => cases e
    | cons d0 ds =>
      cases d with
      | cons d1 d2 =>
        obtain ⟨ρ1, e1, e2⟩ := bind_some (show (g (.d d0) ρ).bind (h ds) = some ρ' from e)
        exact ⟨_, _, rfl, F, B, pa, ρ, .d d0, ρ1, S, d1, e1, fun σ1 B1 H1 S1 s1 o1 => ⟨F, B1, pa, ρ1, ds, ρ', S1, d2.up s1, e2, fun σ' B' H' S' s' o' => k σ' B' H' S' (s1.trans s') (o1.app o')⟩⟩
def gdTup (n : Nat) (h : GDs) : GD := fun r ρ => match r with
  | .d (.tuple ds) => if ds.length = n then h ds ρ else none
  | _ => none
theorem dg_tup {is : List Nat} {es : List Expr} {k : Nat} {h : GDs} {n : Nat} (hc : X.calm = true) (hh : DGs X is es h) (hn : (assignEach es X.env).length = n := by rfl) (hst : (assignEach es X.env).findIdx? (·.1) = none := by rfl) : DG X is (.Tuple es k pos) (gdTup n h) :=
  PG.imp (pg_tup hc hh hn hst) fun v σ H Q ⟨F, B, pa, ρ, r, ρ', S, q, e, k⟩ => by
    cases r with
    | l xs => cases e
    | d x =>
      cases x with
      | tuple ds =>
        change (if ds.length = n then h ds ρ else none) = some ρ' at e
        split at e
        · rename_i hl
          cases q with
          | tup h1 h2 => exact ⟨_, _, rfl, SqT.of (S.sb _ _ h1), h2.length.trans hl, F, B, pa, ρ, ds, ρ', S, h2, e, k⟩
        · cases e
      | none => cases e
      | bool _ => cases e
      | int _ => cases e
      | str _ => cases e
      | list _ => cases e
      | dict _ => cases e
/-- x[e] = .. of an own list -/
def gdIx (i : Nat) (f : EM) : GD := fun r ρ => ((ρ[i]?).bind listOf).bind fun _ => match r with
  | .d d => (f ρ).bind fun a => (a.2[i]?).bind fun s => (listOf s).bind fun xs => match a.1.data with
    | .int k => (ixN xs.length k).map fun j => a.2.set i (withList (xs.set j d) s)
    | _ => none
  | _ => none
theorem dg_ix {x : Str} {px : Pos} {i : Nat} {ie : Expr} {f : EM} (hp : PE X (.Name x px) (tVar i)) (hi : DE X ie f)
    (ha : ∀ v, assign (.Subscript (.Name x px) ie pos) X.env v = (do
      let ov ← holding [v] (eval (.Name x px) X.env)
      let iv ← holding [v, ov] (eval ie X.env)
      standAt pos
      holding [v, ov, iv] (setItem ov iv v)
      release [v, ov, iv] []) := by intro _; rfl) : DG X [] (.Subscript (.Name x px) ie pos) (gdIx i f) :=
  PG.imp (pg_sub hp hi set_list ha) fun v σ H Q ⟨F, B, pa, ρ, r, ρ', S, q, e, k⟩ => by
    obtain ⟨xs0, e0, e⟩ := bind_some e
    obtain ⟨s0, e00, hs0⟩ := bind_some e0
    cases r with
    | l xs => cases e
    | d d0 =>
      obtain ⟨⟨r1, ρ1⟩, e1, e⟩ := bind_some e
      obtain ⟨s, es, e⟩ := bind_some e
      obtain ⟨xs, hs, e⟩ := bind_some e
      obtain ⟨a, ws0, hA, _⟩ := listOf_at S e00 hs0
      refine ⟨V.ref a, hA, tD_take S e1 fun iv B1 H1 S1 s1 d1 => ?_⟩
      have d1 : DD X.K B1 iv r1.data := d1
      change (match r1.data with | .int k => (ixN xs.length k).map fun j => ρ1.set i (withList (xs.set j d0) s) | _ => none) = some ρ' at e
      split at e
      · rename_i kk hk
        rw [hk] at d1
        cases d1
        obtain ⟨j, ej, e⟩ := map_some e
        cases e
        obtain ⟨a', ws, ha', ca, hB, hF, hH1, hd⟩ := listOf_at S1 es hs
        rw [hA] at ha'
        cases ha'
        have q1 : DD X.K B1 v d0 := DD.up (show DD X.K B v d0 from q) s1
        refine ⟨a, ws, kk, j, rfl, rfl, hH1, by rw [hd.length]; exact ej, k σ B1 _ (S1.relist es hs hA (Same.refl _) (same_off S1.sb hB) (same_off S1.sf hF) S1.fb hB upd_same (hd.set j q1) fun m b hm cm => ⟨(S1.cellB cm).1, upd_ne fun z => hm (S1.ds m i a (by rw [← z]; exact cm) ca)⟩) s1 (Off.refl _ _)⟩
      · cases e
/-! ### target = e -/
def sAsg (gd : GD) (f : EM) : SM := fun ρ => (f ρ).bind fun a => (gd a.1 a.2).map .nx
theorem ds_asg {is : List Nat} {tg e : Expr} {f : EM} {gd : GD} (he : DE X e f) (hg : DG X is tg gd) (hs : swapsWithSole [tg] e pos.line X.env = pure false := by rfl) (hw : swappedStores [tg] e X.env = pure none := by rfl) (h1 : (assignEach [tg] X.env).map (·.2) = [assign tg X.env] := by rfl) :
    DS X (.Assign [tg] e pos) (sAsg gd f) := PS.imp (ps_asg he hg hs hw h1) fun D σ H ⟨F, B, pa, ρ, out, S, e, k⟩ => by
  obtain ⟨⟨r, ρ1⟩, e1, e⟩ := bind_some e
  obtain ⟨ρ2, e2, e⟩ := map_some e
  cases e
  exact ⟨F, B, pa, ρ, r, ρ1, S, e1, fun v B1 H1 S1 s1 q1 => ⟨F, B1, pa, ρ1, r, ρ2, S1, q1, e2, fun σ' B' H' S' s' _ => k σ' B' H' S' (s1.trans s')⟩⟩
/-- .. of what is data then -/
def sAsgD (gd : GD) (f : EM) : SM := fun ρ => (f ρ).bind fun a => (gd (.d a.1.data) a.2).map .nx
theorem ds_asgD {is : List Nat} {tg e : Expr} {f : EM} {gd : GD} (he : DE X e f) (hg : DG X is tg gd) (hs : swapsWithSole [tg] e pos.line X.env = pure false := by rfl) (hw : swappedStores [tg] e X.env = pure none := by rfl) (h1 : (assignEach [tg] X.env).map (·.2) = [assign tg X.env] := by rfl) :
    DS X (.Assign [tg] e pos) (sAsgD gd f) := PS.imp (ps_asg he hg hs hw h1) fun D σ H ⟨F, B, pa, ρ, out, S, e, k⟩ => by
  obtain ⟨⟨r, ρ1⟩, e1, e⟩ := bind_some e
  obtain ⟨ρ2, e2, e⟩ := map_some e
  cases e
  exact tD_take S e1 fun v B1 H1 S1 s1 d1 => ⟨F, B1, pa, ρ1, .d r.data, ρ2, S1, d1, e2, fun σ' B' H' S' s' _ => k σ' B' H' S' (s1.trans s')⟩
end

/-! ### two, three at once -/
section
variable {K : PySem.W.Frag} {F F' B B' H H' : Hp} {pa : Nat → Option Addr} {σ : L2.St} {ρ ρ' : Rho} {v : V} {r : Rs}
theorem StR.weakF (S : StR K F' B pa σ H ρ) (e : Same F F') : StR K F B pa σ H ρ := by
  have no : ∀ {a : Addr}, F' a = none → F a = none := fun {a} h => e.free h
  refine ⟨S.len, S.sb, e.trans S.sf, fun q hq => S.fb q fun z => hq (no z), fun i s es => ?_, S.ds⟩
  have w := S.sl i s es
  cases s with
  | u => trivial
  | d x => exact w
  | l xs => obtain ⟨b, ws, h1, h2, h3, h4⟩ := w; exact ⟨b, ws, h1, h2, no h3, h4⟩
  | p xs => obtain ⟨b, ws, h0, h1, h2, h3, h4⟩ := w; exact ⟨b, ws, h0, h1, h2, no h3, h4⟩
  | k t kvs => obtain ⟨b, h1, h2, h3, h4⟩ := w; exact ⟨b, h1, h2, no h3, h4⟩
/-- an object that must stand, besides -/
theorem StR.moreF (S : StR K F B pa σ H ρ) {a : Addr} {o : HO} (h : H a = some o) (n : B a = none) (nc : ∀ i, ¬ CellAt ρ σ i a) : StR K (upd F a o) B pa σ H ρ := by
  refine ⟨S.len, S.sb, same_both S.sf h, fun q hq => ?_, fun i s es => ?_, S.ds⟩
  · by_cases z : q = a
    · rw [z]; exact n
    · rw [upd_ne z] at hq; exact S.fb q hq
  · have w := S.sl i s es
    have ne : ∀ {b : Addr}, s.cell = true → σ[i]? = some (some (V.ref b)) → b ≠ a := fun {b} hc hb z => nc i ⟨s, es, hc, by rw [← z]; exact hb⟩
    cases s with
    | u => trivial
    | d x => exact w
    | l xs => obtain ⟨b, ws, h1, h2, h3, h4⟩ := w; exact ⟨b, ws, h1, h2, by rw [upd_ne (ne rfl h1)]; exact h3, h4⟩
    | p xs => obtain ⟨b, ws, h0, h1, h2, h3, h4⟩ := w; exact ⟨b, ws, h0, h1, h2, by rw [upd_ne (ne rfl h1)]; exact h3, h4⟩
    | k t kvs => obtain ⟨b, h1, h2, h3, h4⟩ := w; exact ⟨b, h1, h2, by rw [upd_ne (ne rfl h1)]; exact h3, h4⟩
/-- a result is held while something else is reckoned -/
theorem RsR.hold (S : StR K F B pa σ H ρ) (q : RsR K F B σ H ρ v r) : ∃ F', Same F F' ∧ StR K F' B pa σ H ρ ∧ ∀ B' H' ρ', StR K F' B' pa σ H' ρ' → Same B B' → RsR K F B' σ H' ρ' v r ∧ (∀ a, v = V.ref a → r.sl.cell = true → F' a ≠ none) := by
  cases r with
  | d x => exact ⟨F, Same.refl _, S, fun B' H' ρ' S' s' => ⟨DD.up (show DD K B v x from q) s', fun _ _ z => by cases z⟩⟩
  | l xs =>
    obtain ⟨a, ws, rfl, h2, h3, h4, h5, h6⟩ := q
    refine ⟨upd F a (.lst ws), same_new h3, S.moreF h4 h2 h6, fun B' H' ρ' S' s' => ⟨⟨a, ws, rfl, ?_, h3, S'.sf a _ upd_same, h5.up s', fun i c => ?_⟩, fun b z _ => ?_⟩⟩
    · exact S'.fb a (by rw [upd_same]; simp)
    · have z := (S'.cellB c).2.1
      rw [upd_same] at z
      cases z
    · cases z
      rw [upd_same]
      simp
end
def sPar (i j : Nat) (f g : EM) : SM := fun ρ => (f ρ).bind fun a => (g a.2).map fun b => .nx ((b.2.set i a.1.sl).set j b.1.sl)
section
variable {K : PySem.W.Frag}
theorem store2 {F B H : Hp} {pa : Nat → Option Addr} {σ : L2.St} {ρ : Rho} {v w : V} {r q : Rs} (S : StR K F B pa σ H ρ) (h1 : RsR K F B σ H ρ v r) (h2 : RsR K F B σ H ρ w q) (ap : ∀ a, v = V.ref a → r.sl.cell = true → w = V.ref a → q.sl.cell = true → False) (i j : Nat) :
    StR K F B pa ((σ.set i (some v)).set j (some w)) H ((ρ.set i r.sl).set j q.sl) := by
  refine (S.store h1 i).store ?_ j
  cases q with
  | d x => exact h2
  | l xs =>
    obtain ⟨a, ws, rfl, g2, g3, g4, g5, g6⟩ := h2
    refine ⟨a, ws, rfl, g2, g3, g4, g5, fun m c => ?_⟩
    obtain ⟨s, e, hc, z⟩ := c
    by_cases hm : m = i
    · subst hm
      have hl : m < ρ.length := by
        obtain ⟨hl, _⟩ := List.getElem?_eq_some_iff.mp e
        simpa using hl
      rw [List.getElem?_set_self hl] at e
      cases e
      rw [List.getElem?_set_self (by rw [← S.len]; exact hl)] at z
      cases z
      exact ap a rfl hc rfl rfl
    · rw [List.getElem?_set_ne (Ne.symm hm)] at e z
      exact g6 m ⟨s, e, hc, z⟩
theorem par2_of {f g : EM} {i j : Nat} : ∀ D σ H, tDS K (sPar i j f g) D σ H → tPar i j (tCons (tD K f) (tCons (tD K g) tNil)) D σ H := fun D σ H ⟨F, B, pa, ρ, out, S, e, k⟩ => by
  obtain ⟨⟨r1, ρ1⟩, e1, e⟩ := bind_some e
  obtain ⟨⟨r2, ρ2⟩, e2, e⟩ := map_some e
  cases e
  refine ⟨F, B, pa, ρ, r1, ρ1, S, e1, fun v B1 H1 S1 s1 q1 => ?_⟩
  obtain ⟨F', sF, S1', hold⟩ := q1.hold S1
  refine ⟨F', B1, pa, ρ1, r2, ρ2, S1', e2, fun w B2 H2 S2 s2 q2 => ?_⟩
  obtain ⟨q1', hp⟩ := hold B2 H2 ρ2 S2 s2
  have q2' : RsR K F B2 σ H2 ρ2 w r2 := by
    cases r2 with
    | d x => exact q2
    | l xs =>
      obtain ⟨a, ws, g1, g2, g3, g4⟩ := q2
      exact ⟨a, ws, g1, g2, sF.free g3, g4⟩
  refine ⟨v, w, rfl, k _ B2 H2 (store2 (S2.weakF sF) q1' q2' (fun a h1 h2 h3 h4 => ?_) i j) (s1.trans s2)⟩
  cases r2 with
  | d x => cases h4
  | l xs =>
    obtain ⟨b, ws, g1, g2, g3, g4⟩ := q2
    rw [h3] at g1
    cases g1
    exact hp a h1 h2 g3
end
section
variable {X : Cx} {pos : Pos}
theorem ds_par {i j : Nat} {x y : Str} {a b : Expr} {f g : EM} {px py pt : Pos} {kt k2 pt2} (hc : X.calm = true) (hN : X.N.Nodup) (hi : X.N[i]? = some x) (hj : X.N[j]? = some y) (hij : i ≠ j)
    (hx : X.env.scope.names.lookup x = some .local) (hy : X.env.scope.names.lookup y = some .local) (ha : DE X a f) (hb : DE X b g)
    (hw : swappedStores [.Tuple [.Name x px, .Name y py] kt pt] (.Tuple [a, b] k2 pt2) X.env = pure (some [x, y]) := by rfl)
    (hs : swapsWithSole [.Tuple [.Name x px, .Name y py] kt pt] (.Tuple [a, b] k2 pt2) pos.line X.env = pure false := by rfl)
    (h1 : starEach [a, b] X.env = (false, eval a X.env) :: starEach [b] X.env := by rfl) (h2 : starEach [b] X.env = (false, eval b X.env) :: starEach [] X.env := by rfl) :
    DS X (.Assign [.Tuple [.Name x px, .Name y py] kt pt] (.Tuple [a, b] k2 pt2) pos) (sPar i j f g) := PS.imp (ps_par hc hN hi hj hij hx hy (pa_cons ha (pa_cons hb pa_nil h2) h1) hw hs) par2_of
/-- three, data alone -/
def sPar3 (i j l : Nat) (f : AM) : SM := fun ρ => (f ρ).bind fun a => match a.1 with
  | [x, y, z] => some (.nx (((a.2.set i (.d x)).set j (.d y)).set l (.d z)))
  | _ => none
theorem ds_par3 {i j l : Nat} {x y z : Str} {a b c : Expr} {f : AM} {px py pz pt : Pos} {kt k2 pt2} (hc : X.calm = true) (hN : X.N.Nodup) (hi : X.N[i]? = some x) (hj : X.N[j]? = some y) (hl : X.N[l]? = some z) (hij : i ≠ j) (hil : i ≠ l) (hjl : j ≠ l)
    (hx : X.env.scope.names.lookup x = some .local) (hy : X.env.scope.names.lookup y = some .local) (hz : X.env.scope.names.lookup z = some .local) (ha : DA X [a, b, c] f)
    (hw : swappedStores [.Tuple [.Name x px, .Name y py, .Name z pz] kt pt] (.Tuple [a, b, c] k2 pt2) X.env = pure (some [x, y, z]) := by rfl)
    (hs : swapsWithSole [.Tuple [.Name x px, .Name y py, .Name z pz] kt pt] (.Tuple [a, b, c] k2 pt2) pos.line X.env = pure false := by rfl) :
    DS X (.Assign [.Tuple [.Name x px, .Name y py, .Name z pz] kt pt] (.Tuple [a, b, c] k2 pt2) pos) (sPar3 i j l f) := PS.imp (ps_par3 hc hN hi hj hl hij hil hjl hx hy hz ha hw hs) fun D σ H ⟨F, B, pa, ρ, out, S, e, k⟩ => by
  obtain ⟨⟨ds, ρ1⟩, e1, e⟩ := bind_some e
  split at e
  · rename_i a1 a2 a3 hds
    have hds : ds = [a1, a2, a3] := hds
    subst hds
    cases e
    refine ⟨F, B, pa, ρ, _, ρ1, S, e1, fun vs B1 H1 S1 s1 d1 => ?_⟩
    cases d1 with
    | cons h1 d1 =>
      obtain ⟨v, w, rfl, h2, h3⟩ := two_of d1
      exact ⟨_, _, _, rfl, k _ B1 H1 (((S1.store (r := .d _) h1 i).store (r := .d _) h2 j).store (r := .d _) h3 l) s1⟩
  · cases e
/-! ### {} as data -/
def eNod : EM := fun ρ => some (.d (.dict []), ρ)
theorem de_nod : DE X (.Dict [] [] pos) eNod := PE.imp pe_dnewK fun σ H Q ⟨F, B, pa, ρ, r, ρ', S, e, k⟩ p n => by
  cases e
  obtain ⟨S', s'⟩ := S.newData (o := .dK []) n
  exact k _ _ _ S' s' (.nod upd_same)
end
end DL
end PDL7
section PDL8
/-! What is walked; for, while, comprehensions. -/
namespace DL
open PySem PySem.Spec PyProof.Rows L2

/-- the items that an iterator gives, as data, while what B tells stands -/
structure WalkD (K : PySem.W.Frag) (B : Hp) (J : It) (ds : List PyData) : Prop where
  goes : ∀ i H, i < ds.length → Same B H → J.go i H
  stops : ∀ H, Same B H → J.stop ds.length H
  yields : ∀ i H x H' d, ds[i]? = some d → Same B H → J.yld i H x H' → NewR K B H x H' (.d d)
theorem NewR.up {K : PySem.W.Frag} {B B' H H' : Hp} {v : V} {r : Rs} (n : NewR K B H v H' r) (e : Same B B') : NewR K B' H v H' r := by
  cases n with
  | old h => exact .old (h.up e)
  | lst n h => exact .lst n (h.up e)
  | tup n h => exact .tup n (h.up e)
theorem WalkD.up {K : PySem.W.Frag} {B B' : Hp} {J : It} {ds : List PyData} (w : WalkD K B J ds) (e : Same B B') : WalkD K B' J ds :=
  ⟨fun i H hi s => w.goes i H hi (e.trans s), fun H s => w.stops H (e.trans s), fun i H x H' d hd s y => (w.yields i H x H' d hd (e.trans s) y).up e⟩
def tDI (K : PySem.W.Frag) (f : AM) : TI := fun σ H R => ∃ F B pa ρ ds ρ', StR K F B pa σ H ρ ∧ f ρ = some (ds, ρ') ∧ ∀ J B' H', StR K F B' pa σ H' ρ' → Same B B' → WalkD K B' J ds → R J H'
abbrev DI (X : Cx) (tg e : Expr) (f : AM) : Prop := PI X tg e (tDI X.K f)

section
variable {K : PySem.W.Frag} {B : Hp} {a b : Addr} {vs : List V} {ds es : List PyData}
theorem walkD_list (h : B a = some (.lst vs)) (d : DDs K B vs ds) : WalkD K B (Itl K a) ds := by
  refine ⟨fun i H hi s => ?_, fun H s => ⟨vs, SqL.of (s _ _ h), Nat.le_of_eq d.length⟩, fun i H x H' e he s y => ?_⟩
  · obtain ⟨v, hv, _⟩ := d.get (List.getElem?_eq_getElem hi)
    exact ⟨vs, v, SqL.of (s _ _ h), hv⟩
  · obtain ⟨rfl, y⟩ := y
    obtain ⟨v, hv, hd⟩ := d.get he
    rw [y vs (SqL.of (s _ _ h))] at hv
    cases hv
    exact .old hd
theorem walkD_tup (h : B a = some (.tup vs)) (d : DDs K B vs ds) : WalkD K B (Itt K a) ds := by
  refine ⟨fun i H hi s => ?_, fun H s => ⟨vs, SqT.of (s _ _ h), Nat.le_of_eq d.length⟩, fun i H x H' e he s y => ?_⟩
  · obtain ⟨v, hv, _⟩ := d.get (List.getElem?_eq_getElem hi)
    exact ⟨vs, v, SqT.of (s _ _ h), hv⟩
  · obtain ⟨rfl, y⟩ := y
    obtain ⟨v, hv, hd⟩ := d.get he
    rw [y vs (SqT.of (s _ _ h))] at hv
    cases hv
    exact .old hd
/-- lo, lo + c, .. -/
def rngD (lo c : Int) (n : Nat) : List PyData := (List.range n).map fun i => .int (lo + (i : Nat) * c)
theorem rngD_len {lo c : Int} {n : Nat} : (rngD lo c n).length = n := by simp [rngD]
theorem rngD_at {lo c : Int} {n i : Nat} {d : PyData} (h : (rngD lo c n)[i]? = some d) : d = .int (lo + (i : Nat) * c) := by
  unfold rngD at h
  rw [List.getElem?_map] at h
  cases q : (List.range n)[i]? with
  | none => rw [q] at h; cases h
  | some j =>
    rw [q] at h
    cases h
    obtain ⟨hl, e⟩ := List.getElem?_eq_some_iff.mp q
    rw [List.getElem_range] at e
    rw [e]
theorem walkD_range {lo : Int} {n : Nat} : WalkD K B (Itr lo n) (rngD lo 1 n) := by
  refine ⟨fun i H hi s => by rw [rngD_len] at hi; exact hi, fun H s => by rw [rngD_len]; exact Nat.le_refl _, fun i H x H' e he s y => ?_⟩
  obtain ⟨rfl, rfl⟩ := y
  rw [rngD_at he, Int.mul_one]
  exact .old (.int _)
theorem walkD_rangeC {lo c : Int} {n : Nat} : WalkD K B (Itc lo c n) (rngD lo c n) := by
  refine ⟨fun i H hi s => by rw [rngD_len] at hi; exact hi, fun H s => by rw [rngD_len]; exact Nat.le_refl _, fun i H x H' e he s y => ?_⟩
  obtain ⟨rfl, rfl⟩ := y
  rw [rngD_at he]
  exact .old (.int _)
/-- (0, x), (1, y), .. -/
def enumD (ds : List PyData) : List PyData := ds.mapIdx fun i d => .tuple [.int (i : Nat), d]
theorem enumD_at {i : Nat} {d : PyData} (h : (enumD ds)[i]? = some d) : ∃ x, ds[i]? = some x ∧ d = .tuple [.int (i : Nat), x] := by
  unfold enumD at h
  rw [List.getElem?_mapIdx] at h
  cases q : ds[i]? with
  | none => rw [q] at h; cases h
  | some x => rw [q] at h; cases h; exact ⟨x, rfl, rfl⟩
theorem walkD_enum (h : B a = some (.lst vs)) (d : DDs K B vs ds) : WalkD K B (Ite K a) (enumD ds) := by
  have hl : (enumD ds).length = ds.length := by simp [enumD]
  refine ⟨fun i H hi s => ?_, fun H s => ⟨vs, SqL.of (s _ _ h), by rw [hl, d.length]; exact Nat.le_refl _⟩, fun i H x H' e he s y => ?_⟩
  · rw [hl] at hi
    obtain ⟨v, hv, _⟩ := d.get (List.getElem?_eq_getElem hi)
    exact ⟨vs, v, SqL.of (s _ _ h), hv⟩
  · obtain ⟨T, v, rfl, n, rfl, y⟩ := y
    obtain ⟨x, hx, rfl⟩ := enumD_at he
    obtain ⟨v', hv, hd⟩ := d.get hx
    rw [y vs (SqL.of (s _ _ h))] at hv
    cases hv
    exact .tup n (.cons (.int _) (.cons hd .nil))
def zipD (ds es : List PyData) : List PyData := List.zipWith (fun x y => .tuple [x, y]) ds es
theorem zipD_at {i : Nat} {d : PyData} (h : (zipD ds es)[i]? = some d) : ∃ x y, ds[i]? = some x ∧ es[i]? = some y ∧ d = .tuple [x, y] := by
  unfold zipD at h
  rw [List.getElem?_zipWith] at h
  cases q : ds[i]? with
  | none => rw [q] at h; cases h
  | some x =>
    cases q2 : es[i]? with
    | none => rw [q, q2] at h; cases h
    | some y => rw [q, q2] at h; cases h; exact ⟨x, y, rfl, rfl, rfl⟩
theorem walkD_zip {us : List V} (h : B a = some (.lst vs)) (d : DDs K B vs ds) (h2 : B b = some (.lst us)) (d2 : DDs K B us es) : WalkD K B (Itz K a b) (zipD ds es) := by
  have hl : (zipD ds es).length = min ds.length es.length := by simp [zipD]
  refine ⟨fun i H hi s => ?_, fun H s => ⟨vs, us, SqL.of (s _ _ h), SqL.of (s _ _ h2), by rw [hl, d.length, d2.length]; omega⟩, fun i H x H' e he s y => ?_⟩
  · rw [hl] at hi
    obtain ⟨v, hv, _⟩ := d.get (List.getElem?_eq_getElem (show i < ds.length by omega))
    obtain ⟨w, hw, _⟩ := d2.get (List.getElem?_eq_getElem (show i < es.length by omega))
    exact ⟨vs, us, v, w, SqL.of (s _ _ h), SqL.of (s _ _ h2), hv, hw⟩
  · obtain ⟨T, v, w, rfl, n, rfl, y1, y2⟩ := y
    obtain ⟨x, z, hx, hz, rfl⟩ := zipD_at he
    obtain ⟨v', hv, hd⟩ := d.get hx
    obtain ⟨w', hw, hd2⟩ := d2.get hz
    rw [y1 vs (SqL.of (s _ _ h))] at hv
    rw [y2 us (SqL.of (s _ _ h2))] at hw
    cases hv; cases hw
    exact .tup n (.cons hd (.cons hd2 .nil))
theorem walkD_zipT {us : List V} (h : B a = some (.tup vs)) (d : DDs K B vs ds) (h2 : B b = some (.tup us)) (d2 : DDs K B us es) : WalkD K B (RZ.ItzT K a b) (zipD ds es) := by
  have hl : (zipD ds es).length = min ds.length es.length := by simp [zipD]
  refine ⟨fun i H hi s => ?_, fun H s => ⟨vs, us, SqT.of (s _ _ h), SqT.of (s _ _ h2), by rw [hl, d.length, d2.length]; omega⟩, fun i H x H' e he s y => ?_⟩
  · rw [hl] at hi
    obtain ⟨v, hv, _⟩ := d.get (List.getElem?_eq_getElem (show i < ds.length by omega))
    obtain ⟨w, hw, _⟩ := d2.get (List.getElem?_eq_getElem (show i < es.length by omega))
    exact ⟨vs, us, v, w, SqT.of (s _ _ h), SqT.of (s _ _ h2), hv, hw⟩
  · obtain ⟨T, v, w, rfl, n, rfl, y1, y2⟩ := y
    obtain ⟨x, z, hx, hz, rfl⟩ := zipD_at he
    obtain ⟨v', hv, hd⟩ := d.get hx
    obtain ⟨w', hw, hd2⟩ := d2.get hz
    rw [y1 vs (SqT.of (s _ _ h))] at hv
    rw [y2 us (SqT.of (s _ _ h2))] at hw
    cases hv; cases hw
    exact .tup n (.cons hd (.cons hd2 .nil))
end

/-! ### iterables -/
section
variable {X : Cx} {tg e e2 : Expr} {f : EM} {fa : AM} {p pos tpos : Pos} {elts : List Expr} {kk : Nat}
/-- a list, or a tuple in its place -/
def iSeqV (K : PySem.W.Frag) (tl : TE) : TI := fun σ H R => tl σ H fun x H1 => ∃ a, x = .ref a ∧ (((∃ xs, H1 a = some (.lst xs)) ∧ R (Itl K a) H1) ∨ ((∃ xs, H1 a = some (.tup xs)) ∧ R (Itt K a) H1))
theorem pi_seqV {tl : TE} (hl : PE X e tl) : PI X tg e (iSeqV X.K tl) := by
  refine ⟨fun pins s σ H R I h => thn (hl.run pins s σ H _ I h) fun v s1 ⟨x, H1, I1, r1, a, e1, q1⟩ => ?_⟩
  subst e1
  cases r1
  have fp : ∀ b ∈ [s1.heap.objs.size], FpOk X pins H1 b := fun b hb => by
    have z : b = s1.heap.objs.size := by simpa using hb
    subst z
    exact I1.fpOk (Nat.le_refl _) (I1.hok.fresh (Nat.le_refl _))
  rcases q1 with ⟨⟨xs, hx⟩, q⟩ | ⟨⟨xs, hx⟩, q⟩
  · obtain ⟨its, rv, pl, hz⟩ := I1.list (SqL.of hx)
    exact wpAny_pyIter_list pl.isList ⟨s1.heap.objs.size, [s1.heap.objs.size], _, _, H1, rfl, I1.kept (t' := s1.toks) fun b o z => Heap.get?_push_of_some _ z, turn_list a _, ⟨_, Heap.get?_push_size _ rfl, rfl, rfl⟩, fp, q⟩
  · obtain ⟨its, rv, pl, hz⟩ := I1.tuple (SqT.of hx)
    exact wpAny_pyIter_tuple (show s1.heap.IsTuple a its.toArray from pl) ⟨s1.heap.objs.size, [s1.heap.objs.size], _, _, H1, rfl, I1.kept (t' := s1.toks) fun b o z => Heap.get?_push_of_some _ z, turn_tuple a _, ⟨_, Heap.get?_push_size _ rfl, rfl, rfl⟩, fp, q⟩
def iSeq (f : EM) : AM := fun ρ => (f ρ).bind fun a => (itemsOf a.1.data).map fun xs => (xs, a.2)
theorem di_seq (hl : DE X e f) : DI X tg e (iSeq f) := PI.imp (pi_seqV hl) fun σ H R ⟨F, B, pa, ρ, ds, ρ', S, e, k⟩ => by
  obtain ⟨⟨r, ρ1⟩, e1, e⟩ := bind_some e
  obtain ⟨xs, e2, e⟩ := map_some e
  cases e
  refine tD_take S e1 fun v B1 H1 S1 s1 d1 => ?_
  have d1 : DD X.K B1 v r.data := d1
  cases hr : r.data with
  | list ys =>
    rw [hr] at d1 e2
    cases e2
    cases d1 with
    | lst h1 h2 => exact ⟨_, rfl, .inl ⟨⟨_, S1.sb _ _ h1⟩, k _ B1 H1 S1 s1 (walkD_list h1 h2)⟩⟩
  | tuple ys =>
    rw [hr] at d1 e2
    cases e2
    cases d1 with
    | tup h1 h2 => exact ⟨_, rfl, .inr ⟨⟨_, S1.sb _ _ h1⟩, k _ B1 H1 S1 s1 (walkD_tup h1 h2)⟩⟩
  | none => rw [hr] at e2; cases e2
  | bool _ => rw [hr] at e2; cases e2
  | int _ => rw [hr] at e2; cases e2
  | str _ => rw [hr] at e2; cases e2
  | dict _ => rw [hr] at e2; cases e2
/-- range(n), range(a, b), range(a, b, -1) -/
def small62 (i : Int) : Bool := decide (-(2 ^ 62) ≤ i) && decide (i < 2 ^ 62)
theorem small62_eq {i : Int} (h : small62 i = true) : -(2 ^ 62) ≤ i ∧ i < 2 ^ 62 := by
  unfold small62 at h
  simpa using h
def range1D : List PyData → Option (List PyData)
  | [.int n] => if small62 n = true then some (rngD 0 1 n.toNat) else none
  | _ => none
def range2D : List PyData → Option (List PyData)
  | [.int i, .int j] => if (small62 i && small62 j) = true then some (rngD i 1 (j - i).toNat) else none
  | _ => none
/-- downward by one -/
def range3D : List PyData → Option (List PyData)
  | [.int i, .int j, .int c] => if (small62 i && small62 j && c == -1) = true then some (rngD i (-1) (i - j).toNat) else none
  | _ => none
def iApp (g : List PyData → Option (List PyData)) (f : AM) : AM := fun ρ => (f ρ).bind fun a => (g a.1).map fun xs => (xs, a.2)
theorem di_range1 (hg : Gl X "range") (hm : X.mg "range" = none) (ha : DA X [e] fa) (hs : starEach [e] X.env = [(false, eval e X.env)] := by rfl) : DI X tg (.Call (.Name "range" p) [e] [] pos) (iApp range1D fa) := PI.imp (pi_range1 hg hm ha hs) fun σ H R ⟨F, B, pa, ρ, ds, ρ', S, e, k⟩ => by
  obtain ⟨⟨xs, ρ1⟩, e1, e⟩ := bind_some e
  obtain ⟨ys, e2, e⟩ := map_some e
  cases e
  refine ⟨F, B, pa, ρ, xs, _, S, e1, fun vs B1 H1 S1 s1 d1 => ?_⟩
  change range1D xs = some _ at e2
  unfold range1D at e2
  split at e2
  · split at e2
    · rename_i hz
      cases e2
      obtain ⟨v, rfl, h⟩ := one_of d1
      cases h
      obtain ⟨z1, z2⟩ := small62_eq hz
      exact ⟨_, rfl, z1, z2, k _ B1 H1 S1 s1 walkD_range⟩
    · cases e2
  · cases e2
theorem di_range2 (hg : Gl X "range") (hm : X.mg "range" = none) (ha : DA X [e, e2] fa) (hs : starEach [e, e2] X.env = [(false, eval e X.env), (false, eval e2 X.env)] := by rfl) (hs2 : starEach [e2] X.env = [(false, eval e2 X.env)] := by rfl) :
    DI X tg (.Call (.Name "range" p) [e, e2] [] pos) (iApp range2D fa) := PI.imp (pi_range2 hg hm ha hs hs2) fun σ H R ⟨F, B, pa, ρ, ds, ρ', S, e, k⟩ => by
  obtain ⟨⟨xs, ρ1⟩, e1, e⟩ := bind_some e
  obtain ⟨ys, e2, e⟩ := map_some e
  cases e
  refine ⟨F, B, pa, ρ, xs, _, S, e1, fun vs B1 H1 S1 s1 d1 => ?_⟩
  change range2D xs = some _ at e2
  unfold range2D at e2
  split at e2
  · split at e2
    · rename_i hz
      cases e2
      obtain ⟨v, w, rfl, h, h'⟩ := two_of d1
      cases h; cases h'
      obtain ⟨z1, z2⟩ := small62_eq (Bool.and_eq_true_iff.mp hz).1
      obtain ⟨z3, z4⟩ := small62_eq (Bool.and_eq_true_iff.mp hz).2
      exact ⟨_, _, rfl, ⟨z1, z2, z3, z4⟩, k _ B1 H1 S1 s1 walkD_range⟩
    · cases e2
  · cases e2
theorem di_range3 {e3 : Expr} (hg : Gl X "range") (hm : X.mg "range" = none) (ha : DA X [e, e2, e3] fa) (hs : starEach [e, e2, e3] X.env = [(false, eval e X.env), (false, eval e2 X.env), (false, eval e3 X.env)] := by rfl)
    (hp : PI X tg (.Call (.Name "range" p) [e, e2, e3] [] pos) (iRng3 (tDA X.K fa))) : DI X tg (.Call (.Name "range" p) [e, e2, e3] [] pos) (iApp range3D fa) := PI.imp hp fun σ H R ⟨F, B, pa, ρ, ds, ρ', S, e, k⟩ => by
  obtain ⟨⟨xs, ρ1⟩, e1, e⟩ := bind_some e
  obtain ⟨ys, e2, e⟩ := map_some e
  cases e
  refine ⟨F, B, pa, ρ, xs, _, S, e1, fun vs B1 H1 S1 s1 d1 => ?_⟩
  change range3D xs = some _ at e2
  unfold range3D at e2
  split at e2
  · split at e2
    · rename_i hz
      cases e2
      simp only [Bool.and_eq_true, beq_iff_eq] at hz
      obtain ⟨⟨z1, z2⟩, rfl⟩ := hz
      obtain ⟨z1, z1'⟩ := small62_eq z1
      obtain ⟨z2, z2'⟩ := small62_eq z2
      cases d1 with
      | cons h1 d1 =>
        obtain ⟨v, w, rfl, h2, h3⟩ := two_of d1
        cases h1; cases h2; cases h3
        exact ⟨_, _, _, _, rfl, RgC.neg z1 z1' z2 z2', k _ B1 H1 S1 s1 walkD_rangeC⟩
    · cases e2
  · cases e2
/-- zip of two lists, of two tuples -/
def zip2D : List PyData → Option (List PyData)
  | [.list xs, .list ys] => some (zipD xs ys)
  | [.tuple xs, .tuple ys] => some (zipD xs ys)
  | _ => none
theorem di_zip (hg : Gl X "zip") (hm : X.mg "zip" = none) (ha : DA X [e, e2] fa) (hs : starEach [e, e2] X.env = (false, eval e X.env) :: starEach [e2] X.env := by rfl) (hpl : (backTo pos (starEach [e2] X.env)).any (·.1) = false := by rfl) :
    DI X (.Tuple elts kk tpos) (.Call (.Name "zip" p) [e, e2] [] pos) (iApp zip2D fa) := PI.imp (RZ.pi_zipA hg hm ha hs hpl) fun σ H R ⟨F, B, pa, ρ, ds, ρ', S, e, k⟩ => by
  obtain ⟨⟨xs, ρ1⟩, e1, e⟩ := bind_some e
  obtain ⟨ys, e2, e⟩ := map_some e
  cases e
  refine ⟨F, B, pa, ρ, xs, _, S, e1, fun vs B1 H1 S1 s1 d1 => ?_⟩
  change zip2D xs = some _ at e2
  unfold zip2D at e2
  split at e2
  · cases e2
    obtain ⟨v, w, rfl, h, h'⟩ := two_of d1
    cases h with
    | lst h1 g1 =>
      cases h' with
      | lst h2 g2 => exact ⟨_, _, _, _, rfl, .inl ⟨SqL.of (S1.sb _ _ h1), SqL.of (S1.sb _ _ h2), k _ B1 H1 S1 s1 (walkD_zip h1 g1 h2 g2)⟩⟩
  · cases e2
    obtain ⟨v, w, rfl, h, h'⟩ := two_of d1
    cases h with
    | tup h1 g1 =>
      cases h' with
      | tup h2 g2 => exact ⟨_, _, _, _, rfl, .inr ⟨SqT.of (S1.sb _ _ h1), SqT.of (S1.sb _ _ h2), k _ B1 H1 S1 s1 (walkD_zipT h1 g1 h2 g2)⟩⟩
  · cases e2
end
end DL
end PDL8
section PDL9
/-! for, while, comprehensions. -/
namespace DL
open PySem PySem.Spec PyProof.Rows L2

/-! ### for -/
def forRun (gd : GD) (g : SM) : List PyData → Rho → Option Out
  | [], ρ => some (.nx ρ)
  | d :: ds, ρ => (gd (.d d) ρ).bind fun ρ1 => (g ρ1).bind fun
    | .nx ρ2 => forRun gd g ds ρ2
    | .ct ρ2 => forRun gd g ds ρ2
    | .bk ρ2 => some (.nx ρ2)
    | .ret r ρ2 => some (.ret r ρ2)
def sFor (f : AM) (gd : GD) (g : SM) : SM := fun ρ => (f ρ).bind fun a => forRun gd g a.1 a.2
theorem NewR.state {K : PySem.W.Frag} {F B B0 H H' : Hp} {pa : Nat → Option Addr} {σ : L2.St} {ρ : Rho} {v : V} {d : PyData} (n : NewR K B0 H v H' (.d d)) (s : Same B0 B) (S : StR K F B pa σ H ρ) : ∃ B', StR K F B' pa σ H' ρ ∧ Same B B' ∧ DD K B' v d := by
  obtain ⟨B', S', s', q⟩ := (n.up s).back S
  exact ⟨B', S', s', q⟩
section
variable {X : Cx} {tg iter : Expr} {body : List Stmt} {f : AM} {gd : GD} {g : SM} {is : List Nat} {pos : Pos}
theorem ds_for (hp : PassesOwn (model X.prog X.w) X.A X.env X.xe) (hc : X.calm = true) (hi : DI X tg iter f) (hg : DG X is tg gd) (hb : DSs X body g) (hs : ∀ x, foldedSetIterable iter X.env x = pure x := by intro _; rfl) :
    DS X (.For tg iter body [] pos) (sFor f gd g) := PS.imp (ps_for hp hc hi hg hb hs) fun D σ H ⟨F, B, pa, ρ, out, S, e, k⟩ => by
  obtain ⟨⟨ds, ρ0⟩, e0, e⟩ := bind_some e
  have e : forRun gd g ds ρ0 = some out := e
  refine ⟨F, B, pa, ρ, ds, ρ0, S, e0, fun J B0 H0 S0 s0 w => ?_⟩
  refine ⟨fun i m σ H => m = ds.length - i ∧ i ≤ ds.length ∧ ∃ B1 ρ1, StR X.K F B1 pa σ H ρ1 ∧ Same B0 B1 ∧ forRun gd g (ds.drop i) ρ1 = some out, ⟨ds.length, rfl, Nat.zero_le _, B0, ρ0, S0, Same.refl _, e⟩, ?_⟩
  rintro i m σ1 H1 ⟨rfl, hi, B1, ρ1, S1, s1, e1⟩
  by_cases hl : i < ds.length
  · rw [List.drop_eq_getElem_cons hl] at e1
    obtain ⟨ρ2, e2, e3⟩ := bind_some e1
    obtain ⟨o, e4, e5⟩ := bind_some e3
    refine .inr ⟨w.goes i H1 hl (s1.trans S1.sb), fun σ' H' => ∃ B' ρ', StR X.K F B' pa σ' H' ρ' ∧ Same B0 B' ∧ forRun gd g (ds.drop (i + 1)) ρ' = some out, fun σ' H' ⟨B', ρ', S', s', e'⟩ => ⟨ds.length - (i + 1), by omega, rfl, hl, B', ρ', S', s', e'⟩, fun x H2 y => ?_⟩
    obtain ⟨B2, S2, s2, q2⟩ := (w.yields i H1 x H2 _ (List.getElem?_eq_getElem hl) (s1.trans S1.sb) y).state s1 S1
    refine ⟨F, B2, pa, ρ1, .d ds[i], ρ2, S2, q2, e2, fun σ3 B3 H3 S3 s3 _ => ⟨F, B3, pa, ρ2, o, S3, e4, ?_⟩⟩
    have sB : Same B0 B3 := s1.trans (s2.trans s3)
    cases o with
    | nx ρ3 => exact fun σ' B' H' S' s' => ⟨B', ρ3, S', sB.trans s', e5⟩
    | ct ρ3 => exact fun σ' B' H' S' s' => ⟨B', ρ3, S', sB.trans s', e5⟩
    | bk ρ3 =>
      cases e5
      exact fun σ' B' H' S' s' => k σ' B' H' S' (s0.trans (sB.trans s'))
    | ret r ρ3 =>
      cases e5
      exact fun v σ' B' H' S' s' => k v σ' B' H' S' (s0.trans (sB.trans s'))
  · have hi : i = ds.length := by omega
    subst hi
    rw [List.drop_eq_nil_of_le (Nat.le_refl _)] at e1
    cases e1
    exact .inl ⟨w.stops H1 (s1.trans S1.sb), k σ1 B1 H1 S1 (s0.trans s1)⟩
end

/-! ### while -/
def whileN (t : TM) (g : SM) : Nat → Rho → Option Out
  | 0, _ => none
  | n + 1, ρ => (t ρ).bind fun a => if a.1 = true then (g a.2).bind fun
      | .nx ρ2 => whileN t g n ρ2
      | .ct ρ2 => whileN t g n ρ2
      | .bk ρ2 => some (.nx ρ2)
      | .ret r ρ2 => some (.ret r ρ2)
    else some (.nx a.2)
theorem whileN_succ {t : TM} {g : SM} : ∀ {n : Nat} {ρ : Rho} {o : Out}, whileN t g n ρ = some o → whileN t g (n + 1) ρ = some o
  | 0, _, _, e => by cases e
  | n + 1, ρ, o, e => by
    obtain ⟨⟨b, ρ1⟩, e1, e2⟩ := bind_some e
    show (t ρ).bind _ = some o
    rw [e1]
    change (if b = true then (g ρ1).bind _ else some (.nx ρ1)) = some o at e2
    show (if b = true then (g ρ1).bind _ else some (.nx ρ1)) = some o
    cases b with
    | false => exact e2
    | true =>
      rw [if_pos rfl] at e2 ⊢
      obtain ⟨o1, e3, e4⟩ := bind_some e2
      rw [e3]
      cases o1 with
      | nx ρ2 => exact whileN_succ e4
      | ct ρ2 => exact whileN_succ e4
      | bk ρ2 => exact e4
      | ret r ρ2 => exact e4
theorem whileN_le {t : TM} {g : SM} {n m : Nat} {ρ : Rho} {o : Out} (e : whileN t g n ρ = some o) (h : n ≤ m) : whileN t g m ρ = some o := by
  induction h with
  | refl => exact e
  | step _ ih => exact whileN_succ ih
open Classical in
noncomputable def sWhile (t : TM) (g : SM) : SM := fun ρ => if h : ∃ n o, whileN t g n ρ = some o then some h.choose_spec.choose else none
theorem sWhile_some {t : TM} {g : SM} {ρ : Rho} {o : Out} (e : sWhile t g ρ = some o) : ∃ n, whileN t g n ρ = some o := by
  unfold sWhile at e
  split at e
  · rename_i h
    cases e
    exact ⟨h.choose, h.choose_spec.choose_spec⟩
  · cases e
theorem sWhile_of {t : TM} {g : SM} {ρ : Rho} {o : Out} {n : Nat} (e : whileN t g n ρ = some o) : sWhile t g ρ = some o := by
  have h : ∃ n o, whileN t g n ρ = some o := ⟨n, o, e⟩
  unfold sWhile
  rw [dif_pos h]
  have a := whileN_le h.choose_spec.choose_spec (Nat.le_max_left h.choose n)
  have b := whileN_le e (Nat.le_max_right h.choose n)
  rw [a] at b
  exact b
section
variable {X : Cx} {c : Expr} {body : List Stmt} {t : TM} {g : SM} {pos : Pos}
theorem ds_while (hp : PassesOwn (model X.prog X.w) X.A X.env X.xe) (hc : DT X c t) (hb : DSs X body g) : DS X (.While c body [] pos) (sWhile t g) := PS.imp (ps_while hp hc hb) fun D σ H ⟨F, B, pa, ρ, out, S, e, k⟩ => by
  obtain ⟨n, e⟩ := sWhile_some e
  refine ⟨fun m σ H => ∃ B1 ρ1, StR X.K F B1 pa σ H ρ1 ∧ Same B B1 ∧ whileN t g m ρ1 = some out, ⟨n, B, ρ, S, Same.refl _, e⟩, ?_⟩
  rintro m σ1 H1 ⟨B1, ρ1, S1, s1, e1⟩
  cases m with
  | zero => cases e1
  | succ m =>
    obtain ⟨⟨b, ρ2⟩, e2, e3⟩ := bind_some e1
    refine ⟨F, B1, pa, ρ1, b, ρ2, S1, e2, fun B2 H2 S2 s2 => ?_⟩
    have e3 : (if b = true then (g ρ2).bind _ else some (.nx ρ2)) = some out := e3
    cases b with
    | false =>
      rw [if_neg Bool.false_ne_true] at e3
      cases e3
      refine iteF ?_
      exact k σ1 B2 H2 S2 (s1.trans s2)
    | true =>
      rw [if_pos rfl] at e3
      obtain ⟨o, e4, e5⟩ := bind_some e3
      refine iteT ?_
      refine ⟨fun σ' H' => ∃ B' ρ', StR X.K F B' pa σ' H' ρ' ∧ Same B B' ∧ whileN t g m ρ' = some out, fun σ' H' ⟨B', ρ', h⟩ => ⟨m, Nat.lt_succ_self m, B', ρ', h⟩, F, B2, pa, ρ2, o, S2, e4, ?_⟩
      have sB := s1.trans s2
      cases o with
      | nx ρ3 => exact fun σ' B' H' S' s' => ⟨B', ρ3, S', sB.trans s', e5⟩
      | ct ρ3 => exact fun σ' B' H' S' s' => ⟨B', ρ3, S', sB.trans s', e5⟩
      | bk ρ3 =>
        cases e5
        exact fun σ' B' H' S' s' => k σ' B' H' S' (sB.trans s')
      | ret r ρ3 =>
        cases e5
        exact fun v σ' B' H' S' s' => k v σ' B' H' S' (sB.trans s')
end

/-! ### comprehensions -/
def wipeR (ρ : Rho) : List Nat → Rho
  | [] => ρ
  | v :: vs => (wipeR ρ vs).set v .u
def compRun (is : List Nat) (gd : GD) (t : TM) (f : EM) : List PyData → List PyData → Rho → Option (List PyData × Rho)
  | [], acc, ρ => some (acc, ρ)
  | d :: ds, acc, ρ => (gd (.d d) ρ).bind fun ρ1 => (t ρ1).bind fun b => if b.1 = true then (f b.2).bind fun a => if acc.length < sizeLine then compRun is gd t f ds (acc ++ [a.1.data]) (wipeR a.2 is) else none
    else compRun is gd t f ds acc (wipeR b.2 is)
def eComp (is : List Nat) (fi : AM) (gd : GD) (t : TM) (f : EM) : EM := fun ρ => (fi ρ).bind fun a => (compRun is gd t f a.1 [] (wipeR a.2 is)).map fun b => (.l b.1, b.2)
def tAll : TM := fun ρ => some (true, ρ)
abbrev DTs (X : Cx) (ifs : List Expr) (t : TM) : Prop := PTs X ifs (tDT X.K t)
theorem dts_nil {X : Cx} : DTs X [] tAll := ⟨fun pins s σ H Q I ⟨F, B, pa, ρ, b, ρ', S, e, k⟩ => by
  cases e
  exact pts_nil.run pins s σ H Q I (k B H S (Same.refl _))⟩
theorem dts_one {X : Cx} {c : Expr} {t : TM} (h : DT X c t) : DTs X [c] t := pts_one h
section
variable {K : PySem.W.Frag} {F B B' H H' : Hp} {pa : Nat → Option Addr} {σ σ' : L2.St} {ρ : Rho}
theorem wipe_eq {vs : List Nat} (h : Off vs σ σ') : wipe σ' vs = wipe σ vs := by
  apply List.ext_getElem?
  intro j
  by_cases hj : j ∈ vs
  · have lem : ∀ (τ : L2.St) (vs : List Nat), j ∈ vs → (wipe τ vs)[j]? = if j < τ.length then some none else none := fun τ vs => by
      induction vs with
      | nil => intro z; cases z
      | cons v vs ih =>
        intro z
        unfold wipe
        by_cases hv : v = j
        · subst hv
          by_cases hl : v < τ.length
          · rw [List.getElem?_set_self (by rw [wipe_length]; exact hl), if_pos hl]
          · rw [if_neg hl]
            exact List.getElem?_eq_none_iff.mpr (by rw [List.length_set, wipe_length]; omega)
        · rw [List.getElem?_set_ne hv]
          exact ih ((List.mem_cons.mp z).resolve_left (Ne.symm hv))
    rw [lem σ' vs hj, lem σ vs hj, h.1]
  · rw [wipe_out hj, wipe_out hj]
    exact h.2 j hj
theorem wipeR_len : ∀ vs : List Nat, (wipeR ρ vs).length = ρ.length
  | [] => rfl
  | v :: vs => by unfold wipeR; rw [List.length_set, wipeR_len vs]
theorem wipeR_in {j : Nat} : ∀ {vs : List Nat} {s : Sl}, j ∈ vs → (wipeR ρ vs)[j]? = some s → s = .u
  | v :: vs, s, hj, e => by
    unfold wipeR at e
    by_cases hv : v = j
    · subst hv
      have hl : v < (wipeR ρ vs).length := by
        obtain ⟨hl, _⟩ := List.getElem?_eq_some_iff.mp e
        simpa using hl
      rw [List.getElem?_set_self hl] at e
      cases e
      rfl
    · rw [List.getElem?_set_ne hv] at e
      exact wipeR_in ((List.mem_cons.mp hj).resolve_left (Ne.symm hv)) e
theorem wipeR_out {j : Nat} : ∀ {vs : List Nat}, j ∉ vs → (wipeR ρ vs)[j]? = ρ[j]?
  | [], _ => rfl
  | v :: vs, h => by
    unfold wipeR
    rw [List.getElem?_set_ne (fun e => h (by rw [e]; exact List.mem_cons_self))]
    exact wipeR_out fun m => h (List.mem_cons_of_mem _ m)
/-- the block's own slots are forgotten: whatever they hold -/
theorem StR.wipe {vs : List Nat} (S : StR K F B pa σ H ρ) (h : Off vs σ σ') : StR K F B pa σ' H (wipeR ρ vs) := by
  have cell : ∀ {i : Nat} {a : Addr}, CellAt (wipeR ρ vs) σ' i a → CellAt ρ σ i a := fun {i a} ⟨s, e, hc, z⟩ => by
    by_cases hi : i ∈ vs
    · rw [wipeR_in hi e] at hc
      cases hc
    · rw [wipeR_out hi] at e
      rw [h.2 i hi] at z
      exact ⟨s, e, hc, z⟩
  refine ⟨by rw [wipeR_len, h.1]; exact S.len, S.sb, S.sf, S.fb, fun i s e => ?_, fun i j a c1 c2 => S.ds i j a (cell c1) (cell c2)⟩
  by_cases hi : i ∈ vs
  · rw [wipeR_in hi e]
    trivial
  · rw [wipeR_out hi] at e
    have w := S.sl i s e
    have z := h.2 i hi
    cases s with
    | u => trivial
    | d x => obtain ⟨u, h1, h2⟩ := w; exact ⟨u, z.trans h1, h2⟩
    | l xs => obtain ⟨b, ws, h1, h2⟩ := w; exact ⟨b, ws, z.trans h1, h2⟩
    | p xs => obtain ⟨b, ws, h0, h1, h2⟩ := w; exact ⟨b, ws, h0, z.trans h1, h2⟩
    | k t kvs => obtain ⟨b, h1, h2⟩ := w; exact ⟨b, z.trans h1, h2⟩
theorem off_wipe (σ : L2.St) (vs : List Nat) : Off vs σ (L2.wipe σ vs) := ⟨wipe_length _ _, fun j hj => wipe_out hj⟩
theorem Off.symm {vs : List Nat} (h : Off vs σ σ') : Off vs σ' σ := ⟨h.1.symm, fun j hj => (h.2 j hj).symm⟩
theorem Off.trans {vs : List Nat} {τ : L2.St} (h : Off vs σ σ') (g : Off vs σ' τ) : Off vs σ τ := ⟨g.1.trans h.1, fun j hj => (g.2 j hj).trans (h.2 j hj)⟩
theorem wipeR_twice {vs : List Nat} : wipeR (wipeR ρ vs) vs = wipeR ρ vs := by
  apply List.ext_getElem?
  intro j
  by_cases hj : j ∈ vs
  · cases e : (wipeR ρ vs)[j]? with
    | none =>
      rw [List.getElem?_eq_none_iff] at e ⊢
      rw [wipeR_len]
      exact e
    | some s =>
      cases e2 : (wipeR (wipeR ρ vs) vs)[j]? with
      | none =>
        rw [List.getElem?_eq_none_iff, wipeR_len] at e2
        have hl := (List.getElem?_eq_some_iff.mp e).1
        omega
      | some s2 => rw [wipeR_in hj e, wipeR_in hj e2]
  · rw [wipeR_out hj]
end
section
variable {X : Cx} {elt tg iter : Expr} {ifs : List Expr} {scope : Scope} {own : List (Str × Nat)} {is : List Nat} {fi : AM} {gd : GD} {t : TM} {f : EM} {pos spos : Pos}
theorem tLc_of {K : PySem.W.Frag} : ∀ σ H Q, tD K (eComp is fi gd t f) σ H Q → tLc (tDI K fi) (tDG K is gd) (tDT K t) (tD K f) is σ H Q := fun σ H Q ⟨F, B, pa, ρ, r, ρ', S, e, k⟩ => by
  obtain ⟨⟨ds, ρ0⟩, e0, e⟩ := bind_some e
  obtain ⟨⟨out, ρe⟩, e1, e⟩ := map_some e
  have er : r = .l out := (Prod.mk.inj e).1.symm
  have eρ : ρ' = ρe := (Prod.mk.inj e).2.symm
  subst er eρ
  have e1 : compRun is gd t f ds [] (wipeR ρ0 is) = some (out, ρ') := e1
  refine ⟨F, B, pa, ρ, ds, ρ0, S, e0, fun J B0 H0 S0 s0 w D hD => ?_⟩
  let Inv' : Nat → Hp → Prop := fun i H => ∃ B1 ρ1 acc ws, StR K F B1 pa (L2.wipe σ is) H ρ1 ∧ wipeR ρ1 is = ρ1 ∧ Same B0 B1 ∧ H D = some (.lst ws) ∧ B1 D = none ∧ F D = none ∧ (∀ i, ¬ CellAt ρ1 (L2.wipe σ is) i D) ∧ DDs K B1 ws acc ∧ compRun is gd t f (ds.drop i) acc ρ1 = some (out, ρ')
  refine ⟨fun i m H => m = ds.length - i ∧ i ≤ ds.length ∧ Inv' i H, ⟨ds.length, rfl, Nat.zero_le _, B0, wipeR ρ0 is, [], [], (S0.wipe (off_wipe σ is)).new hD, wipeR_twice, Same.refl _, upd_same, S0.noB hD, S0.noF hD, fun i => (S0.wipe (off_wipe σ is)).noC hD i, .nil, e1⟩, ?_⟩
  rintro i m H1 ⟨rfl, hi, B1, ρ1, acc, ws, S1, z1, s1, hD1, bD, fD, nC, dA, e2⟩
  by_cases hl : i < ds.length
  · rw [List.drop_eq_getElem_cons hl] at e2
    obtain ⟨ρ2, e3, e4⟩ := bind_some e2
    obtain ⟨⟨b, ρ3⟩, e5, e6⟩ := bind_some e4
    refine .inr ⟨w.goes i H1 hl (s1.trans S1.sb), fun H' => Inv' (i + 1) H', fun H' h => ⟨ds.length - (i + 1), by omega, rfl, hl, h⟩, fun x H2 y => ?_⟩
    have S1' := S1.moreF hD1 bD nC
    obtain ⟨B2, S2, s2, q2⟩ := (w.yields i H1 x H2 _ (List.getElem?_eq_getElem hl) (s1.trans S1.sb) y).state s1 S1'
    refine ⟨_, B2, pa, ρ1, .d ds[i], ρ2, S2, q2, e3, fun σ3 B3 H3 S3 s3 o3 => ⟨wipe_eq (Off.trans (off_wipe σ is) o3) , ?_⟩⟩
    refine ⟨_, B3, pa, ρ2, b, ρ3, S3, e5, fun B4 H4 S4 s4 => ?_⟩
    have sB : Same B1 B4 := s2.trans (s3.trans s4)
    have back : ∀ {σ' : L2.St} {B' H' : Hp} {ρ' : Rho}, StR K (upd F D (.lst ws)) B' pa σ' H' ρ' → Off is (L2.wipe σ is) σ' → StR K F B' pa (L2.wipe σ is) H' (wipeR ρ' is) ∧ B' D = none ∧ H' D = some (.lst ws) ∧ ∀ i, ¬ CellAt (wipeR ρ' is) (L2.wipe σ is) i D := fun {σ' B' H' ρ'} S' o => by
      have S6 := (S'.wipe (o.symm))
      refine ⟨S6.weakF (same_new fD), S'.fb D (by rw [upd_same]; simp), S'.sf D _ upd_same, fun i c => ?_⟩
      have z := (S6.cellB c).2.1
      rw [upd_same] at z
      cases z
    have e6 : (if b = true then (f ρ3).bind _ else compRun is gd t f (ds.drop (i + 1)) acc (wipeR ρ3 is)) = some (out, ρ') := e6
    cases b with
    | false =>
      rw [if_neg Bool.false_ne_true] at e6
      refine iteF ?_
      obtain ⟨S7, b7, h7, n7⟩ := back S4 o3
      exact ⟨B4, wipeR ρ3 is, acc, ws, S7, wipeR_twice, s1.trans sB, h7, b7, fD, n7, dA.up sB, e6⟩
    | true =>
      rw [if_pos rfl] at e6
      refine iteT ?_
      obtain ⟨⟨r5, ρ5⟩, e7, e8⟩ := bind_some e6
      change (if acc.length < sizeLine then compRun is gd t f (ds.drop (i + 1)) (acc ++ [r5.data]) (wipeR ρ5 is) else none) = some (out, ρ') at e8
      split at e8
      · rename_i hz
        refine tD_take S4 e7 fun yv B5 H5 S5 s5 d5 => ?_
        obtain ⟨S7, b7, h7, n7⟩ := back S5 o3
        have sB5 := sB.trans s5
        refine ⟨ws, h7, by rw [dA.length]; exact hz, B5, wipeR ρ5 is, _, _, ?_, wipeR_twice, s1.trans sB5, upd_same, b7, fD, n7, (dA.up sB5).snoc d5, e8⟩
        exact S7.grow (Same.refl _) (same_off S7.sb b7) (same_off S7.sf fD) S7.fb fun j a c => ⟨(S7.cellB c).1, upd_ne fun z => n7 j (by rw [← z]; exact c)⟩
      · cases e8
  · have hi : i = ds.length := by omega
    subst hi
    rw [List.drop_eq_nil_of_le (Nat.le_refl _)] at e2
    cases e2
    refine .inl ⟨w.stops H1 (s1.trans S1.sb), ?_⟩
    have S9 := S1.wipe (vs := is) (off_wipe σ is).symm
    rw [z1] at S9
    refine k (.ref D) B1 H1 S9 (s0.trans s1) ⟨D, ws, rfl, bD, fD, hD1, dA, fun j c => ?_⟩
    obtain ⟨s, es, hc, hs⟩ := c
    by_cases hj : j ∈ is
    · rw [← z1] at es
      rw [wipeR_in hj es] at hc
      cases hc
    · exact nC j ⟨s, es, hc, by rw [wipe_out hj]; exact hs⟩
theorem de_comp (hc : X.calm = true) (hN : X.N.Nodup) (hi : DI X tg iter fi) (ok : BlkOk X.N X.env.scope scope own) (his : own.map (·.2) = is)
    (hg : ∀ (s : Shared) (H : Hp) (C : Addr) (cl : List (Str × Addr)) (fp : List Addr), DG (X.blk s H scope (compEnvC scope cl C X.env) fp) is tg gd) (ht : ∀ (s : Shared) (H : Hp) (C : Addr) (cl : List (Str × Addr)) (fp : List Addr), DTs (X.blk s H scope (compEnvC scope cl C X.env) fp) ifs t)
    (he : ∀ (s : Shared) (H : Hp) (C : Addr) (cl : List (Str × Addr)) (fp : List Addr), DE (X.blk s H scope (compEnvC scope cl C X.env) fp) elt f) (hs : ∀ x, foldedSetIterable iter X.env x = pure x := by intro _; rfl) :
    DE X (.ListComp elt [⟨tg, iter, ifs, 0⟩] scope pos) (eComp is fi gd t f) := by
  subst his
  exact PE.imp (pe_lc hc hN hi ok hg ht he hs) tLc_of
theorem ds_setComp {i : Nat} {y : Str} {py : Pos} (hc : X.calm = true) (hN : X.N.Nodup) (hy : X.N[i]? = some y) (hyl : X.env.scope.names.lookup y = some .local)
    (hsw : swapsWith (.ListComp elt [⟨tg, iter, ifs, 0⟩] scope pos) (some (.Name y py)) spos.line X.env = pure true) (hi : DI X tg iter fi) (ok : BlkOk X.N X.env.scope scope own) (his : own.map (·.2) = is)
    (hg : ∀ (s : Shared) (H : Hp) (C : Addr) (cl : List (Str × Addr)) (fp : List Addr), DG (X.blk s H scope (compEnvC scope cl C X.env) fp) is tg gd) (ht : ∀ (s : Shared) (H : Hp) (C : Addr) (cl : List (Str × Addr)) (fp : List Addr), DTs (X.blk s H scope (compEnvC scope cl C X.env) fp) ifs t)
    (he : ∀ (s : Shared) (H : Hp) (C : Addr) (cl : List (Str × Addr)) (fp : List Addr), DE (X.blk s H scope (compEnvC scope cl C X.env) fp) elt f) (hs : ∀ x, foldedSetIterable iter X.env x = pure x := by intro _; rfl) :
    DS X (.Assign [.Name y py] (.ListComp elt [⟨tg, iter, ifs, 0⟩] scope pos) spos) (sSet i (eComp is fi gd t f)) := by
  subst his
  exact PS.imp (ps_setLc hc hN hy hyl hsw hi ok hg ht he hs) (sSet_of tLc_of)
end
end DL
end PDL9
section PDL10
/-! Subscripts, slices, is, isinstance, built-ins. -/
namespace DL
open PySem PySem.Spec PyProof.Rows L2

section
variable {X : Cx}
/-! ### subscripts -/
def gIx : PyData → PyData → Option Rs
  | .list xs, .int i => (atI xs i).map Rs.d
  | .tuple xs, .int i => (atI xs i).map Rs.d
  | _, _ => none
theorem DDs.atI {K : PySem.W.Frag} {B : Hp} {vs : List V} {ds : List PyData} {i : Int} {d : PyData} (h : DDs K B vs ds) (e : L2.atI ds i = some d) : ∃ v, L2.atI vs i = some v ∧ DD K B v d := by
  obtain ⟨j, e1, e2⟩ := bind_some e
  obtain ⟨v, h1, h2⟩ := h.get e2
  refine ⟨v, ?_, h2⟩
  unfold L2.atI
  rw [h.length, e1]
  exact h1
theorem dix : IxR X (rD X.K gIx) := by
  intro value slice pins s σ H x y v u Q I rx ry h hs
  obtain ⟨B, d, e, r, sb, hd, he, eg, k⟩ := h
  unfold gIx at eg
  split at eg
  · obtain ⟨w, e1, eg⟩ := map_some eg
    cases eg; cases he
    cases hd with
    | lst h1 d1 =>
      obtain ⟨z, h2, h3⟩ := d1.atI e1
      exact ix_list value slice pins s σ H _ _ v u Q I rx ry ⟨_, _, _, z, rfl, rfl, SqL.of (sb _ _ h1), h2, k _ _ (.old h3)⟩ hs
  · obtain ⟨w, e1, eg⟩ := map_some eg
    cases eg; cases he
    cases hd with
    | tup h1 d1 =>
      obtain ⟨z, h2, h3⟩ := d1.atI e1
      exact ix_tup value slice pins s σ H _ _ v u Q I rx ry ⟨_, _, _, z, rfl, rfl, SqT.of (sb _ _ h1), h2, k _ _ (.old h3)⟩ hs
  · cases eg
variable {a b e : Expr} {f g : EM} {pos p2 : Pos} {i : Nat}
theorem de_ix (ha : DE X a f) (hb : DE X b g) (hs : PlainIx b := by intro _ _; rfl) : DE X (.Subscript a b pos) (eBin gIx f g) := PE.imp (pe_ix dix ha hb hs) fun _ _ _ => tOp_of
/-- a place of an own list of slot i: the list stays own -/
def eIxN (i : Nat) (g : EM) : EM := fun ρ => ((ρ[i]?).bind listOf).bind fun _ => (g ρ).bind fun b => (b.2[i]?).bind fun s => (listOf s).bind fun xs => match b.1.data with
  | .int j => (atI xs j).map fun d => (.d d, b.2)
  | _ => none
theorem de_ixN {x : Str} {p : Pos} (ha : PE X (.Name x p) (tVar i)) (hb : DE X b g) (hs : PlainIx b := by intro _ _; rfl) : DE X (.Subscript (.Name x p) b pos) (eIxN i g) := PE.imp (pe_ix ix_list ha hb hs) fun σ H Q ⟨F, B, pa, ρ, r, ρ', S, e, k⟩ => by
  obtain ⟨xs0, e0, e⟩ := bind_some e
  obtain ⟨s0, e00, hs0⟩ := bind_some e0
  obtain ⟨⟨r1, ρ1⟩, e1, e⟩ := bind_some e
  obtain ⟨s, es, e⟩ := bind_some e
  obtain ⟨xs, hsl, e⟩ := bind_some e
  obtain ⟨a, _, ha, _⟩ := listOf_at S e00 hs0
  refine ⟨V.ref a, ha, ?_⟩
  refine tD_take S e1 fun v B1 H1 S1 s1 d1 => ?_
  obtain ⟨a', ws, ha', _, _, _, h5, h6⟩ := listOf_at S1 es hsl
  rw [ha] at ha'
  cases ha'
  have d1 : DD X.K B1 v r1.data := d1
  cases r1 with
  | l ys => cases e
  | d y =>
    cases y with
    | int j =>
      obtain ⟨d, e2, e⟩ := map_some e
      cases e
      obtain ⟨z, h2, h3⟩ := h6.atI e2
      cases d1
      exact ⟨a, ws, j, z, rfl, rfl, SqL.of h5, h2, k z B1 H1 S1 s1 h3⟩
    | none => cases e
    | bool _ => cases e
    | str _ => cases e
    | list _ => cases e
    | tuple _ => cases e
    | dict _ => cases e
/-- a place of a list, be it the def's own or not -/
def eIxA (i : Nat) (g : EM) : EM := fun ρ => match (ρ[i]?).bind listOf with
  | some _ => eIxN i g ρ
  | none => eBin gIx (eVar i) g ρ
theorem de_ixA {x : Str} {p : Pos} (hv : DE X (.Name x p) (eVar i)) (ha : PE X (.Name x p) (tVar i)) (hb : DE X b g) (hs : PlainIx b := by intro _ _; rfl) : DE X (.Subscript (.Name x p) b pos) (eIxA i g) := ⟨fun pins s σ H Q I ⟨F, B, pa, ρ, r, ρ', S, e, k⟩ => by
  unfold eIxA at e
  split at e
  · exact (de_ixN ha hb hs).run pins s σ H Q I ⟨F, B, pa, ρ, r, ρ', S, e, k⟩
  · exact (de_ix hv hb hs).run pins s σ H Q I ⟨F, B, pa, ρ, r, ρ', S, e, k⟩⟩
/-! ### slices -/
abbrev OM := Rho → Option (Option Int × Rho)
def tDO (K : PySem.W.Frag) (f : OM) : TO := fun σ H Q => ∃ F B pa ρ o ρ', StR K F B pa σ H ρ ∧ f ρ = some (o, ρ') ∧ ∀ B' H', StR K F B' pa σ H' ρ' → Same B B' → Q o H'
abbrev DO (X : Cx) (e : Option Expr) (f : OM) : Prop := PO X e (tDO X.K f)
theorem PO.imp {e : Option Expr} {t t' : TO} (h : PO X e t) (j : ∀ σ H Q, t' σ H Q → t σ H Q) : PO X e t' := ⟨fun pins s σ H Q I hw => h.run pins s σ H Q I (j σ H Q hw)⟩
def oNone : OM := fun ρ => some (none, ρ)
def intOf : PyData → Option Int
  | .int i => some i
  | _ => none
theorem intOf_eq {d : PyData} {i : Int} (h : intOf d = some i) : d = .int i := by
  cases d with
  | int c => cases h; rfl
  | none => cases h
  | bool _ => cases h
  | str _ => cases h
  | list _ => cases h
  | tuple _ => cases h
  | dict _ => cases h
def oSome (f : EM) : OM := fun ρ => (f ρ).bind fun a => (intOf a.1.data).map fun i => (some i, a.2)
theorem do_none : DO X none oNone := PO.imp po_none fun σ H Q ⟨F, B, pa, ρ, o, ρ', S, e, k⟩ => by
  cases e
  exact k B H S (Same.refl _)
theorem do_some (h : DE X e f) : DO X (some e) (oSome f) := PO.imp (po_some h) fun σ H Q ⟨F, B, pa, ρ, o, ρ', S, e, k⟩ => by
  obtain ⟨⟨r, ρ1⟩, e1, e⟩ := bind_some e
  obtain ⟨j, e2, e⟩ := map_some e
  cases e
  refine tD_take S e1 fun v B1 H1 S1 s1 d1 => ?_
  have d1 : DD X.K B1 v r.data := d1
  rw [intOf_eq e2] at d1
  cases d1
  exact ⟨_, rfl, k B1 H1 S1 s1⟩
def cutD (xs : List PyData) (lo hi : Option Int) : List PyData := (xs.drop (HT.sIx xs.length 0 lo)).take (HT.sIx xs.length xs.length hi - HT.sIx xs.length 0 lo)
theorem DDs.cut {K : PySem.W.Frag} {B : Hp} {vs : List V} {ds : List PyData} (h : DDs K B vs ds) (lo hi : Option Int) : DDs K B (cutV vs lo hi) (cutD ds lo hi) := by
  unfold cutV cutD
  rw [h.length]
  exact (h.drop _).take _
def gCut (d : PyData) (lo hi : Option Int) : Option Rs := match d with
  | .list xs => some (.l (cutD xs lo hi))
  | .tuple xs => some (.d (.tuple (cutD xs lo hi)))
  | _ => none
def eCut (f : EM) (l h : OM) : EM := fun ρ => (f ρ).bind fun a => (l a.2).bind fun b => (h b.2).bind fun c => (gCut a.1.data b.1 c.1).map fun r => (r, c.2)
theorem sIx_le (n : Nat) (d : Int) (hd : 0 ≤ d ∧ d ≤ n) (o : Option Int) : HT.sIx n d.toNat o ≤ n := by
  cases o with
  | none => simp only [HT.sIx]; omega
  | some i =>
    simp only [HT.sIx]
    split <;> omega
theorem cutD_whole {xs : List PyData} {lo hi : Option Int} (h : HT.sIx xs.length 0 lo = 0 ∧ HT.sIx xs.length xs.length hi = xs.length) : cutD xs lo hi = xs := by
  unfold cutD
  rw [h.1, h.2, List.drop_zero, Nat.sub_zero, List.take_length]
theorem dsl : L2.SlR X (fun x lo hi H Q => ∃ B d r, Same B H ∧ DD X.K B x d ∧ gCut d lo hi = some r ∧ ∀ v H', NewR X.K B H v H' r → Q v H') := by
  intro pins s σ H x v vl vu lo hi sl Q I rx hs pl pu h
  obtain ⟨B, d, r, sb, hd, eg, k⟩ := h
  unfold gCut at eg
  split at eg
  · cases eg
    cases hd with
    | lst h1 d1 => exact sl_list pins s σ H _ v vl vu lo hi sl Q I rx hs pl pu ⟨_, _, rfl, SqL.of (sb _ _ h1), fun p n => k _ _ (.lst n (d1.cut lo hi))⟩
  · cases eg
    cases hd with
    | tup h1 d1 =>
      refine sl_tupA pins s σ H _ v vl vu lo hi sl Q I rx hs pl pu ⟨_, _, rfl, SqT.of (sb _ _ h1), fun w => ?_, fun w p n => k _ _ (.tup n (d1.cut lo hi))⟩
      rw [d1.length] at w
      have e := cutD_whole w
      rw [e] at k
      exact k _ _ (.old (.tup h1 d1))
  · cases eg
theorem de_cut {lo hi : Option Expr} {l h : OM} (he : DE X e f) (hl : DO X lo l) (hu : DO X hi h) : DE X (.Subscript e (.Slice lo hi none p2) pos) (eCut f l h) := PE.imp (pe_slice dsl he hl hu) fun σ H Q ⟨F, B, pa, ρ, r, ρ', S, e, k⟩ => by
  obtain ⟨⟨r1, ρ1⟩, e1, e⟩ := bind_some e
  obtain ⟨⟨o1, ρ2⟩, e2, e⟩ := bind_some e
  obtain ⟨⟨o2, ρ3⟩, e3, e⟩ := bind_some e
  obtain ⟨r2, e4, e⟩ := map_some e
  cases e
  refine tD_take S e1 fun v B1 H1 S1 s1 d1 => ⟨F, B1, pa, ρ1, o1, ρ2, S1, e2, fun B2 H2 S2 s2 => ⟨F, B2, pa, ρ2, o2, _, S2, e3, fun B3 H3 S3 s3 => ?_⟩⟩
  refine ⟨B3, _, _, S3.sb, d1.up (s2.trans s3), e4, fun w H4 n => ?_⟩
  obtain ⟨B4, S4, s4, q4⟩ := n.back S3
  exact k w B4 H4 S4 (s1.trans (s2.trans (s3.trans s4))) q4
/-- xs[::-1] -/
def eRevL (f : EM) : EM := fun ρ => (f ρ).bind fun a => (match a.1.data with
  | .list xs => some (.l xs.reverse)
  | _ => none : Option Rs).map fun r => (r, a.2)
theorem de_revL {k : Nat} {p1 p2 p3 : Pos} (he : DE X e f) : DE X (.Subscript e (.Slice none none (some (.UnaryOp .USub (.Constant (.int 1) k p1) p2)) p3) pos) (eRevL f) := PE.imp (pe_revL he) fun σ H Q ⟨F, B, pa, ρ, r, ρ', S, e, k⟩ => by
  obtain ⟨⟨r1, ρ1⟩, e1, e⟩ := bind_some e
  obtain ⟨r2, e4, e⟩ := map_some e
  cases e
  refine tD_take S e1 fun v B1 H1 S1 s1 d1 => ?_
  have d1 : DD X.K B1 v r1.data := d1
  change (match r1.data with
    | .list xs => some (Rs.l xs.reverse)
    | _ => none) = some r at e4
  split at e4
  · rename_i xs hx
    cases e4
    rw [hx] at d1
    cases d1 with
    | lst h1 h2 =>
      refine ⟨_, _, rfl, SqL.of (S1.sb _ _ h1), fun p n => ?_⟩
      obtain ⟨B2, S2, s2, q2⟩ := (NewR.lst n h2.reverse).back S1
      exact k _ B2 _ S2 (s1.trans s2) q2
  · cases e4
end
end DL
end PDL10
section PDL11
/-! Built-ins by data. -/
namespace DL
open PySem PySem.Spec PyProof.Rows L2

section
variable {X : Cx} {e a b : Expr} {f g : EM} {pos p2 p : Pos}
/-! ### is True, is False, is None -/
def gIsB (neg : Bool) (d e : PyData) : Option Rs := match d, e with
  | .bool b, .bool c => some (.d (.bool (xor neg (b == c))))
  | d, .none => some (.d (.bool (xor neg (isNone d))))
  | _, _ => none
theorem dop_isB : OpR X (compareOp .Is) (rD X.K (gIsB false)) := by
  intro pins s σ H x y v u Q I rx ry h
  obtain ⟨B, d, e, r, sb, hd, he, eg, k⟩ := h
  unfold gIsB at eg
  split at eg
  · cases eg; cases hd; cases he; cases rx; cases ry
    refine is_bool ⟨.bl _, H, I, rfl, ?_⟩
    have q := k _ _ (.old (.bl _))
    rwa [Bool.false_xor] at q
  · cases eg; cases he
    refine op_isN pins s σ H _ _ v u Q I rx ry ⟨rfl, ?_⟩
    rw [dd_none hd]
    have q := k _ _ (.old (.bl _))
    rwa [Bool.false_xor] at q
  · cases eg
theorem dop_isnotB : OpR X (compareOp .IsNot) (rD X.K (gIsB true)) := by
  intro pins s σ H x y v u Q I rx ry h
  obtain ⟨B, d, e, r, sb, hd, he, eg, k⟩ := h
  unfold gIsB at eg
  split at eg
  · cases eg; cases hd; cases he; cases rx; cases ry
    refine isnot_bool ⟨.bl _, H, I, rfl, ?_⟩
    have q := k _ _ (.old (.bl _))
    rwa [Bool.true_xor] at q
  · cases eg; cases he
    refine op_notN pins s σ H _ _ v u Q I rx ry ⟨rfl, ?_⟩
    rw [dd_none hd]
    have q := k _ _ (.old (.bl _))
    rwa [Bool.true_xor] at q
  · cases eg
/-! ### isinstance -/
def tyD : PyData → String
  | .none => "NoneType"
  | .bool _ => "bool"
  | .int _ => "int"
  | .str _ => "str"
  | .list _ => "list"
  | .tuple _ => "tuple"
  | .dict _ => "dict"
theorem DD.tyX {K : PySem.W.Frag} {B H : Hp} {v : V} {d : PyData} (h : DD K B v d) (sb : Same B H) : TyX K H v (.type (tyD d)) := by
  cases h with
  | non => exact .base .non
  | bl b => exact .base (.bl b)
  | int i => exact .base (.int i)
  | str x => exact .base (.str x)
  | lst h _ => exact .base (.lst (sb _ _ h))
  | tup h _ => exact .base (.tup (sb _ _ h))
  | nod h => exact .base (.dK (sb _ _ h))
/-- isinstance of a type -/
def isiD (n : String) : PyData → Option Bool
  | .none => kitB "NoneType" n
  | .bool _ => kitB "bool" n
  | .int _ => kitB "int" n
  | .str _ => kitB "str" n
  | .list _ => kitB "list" n
  | .tuple _ => kitB "tuple" n
  | .dict _ => kitB "dict" n
theorem isiD_eq (n : String) (d : PyData) : isiD n d = kitB (tyD d) n := by cases d <;> rfl
def eIsi (n : String) (f : EM) : EM := fun ρ => (f ρ).bind fun a => (isiD n a.1.data).map fun b => (.d (.bool b), a.2)
theorem tIsi_of {K : PySem.W.Frag} {n : String} : ∀ σ H Q, tD K (eIsi n f) σ H Q → tCB (rIsi K) (tCons (tD K f) (tCons (tC (.ty n)) tNil)) σ H Q := fun σ H Q ⟨F, B, pa, ρ, r, ρ', S, e, k⟩ => by
  obtain ⟨⟨r1, ρ1⟩, e1, e⟩ := bind_some e
  obtain ⟨b, e2, e⟩ := map_some e
  cases e
  refine tD_take S e1 fun v B1 H1 S1 s1 d1 => ?_
  have d1 : DD K B1 v r1.data := d1
  have e2 : isiD n r1.data = some b := e2
  rw [isiD_eq] at e2
  exact ⟨v, _, _, _, b, rfl, .ty n, d1.tyX S1.sb, kit_ty e2, k _ B1 H1 S1 s1 (.bl b)⟩
theorem de_isi (n : String) {x y : Str} {py : Pos} (ha : DE X e f) (hg : Gl X x) (hm : X.mg x = none) (hv : bootBuiltins x = some (.builtin "isinstance")) (hg2 : Gl X y) (hm2 : X.mg y = none) (hv2 : bootBuiltins y = some (.type n)) (hn : x ≠ "__name__" := by decide) (hdb : (x == ("__debug__" : Str)) = false := by decide)
    (hn2 : y ≠ "__name__" := by decide) (hdb2 : (y == ("__debug__" : Str)) = false := by decide)
    (he : starEach [e, .Name y py] X.env = (false, eval e X.env) :: starEach [.Name y py] X.env := by rfl) (hpl : (backTo pos (starEach [.Name y py] X.env)).any (·.1) = false := by rfl) : DE X (.Call (.Name x p) [e, .Name y py] [] pos) (eIsi n f) :=
  PE.imp (pe_callB call_isi hg hm hv (pa_cons ha (pa_cons (pe_bltn (v := .ty n) hg2 hm2 hv2 rfl hn2 hdb2) pa_nil) he) hn hdb he hpl) tIsi_of
/-- isinstance of one of two types -/
def eIsi2 (n m : String) (f : EM) : EM := fun ρ => (f ρ).bind fun a => (isiD n a.1.data).bind fun b => (isiD m a.1.data).map fun c => (.d (.bool (b || c)), a.2)
theorem tIsi2_of {K : PySem.W.Frag} {n m : String} : ∀ σ H Q, tD K (eIsi2 n m f) σ H Q → tCB (rIsiT K) (tCons (tD K f) (tCons (tTup (tCons (tC (.ty n)) (tCons (tC (.ty m)) tNil))) tNil)) σ H Q := fun σ H Q ⟨F, B, pa, ρ, r, ρ', S, e, k⟩ => by
  obtain ⟨⟨r1, ρ1⟩, e1, e⟩ := bind_some e
  obtain ⟨b, e2, e⟩ := bind_some e
  obtain ⟨c, e3, e⟩ := map_some e
  cases e
  refine tD_take S e1 fun v B1 H1 S1 s1 d1 => ?_
  have d1 : DD K B1 v r1.data := d1
  have e2 : isiD n r1.data = some b := e2
  have e3 : isiD m r1.data = some c := e3
  rw [isiD_eq] at e2 e3
  refine ⟨by show 2 ≤ sizeLine; rw [sizeLine_eq]; omega, fun q hq => ?_⟩
  have S2 := S1.new (o := .tup [.ty n, .ty m]) hq
  refine ⟨v, q, _, _, _, b || c, rfl, upd_same, .cons (.ty n) (.cons (.ty m) .nil), d1.tyX S2.sb, ?_, k _ B1 _ S2 s1 (.bl _)⟩
  refine kitAny_cons (kit_ty e2) (fun hb => ?_) fun hb => by rw [hb]; rfl
  subst hb
  refine kitAny_cons (kit_ty e3) (fun hc => ?_) fun hc => by rw [hc]; rfl
  subst hc
  exact kitAny_nil
theorem de_isi2 (n m : String) {x y z : Str} {py pz pt : Pos} {j : Nat} (ha : DE X e f) (hg : Gl X x) (hm : X.mg x = none) (hv : bootBuiltins x = some (.builtin "isinstance")) (hg2 : Gl X y) (hm2 : X.mg y = none) (hv2 : bootBuiltins y = some (.type n)) (hg3 : Gl X z) (hm3 : X.mg z = none) (hv3 : bootBuiltins z = some (.type m)) (hn : x ≠ "__name__" := by decide) (hdb : (x == ("__debug__" : Str)) = false := by decide)
    (hn2 : y ≠ "__name__" := by decide) (hdb2 : (y == ("__debug__" : Str)) = false := by decide) (hn3 : z ≠ "__name__" := by decide) (hdb3 : (z == ("__debug__" : Str)) = false := by decide)
    (he : starEach [e, .Tuple [.Name y py, .Name z pz] j pt] X.env = (false, eval e X.env) :: starEach [.Tuple [.Name y py, .Name z pz] j pt] X.env := by rfl) (hpl : (backTo pos (starEach [.Tuple [.Name y py, .Name z pz] j pt] X.env)).any (·.1) = false := by rfl) : DE X (.Call (.Name x p) [e, .Tuple [.Name y py, .Name z pz] j pt] [] pos) (eIsi2 n m f) :=
  PE.imp (pe_callB call_isiT hg hm hv (pa_cons ha (pa_cons (pe_tup (pa_cons (pe_bltn (v := .ty n) hg2 hm2 hv2 rfl hn2 hdb2) (pa_cons (pe_bltn (v := .ty m) hg3 hm3 hv3 rfl hn3 hdb3) pa_nil))) pa_nil) he) hn hdb he hpl) tIsi2_of
/-! ### len, abs, int, str, max, min of two and three, divmod -/
def gLen : List PyData → Option Rs
  | [.list xs] => some (.d (.int xs.length))
  | [.tuple xs] => some (.d (.int xs.length))
  | [.str x] => if x.length ≤ sizeLine then some (.d (.int x.length)) else none
  | _ => none
theorem dc_len : CallR X (.builtin "len") (rCD X.K gLen) := by
  intro pins s σ H xs us Q I rx h
  obtain ⟨B, ds, r, sb, hd, eg, k⟩ := h
  unfold gLen at eg
  split at eg
  · obtain ⟨v, rfl, h⟩ := one_of hd
    cases eg
    cases h with
    | lst h1 d1 => exact call_len_seq pins s σ H _ us Q I rx ⟨_, _, rfl, .inl (SqL.of (sb _ _ h1)), by rw [d1.length]; exact k _ _ (.old (.int _))⟩
  · obtain ⟨v, rfl, h⟩ := one_of hd
    cases eg
    cases h with
    | tup h1 d1 => exact call_len_seq pins s σ H _ us Q I rx ⟨_, _, rfl, .inr (SqT.of (sb _ _ h1)), by rw [d1.length]; exact k _ _ (.old (.int _))⟩
  · obtain ⟨v, rfl, h⟩ := one_of hd
    split at eg
    · rename_i hz
      cases eg
      cases h
      exact call_len_str pins s σ H _ us Q I rx ⟨_, rfl, hz, k _ _ (.old (.int _))⟩
    · cases eg
  · cases eg
def gAbs : List PyData → Option Rs
  | [.int i] => some (.d (.int (if i < 0 then -i else i)))
  | _ => none
theorem dc_abs : CallR X (.builtin "abs") (rCD X.K gAbs) := CallR.imp call_abs fun xs H Q ⟨B, ds, r, sb, hd, eg, k⟩ => by
  unfold gAbs at eg
  split at eg
  · obtain ⟨v, rfl, h⟩ := one_of hd
    cases eg; cases h
    exact ⟨_, rfl, k _ _ (.old (.int _))⟩
  · cases eg
def gInt1 : List PyData → Option Rs
  | [.int i] => some (.d (.int i))
  | [.bool b] => some (.d (.int (if b then 1 else 0)))
  | _ => none
theorem dc_int : CallR X (.type "int") (rCD X.K gInt1) := CallR.imp call_int1 fun xs H Q ⟨B, ds, r, sb, hd, eg, k⟩ => by
  unfold gInt1 at eg
  split at eg
  · obtain ⟨v, rfl, h⟩ := one_of hd
    cases eg; cases h
    exact .inl ⟨_, rfl, k _ _ (.old (.int _))⟩
  · obtain ⟨v, rfl, h⟩ := one_of hd
    cases eg; cases h
    exact .inr ⟨_, rfl, k _ _ (.old (.int _))⟩
  · cases eg
def gStr1 : List PyData → Option Rs
  | [.int i] => if i.natAbs.log2 < 1920 then some (.d (.str (toString i))) else none
  | [.str x] => some (.d (.str x))
  | _ => none
theorem dc_str : CallR X (.type "str") (rCD X.K gStr1) := CallR.imp (CallR.or call_str_int SkE.call_str_str) fun xs H Q ⟨B, ds, r, sb, hd, eg, k⟩ => by
  unfold gStr1 at eg
  split at eg
  · obtain ⟨v, rfl, h⟩ := one_of hd
    split at eg
    · rename_i hz
      cases eg; cases h
      exact .inl ⟨_, rfl, hz, k _ _ (.old (.str _))⟩
    · cases eg
  · obtain ⟨v, rfl, h⟩ := one_of hd
    cases eg; cases h
    exact .inr ⟨_, rfl, k _ _ (.old (.str _))⟩
  · cases eg
def gDivmod : List PyData → Option Rs
  | [.int i, .int j] => if (decide (0 < j) && decide (j < 1073741824)) = true then some (.d (.tuple [.int (i / j), .int (i % j)])) else none
  | _ => none
theorem dc_divmod : CallR X (.builtin "divmod") (rCD X.K gDivmod) := CallR.imp call_divmod fun xs H Q ⟨B, ds, r, sb, hd, eg, k⟩ => by
  unfold gDivmod at eg
  split at eg
  · obtain ⟨v, w, rfl, h1, h2⟩ := two_of hd
    split at eg
    · rename_i hz
      cases eg; cases h1; cases h2
      exact ⟨_, _, rfl, by simpa [CDiv] using hz, fun p n => k _ _ (.tup n (.cons (.int _) (.cons (.int _) .nil)))⟩
    · cases eg
  · cases eg
/-! ### list(x), tuple(x) of a list or a tuple -/
def gList : List PyData → Option Rs
  | [.list xs] => some (.l xs)
  | [.tuple xs] => some (.l xs)
  | _ => none
theorem dc_list : CallR X (.type "list") (rCD X.K gList) := CallR.imp call_list_of fun xs H Q ⟨B, ds, r, sb, hd, eg, k⟩ => by
  unfold gList at eg
  split at eg
  · obtain ⟨v, rfl, h⟩ := one_of hd
    cases eg
    cases h with
    | lst h1 d1 => exact ⟨_, _, rfl, .inl (SqL.of (sb _ _ h1)), fun l n => k _ _ (.lst n d1)⟩
  · obtain ⟨v, rfl, h⟩ := one_of hd
    cases eg
    cases h with
    | tup h1 d1 => exact ⟨_, _, rfl, .inr (SqT.of (sb _ _ h1)), fun l n => k _ _ (.lst n d1)⟩
  · cases eg
def gTuple : List PyData → Option Rs
  | [.list xs] => some (.d (.tuple xs))
  | [.tuple xs] => some (.d (.tuple xs))
  | _ => none
theorem dc_tuple : CallR X (.type "tuple") (rCD X.K gTuple) := CallR.imp call_tuple_of fun xs H Q ⟨B, ds, r, sb, hd, eg, k⟩ => by
  unfold gTuple at eg
  split at eg
  · obtain ⟨v, rfl, h⟩ := one_of hd
    cases eg
    cases h with
    | lst h1 d1 => exact ⟨_, _, rfl, .inl ⟨SqL.of (sb _ _ h1), fun l n => k _ _ (.tup n d1)⟩⟩
  · obtain ⟨v, rfl, h⟩ := one_of hd
    cases eg
    cases h with
    | tup h1 d1 => exact ⟨_, _, rfl, .inr ⟨SqT.of (sb _ _ h1), k _ _ (.old (.tup h1 d1))⟩⟩
  · cases eg
/-! ### sum, all, any -/
def gSum : List PyData → Option Rs
  | [.list xs] => (intsOf xs).map fun ns => .d (.int ns.sum)
  | _ => none
theorem dc_sum (hc : X.calm = true) : CallR X (.builtin "sum") (rCD X.K gSum) := CallR.imp (cr_sum hc) fun xs H Q ⟨B, ds, r, sb, hd, eg, k⟩ => by
  unfold gSum at eg
  split at eg
  · obtain ⟨v, rfl, h⟩ := one_of hd
    obtain ⟨ns, e1, eg⟩ := map_some eg
    cases eg
    rw [intsOf_eq e1] at h
    cases h with
    | lst h1 d1 =>
      rw [d1.ints] at h1
      exact ⟨_, ns, rfl, SqL.of (sb _ _ h1), k _ _ (.old (.int _))⟩
  · cases eg
def boolsOf : List PyData → Option (List Bool)
  | [] => some []
  | .bool i :: r => (boolsOf r).map (i :: ·)
  | _ :: _ => none
theorem boolsOf_map : ∀ ns : List Bool, boolsOf (ns.map PyData.bool) = some ns
  | [] => rfl
  | n :: ns => by
    show (boolsOf (ns.map PyData.bool)).map (n :: ·) = _
    rw [boolsOf_map ns]
    rfl
theorem boolsOf_eq : ∀ {xs : List PyData} {ns : List Bool}, boolsOf xs = some ns → xs = ns.map PyData.bool
  | [], ns, e => by cases e; rfl
  | x :: r, ns, e => by
    unfold boolsOf at e
    cases x with
    | bool i =>
      obtain ⟨ms, e1, e2⟩ := map_some (show (boolsOf r).map (i :: ·) = some ns from e)
      rw [boolsOf_eq e1, ← e2]
      rfl
    | none => cases e
    | int _ => cases e
    | str _ => cases e
    | list _ => cases e
    | tuple _ => cases e
    | dict _ => cases e
def gAll : List PyData → Option Rs
  | [.list xs] => (boolsOf xs).map fun ns => .d (.bool (ns.all id))
  | _ => none
theorem dc_all (hc : X.calm = true) : CallR X (.builtin "all") (rCD X.K gAll) := CallR.imp (cr_all hc) fun xs H Q ⟨B, ds, r, sb, hd, eg, k⟩ => by
  unfold gAll at eg
  split at eg
  · obtain ⟨v, rfl, h⟩ := one_of hd
    obtain ⟨ns, e1, eg⟩ := map_some eg
    cases eg
    rw [boolsOf_eq e1] at h
    cases h with
    | lst h1 d1 =>
      rw [d1.bls] at h1
      exact ⟨_, ns, rfl, SqL.of (sb _ _ h1), k _ _ (.old (.bl _))⟩
  · cases eg
def gAny : List PyData → Option Rs
  | [.list xs] => (boolsOf xs).map fun ns => .d (.bool (ns.any id))
  | _ => none
theorem dc_any (hc : X.calm = true) : CallR X (.builtin "any") (rCD X.K gAny) := CallR.imp (cr_any hc) fun xs H Q ⟨B, ds, r, sb, hd, eg, k⟩ => by
  unfold gAny at eg
  split at eg
  · obtain ⟨v, rfl, h⟩ := one_of hd
    obtain ⟨ns, e1, eg⟩ := map_some eg
    cases eg
    rw [boolsOf_eq e1] at h
    cases h with
    | lst h1 d1 =>
      rw [d1.bls] at h1
      exact ⟨_, ns, rfl, SqL.of (sb _ _ h1), k _ _ (.old (.bl _))⟩
  · cases eg
end
end DL
end PDL11
section PDL12
/-! min, max, sorted by data. -/
namespace DL
open PySem PySem.Spec PyProof.Rows L2

section
variable {X : Cx} {e a b : Expr} {f g : EM} {pos p2 p : Pos}
def gMax : List PyData → Option Rs
  | [.int i, .int j] => some (.d (.int (if j > i then j else i)))
  | _ => none
theorem dc_max2 (hc : X.calm = true) : CallR X (.builtin "max") (rCD X.K gMax) := CallR.imp (call_max2 hc) fun xs H Q ⟨B, ds, r, sb, hd, eg, k⟩ => by
  unfold gMax at eg
  split at eg
  · obtain ⟨v, w, rfl, h1, h2⟩ := two_of hd
    cases eg; cases h1; cases h2
    exact ⟨_, _, rfl, k _ _ (.old (.int _))⟩
  · cases eg
theorem three_of {K : PySem.W.Frag} {B : Hp} {vs : List V} {d e f : PyData} (h : DDs K B vs [d, e, f]) : ∃ v w x, vs = [v, w, x] ∧ DD K B v d ∧ DD K B w e ∧ DD K B x f := by
  cases h with
  | cons h1 h2 =>
    obtain ⟨w, x, rfl, h3, h4⟩ := two_of h2
    exact ⟨_, _, _, rfl, h1, h3, h4⟩
/-- min of two ints, of three ints, of a list of alike data -/
def alikeB (xs : List PyData) : Bool := xs.all fun x => xs.all fun y => PySem.W.alike x y
def gMin : List PyData → Option Rs
  | [.int i, .int j] => some (.d (.int (if j < i then j else i)))
  | [.int i, .int j, .int l] => some (.d (.int (if l < (if j < i then j else i) then l else (if j < i then j else i))))
  | [.list (x :: xs)] => if (alikeB (x :: xs) && !isNone x && decide (PyData.depthAll (x :: xs) ≤ 60)) = true then some (.d (PySem.W.minD x xs)) else none
  | _ => none
theorem Vals.getU {vs : List V} {us : List Value} (r : Vals vs us) : ∀ {i : Nat} {u : Value}, us[i]? = some u → ∃ v, vs[i]? = some v ∧ RelV v u := by
  induction r with
  | nil => intro i u e; simp at e
  | cons h t ih =>
    intro i u e
    cases i with
    | zero => simp at e; subst e; exact ⟨_, rfl, h⟩
    | succ i =>
      obtain ⟨v, h1, h2⟩ := ih (i := i) (by simpa using e)
      exact ⟨v, by simpa using h1, h2⟩
theorem alikeB_all {xs : List PyData} (h : alikeB xs = true) : ∀ x ∈ xs, ∀ y ∈ xs, PySem.W.alike x y = true := fun x hx y hy => by
  unfold alikeB at h
  exact List.all_eq_true.mp (List.all_eq_true.mp h x hx) y hy
theorem alike_none {x y : PyData} (h : PySem.W.alike x y = true) (n : isNone x = false) : y ≠ .none := fun e => by
  subst e
  cases x <;> simp [isNone, PySem.W.alike] at n h
theorem dc_min (hc : X.calm = true) (hu : X.A.units + 64 < cLine) : CallR X (.builtin "min") (rCD X.K gMin) := by
  intro pins s σ H xs us Q I rx h
  obtain ⟨B, ds, r, sb, hd, eg, k⟩ := h
  unfold gMin at eg
  split at eg
  · obtain ⟨v, w, rfl, h1, h2⟩ := two_of hd
    cases eg; cases h1; cases h2
    exact call_min2 hc pins s σ H _ us Q I rx ⟨_, _, rfl, k _ _ (.old (.int _))⟩
  · obtain ⟨v, w, z, rfl, h1, h2, h3⟩ := three_of hd
    cases eg; cases h1; cases h2; cases h3
    rename_i i j l
    refine call_min3Nu hc pins s σ H _ us Q I rx ⟨_, _, _, .int (if l < (if j < i then j else i) then l else (if j < i then j else i)), rfl, ?_, k _ _ (.old (.int _))⟩
    by_cases h1 : j < i
    · by_cases h2 : l < j <;> simp [nuMin3, nuMin2, nuLt, nuCB, h1, h2]
    · by_cases h2 : l < i <;> simp [nuMin3, nuMin2, nuLt, nuCB, h1, h2]
  · rename_i x xs
    obtain ⟨v, rfl, h⟩ := one_of hd
    split at eg
    · rename_i hz
      simp only [Bool.and_eq_true, Bool.not_eq_true', decide_eq_true_eq] at hz
      cases eg
      cases h with
      | lst h1 d1 =>
        rename_i a ws
        rw [Vals.ref1 rx]
        obtain ⟨its, rv, pl, zz⟩ := I.list (SqL.of (sb _ _ h1))
        obtain ⟨as, ra⟩ := DD.readsAll I _ _ _ (d1.up sb) rv
        refine PySem.W.min_list_data (I.ok.hd hc) pl.isList (by simpa using ra) ⟨alikeB_all hz.1.1, fun y hy => alike_none (alikeB_all hz.1.1 x List.mem_cons_self y hy) hz.1.2⟩ (by omega) fun i u h' tk bs hv hr hk => ?_
        obtain ⟨w, hw, rw'⟩ := Vals.getU rv (i := i) (u := u) (by simpa using hv)
        obtain ⟨d, e1, e2⟩ := d1.getV hw
        obtain ⟨as2, r2⟩ := DD.reads I d w u (e2.up sb) rw'
        obtain ⟨e3, _⟩ := reads_det (fun b o q _ => hk b o q) r2 hr
        rw [e3] at k
        exact ⟨w, H, I.kept hk, rw', k _ _ (.old e2)⟩
    · cases eg
  · cases eg
end
end DL
end PDL12
section PDL13
/-! sorted by data. -/
namespace DL
open PySem PySem.Spec PyProof.Rows L2

/-! ### plain sorting -/
def insI (k : Int) : List Int → List Int
  | [] => [k]
  | x :: xs => if k ≤ x then k :: x :: xs else x :: insI k xs
def isort : List Int → List Int
  | [] => []
  | x :: xs => insI x (isort xs)
theorem insI_perm (k : Int) : ∀ xs, (insI k xs).Perm (k :: xs)
  | [] => .refl _
  | x :: xs => by
    unfold insI
    split
    · exact .refl _
    · exact ((insI_perm k xs).cons x).trans (.swap k x xs)
theorem isort_perm : ∀ xs, (isort xs).Perm xs
  | [] => .refl _
  | x :: xs => (insI_perm x (isort xs)).trans ((isort_perm xs).cons x)
theorem insI_sorted (k : Int) : ∀ {xs : List Int}, xs.Pairwise (· ≤ ·) → (insI k xs).Pairwise (· ≤ ·)
  | [], _ => by simp [insI]
  | x :: xs, h => by
    obtain ⟨h1, h2⟩ := List.pairwise_cons.mp h
    unfold insI
    split
    · rename_i hk
      refine List.pairwise_cons.mpr ⟨fun y hy => ?_, h⟩
      rcases List.mem_cons.mp hy with rfl | hy
      · exact hk
      · exact Int.le_trans hk (h1 y hy)
    · rename_i hk
      refine List.pairwise_cons.mpr ⟨fun y hy => ?_, insI_sorted k h2⟩
      rcases List.mem_cons.mp ((insI_perm k xs).mem_iff.mp hy) with rfl | hy
      · omega
      · exact h1 y hy
theorem isort_sorted : ∀ xs : List Int, (isort xs).Pairwise (· ≤ ·)
  | [] => .nil
  | x :: xs => insI_sorted x (isort_sorted xs)
theorem isort_only {xs ys : List Int} (p : ys.Perm xs) (s : ys.Pairwise (· ≤ ·)) : ys = isort xs :=
  List.Perm.eq_of_pairwise (fun a b _ _ h1 h2 => Int.le_antisymm h1 h2) s (isort_sorted xs) (p.trans (isort_perm xs).symm)
theorem isort_id {xs : List Int} (s : xs.Pairwise (· ≤ ·)) : isort xs = xs := (isort_only (.refl _) s).symm
/-- each once -/
def insU (k : Int) : List Int → List Int
  | [] => [k]
  | x :: xs => if k < x then k :: x :: xs else if k = x then x :: xs else x :: insU k xs
def usort : List Int → List Int
  | [] => []
  | x :: xs => insU x (usort xs)
theorem insU_mem (k y : Int) : ∀ xs, y ∈ insU k xs ↔ y = k ∨ y ∈ xs
  | [] => by simp [insU]
  | x :: xs => by
    unfold insU
    split
    · simp
    · split
      · rename_i h
        subst h
        simp
      · rw [List.mem_cons, insU_mem k y xs, List.mem_cons]
        constructor
        · rintro (h | h | h) <;> simp [h]
        · rintro (h | h | h) <;> simp [h]
theorem usort_mem (y : Int) : ∀ xs, y ∈ usort xs ↔ y ∈ xs
  | [] => Iff.rfl
  | x :: xs => by
    unfold usort
    rw [insU_mem, usort_mem y xs, List.mem_cons]
theorem insU_sorted (k : Int) : ∀ {xs : List Int}, xs.Pairwise (· < ·) → (insU k xs).Pairwise (· < ·)
  | [], _ => by simp [insU]
  | x :: xs, h => by
    obtain ⟨h1, h2⟩ := List.pairwise_cons.mp h
    unfold insU
    split
    · rename_i hk
      refine List.pairwise_cons.mpr ⟨fun y hy => ?_, h⟩
      rcases List.mem_cons.mp hy with rfl | hy
      · exact hk
      · exact Int.lt_trans hk (h1 y hy)
    · split
      · exact h
      · refine List.pairwise_cons.mpr ⟨fun y hy => ?_, insU_sorted k h2⟩
        rcases (insU_mem k y xs).mp hy with rfl | hy
        · omega
        · exact h1 y hy
theorem usort_sorted : ∀ xs : List Int, (usort xs).Pairwise (· < ·)
  | [] => .nil
  | x :: xs => insU_sorted x (usort_sorted xs)
theorem strict_only {xs ys : List Int} (hx : xs.Pairwise (· < ·)) (hy : ys.Pairwise (· < ·)) (h : ∀ k, k ∈ xs ↔ k ∈ ys) : xs = ys := by
  have nx : xs.Nodup := hx.imp fun {a b} h => Int.ne_of_lt h
  have ny : ys.Nodup := hy.imp fun {a b} h => Int.ne_of_lt h
  exact List.Perm.eq_of_pairwise (le := (· ≤ ·)) (fun a b _ _ h1 h2 => Int.le_antisymm h1 h2) (hx.imp fun {a b} h => Int.le_of_lt h) (hy.imp fun {a b} h => Int.le_of_lt h) ((List.perm_ext_iff_of_nodup nx ny).mpr h)
theorem usort_only {xs ys : List Int} (s : ys.Pairwise (· < ·)) (h : ∀ k, k ∈ ys ↔ k ∈ xs) : ys = usort xs := strict_only s (usort_sorted xs) fun k => (h k).trans (usort_mem k xs).symm

/-! ### sorted of a tuple -/
section
variable {prog : Program} {w : World} {A : Around} {E : Value → Shared → Prop} {s : Shared}
theorem collect_tup {l : Addr} {vs : List Value} {Q : List Value → Shared → Prop} (hl : IsTup s.heap l vs.toArray)
    (h : Q vs { s with heap := (s.heap.push (seqObj "list" #[] 0)).update s.heap.objs.size (Obj.mapSeq (· ++ vs.toArray)) }) (hz : vs.length ≤ sizeLine) :
    wpAny (model prog w) A (collect (.ref l)) Q E s := by
  obtain ⟨o, ho, hc, n, hd⟩ := hl
  unfold collect
  refine wpAny_bind (wpAny_runValue (codeAny_builtin entry_proto_collect' ?_))
  show wpAny _ _ (do again (.builtin "list.__iadd__" ⟨[← newList [], .ref l], []⟩)) _ _ s
  refine wpAny_bind (wpAny_newList (wpAny_pure ⟨Code.quiet_builtin _ (by decide +kernel), codeAny_builtin entry_list_iadd' ?_⟩))
  show wpAny _ _ (Builtin.List.listExtendWith _ _ _) _ _ { s with heap := s.heap.push (seqObj "list" #[] 0) }
  unfold Builtin.List.listExtendWith
  have h1 : (s.heap.push (seqObj "list" #[] 0)).get? l = some o := Heap.get?_push_of_some _ ho
  have h2 : (s.heap.push (seqObj "list" #[] 0)).get? s.heap.objs.size = some (seqObj "list" #[] 0) := Heap.get?_push_size _ rfl
  refine wpAny_bind (wpAny_typeOf (T := "tuple") ⟨o, h1, hc⟩ ?_)
  refine wp_if_pos (by simp) ?_
  refine wpAny_bind (listItems_at h1 hd ?_)
  refine wpAny_bind (listItems_at h2 rfl ?_)
  refine wp_if_neg (by simp) ?_
  refine wpAny_bind (listUpdate_at h2 rfl ?_ (Nat.zero_le _) (by simp only [Array.size_append, List.size_toArray, List.length_nil]; omega))
  refine wpAny_pure ?_
  show wpAny (model prog w) A (load s.heap.objs.size >>= _) Q E _
  refine wpAny_bind (wpAny_load (get?_update_seq h2 _) ?_)
  refine wpAny_pure ?_
  rw [show ((#[] : Array Value) ++ vs.toArray).toList = vs by simp]
  exact h
theorem sorted_tupI {l : Addr} {vs : List Value} {ns : List Int} {Q : Value → Shared → Prop} (hl : IsTup s.heap l vs.toArray) (hI : IntsAre vs ns) (hz : vs.length ≤ sizeLine)
    (h : ∀ (h' : Heap) (p : Addr) (out : List Value) (c : Nat), (∀ b o, s.heap.get? b = some o → h'.get? b = some o) → s.heap.objs.size ≤ p → h'.get? p = some (seqObj "list" out.toArray c) → IntsAre out (isort ns) → Q (.ref p) { s with heap := h' }) :
    wpAny (model prog w) A (call (.builtin "sorted") [.ref l]) Q E s := by
  refine Calls.call_function_entry kind_sorted plain_sorted entry_sorted (args_sorted1 _) ?_
  unfold Builtin.«sorted»
  refine wpAny_bind (m := checkCount "sorted" 1 1 _) (wpAny_pure ?_)
  refine wpAny_bind (collect_tup hl ?_ hz)
  refine wpAny_bind (wpAny_newList ?_ hz)
  generalize hh : (s.heap.push (seqObj "list" #[] 0)).update s.heap.objs.size (Obj.mapSeq (· ++ vs.toArray)) = h1
  have hs1 : h1.objs.size = s.heap.objs.size + 1 := by rw [← hh, Heap.size_update, size_push']
  have k1 : ∀ b o, s.heap.get? b = some o → h1.get? b = some o := fun b o q => by
    rw [← hh, Heap.get?_update_ne _ _ _ _ (Nat.ne_of_lt (Heap.lt_size q))]
    exact Heap.get?_push_of_some _ q
  have hoL : (h1.push (seqObj "list" vs.toArray 0)).get? h1.objs.size = some (seqObj "list" vs.toArray 0) := Heap.get?_push_size _ rfl
  show wpAny _ _ _ _ _ { s with heap := h1.push (seqObj "list" vs.toArray 0) }
  refine wpAny_bind (wpAny_holding (wpAny_call_entry slot_list_sort ⟨_, hoL, rfl⟩ entry_list_sort (SrtO.list_sort_ord SrtO.swo_int hoL hz (fun h2 => SrtO.ints_sortable hI h2) fun out b1 b2 => ⟨_, rfl, ?_⟩) (args_list_sort _)))
  obtain ⟨k2, k3, k4⟩ := SrtO.ints_out hI b1 b2
  rw [isort_only k3 k4] at k2
  obtain ⟨c, hc⟩ := sortedHeap_at (vs := vs) (out := out.toArray) hoL
  refine wpAny_pure ⟨_, rfl, h _ _ out c (fun b o q => ?_) (by rw [hs1]; exact Nat.le_succ _) hc k2⟩
  have q1 := k1 b o q
  have hlt := Heap.lt_size q1
  rw [sortedHeap_old (Nat.ne_of_lt hlt) (by rw [size_push']; exact Nat.lt_succ_of_lt hlt)]
  exact Heap.get?_push_of_some _ q1
end
section
variable {X : Cx} {e a b : Expr} {f g : EM} {pos p2 p : Pos}
/-- sorted of a list or a tuple of ints -/
def gSorted : List PyData → Option Rs
  | [.list ds] => (intsOf ds).map fun ns => .l ((isort ns).map .int)
  | [.tuple ds] => (intsOf ds).map fun ns => .l ((isort ns).map .int)
  | _ => none
theorem dc_sorted : CallR X (.builtin "sorted") (rCD X.K gSorted) := by
  intro pins s σ H xs us Q I rx h
  obtain ⟨B, ds, r, sb, hd, eg, k⟩ := h
  unfold gSorted at eg
  split at eg
  · obtain ⟨v, rfl, h⟩ := one_of hd
    obtain ⟨ns, e1, eg⟩ := map_some eg
    cases eg
    rw [intsOf_eq e1] at h
    cases h with
    | lst h1 d1 =>
      rw [d1.ints] at h1
      refine cr_sortedI pins s σ H _ us Q I rx ⟨_, ns, rfl, SqL.of (sb _ _ h1), fun ns' p hp hs n => ?_⟩
      rw [isort_only hp hs]
      exact k _ _ (.lst n (DDs.of_ints _))
  · obtain ⟨v, rfl, h⟩ := one_of hd
    obtain ⟨ns, e1, eg⟩ := map_some eg
    cases eg
    rw [intsOf_eq e1] at h
    cases h with
    | tup h1 d1 =>
      rw [d1.ints] at h1
      rw [Vals.ref1 rx]
      obtain ⟨its, rv, pl, hz⟩ := I.tuple (SqT.of (sb _ _ h1))
      have hl := rv.length
      refine sorted_tupI pl (rv.ints) (by omega) fun h' p out c kk hp hg hI => ?_
      have hn := I.hok.fresh hp
      have hlen : ((isort ns).map V.int).length ≤ sizeLine := by
        rw [List.length_map, (isort_perm ns).length_eq]
        rw [List.length_map] at hz
        exact hz
      exact ⟨.ref p, _, I.laid (t' := s.toks) (o := .lst ((isort ns).map V.int)) kk hp ⟨hlen, out, c, vals_of_ints hI, hg⟩, rfl, k _ _ (.lst hn (DDs.of_ints _))⟩
  · cases eg
/-! ### sorted(set(t)), t a tuple of fewer than 64 ints -/
def rSetT (K : PySem.W.Frag) (w : World) : List V → Hp → VK → Prop := fun vs H Q => ∃ (p : Addr) (ns : List Int), vs = [.ref p] ∧ SqT K H p (ns.map V.int) ∧ ns.length ≤ 1000 ∧ ∀ (a : Addr) (c : Nat), c ≤ ns.length → H a = none → Q (.ref a) (upd H a (SetO w a (fun j => decide (j ∈ ns)) c))
theorem cr_setT (hc : X.calm = true) : CallR X (.type "set") (rSetT X.K X.w) := by
  intro pins s σ H vs us Q I r h
  obtain ⟨p, ns, rfl, hq, hl, q⟩ := h
  rw [Vals.ref1 r]
  obtain ⟨its, rv, pt, hz⟩ := I.tuple hq
  have hi : IntsAre its.toArray.toList ns := ints_of_vals rv
  refine call_set_tupI ns (I.ok.hd hc) (show s.heap.IsTuple p its.toArray from pt) hi (by unfold scanBound; omega) fun h' tk c R1 hcn k => ?_
  exact ⟨.ref _, _, I.laid (t' := tk) k (Nat.le_refl _) (setO_new R1), rfl, q _ c hcn (I.hok.fresh (Nat.le_refl _))⟩
def gSortSet : PyData → Option Rs
  | .tuple ds => (intsOf ds).bind fun ns => if ns.length < 64 then some (.l ((usort ns).map .int)) else none
  | _ => none
def eSortSet (f : EM) : EM := fun ρ => (f ρ).bind fun a => (gSortSet a.1.data).map fun r => (r, a.2)
theorem de_sortSet {x y : Str} {ps py : Pos} (hc : X.calm = true) (ha : DE X e f) (hg : Gl X x) (hm : X.mg x = none) (hv : bootBuiltins x = some (.builtin "sorted")) (hg2 : Gl X y) (hm2 : X.mg y = none) (hv2 : bootBuiltins y = some (.type "set")) (hn : x ≠ "__name__" := by decide) (hdb : (x == ("__debug__" : Str)) = false := by decide)
    (hn2 : y ≠ "__name__" := by decide) (hdb2 : (y == ("__debug__" : Str)) = false := by decide)
    (he : starEach [.Call (.Name y py) [e] [] p2] X.env = (false, eval (.Call (.Name y py) [e] [] p2) X.env) :: starEach [] X.env := by rfl) (he2 : starEach [e] X.env = (false, eval e X.env) :: starEach [] X.env := by rfl)
    (hpl : (backTo pos (starEach [] X.env)).any (·.1) = false := by rfl) (hpl2 : (backTo p2 (starEach [] X.env)).any (·.1) = false := by rfl) : DE X (.Call (.Name x ps) [.Call (.Name y py) [e] [] p2] [] pos) (eSortSet f) :=
  PE.imp (pe_callB (cr_sortedSet hc) hg hm hv (pa_cons (pe_callTy (cr_setT hc) hg2 hm2 hv2 (pa_cons ha pa_nil he2) hn2 hdb2 he2 hpl2) pa_nil he) hn hdb he hpl) fun σ H Q ⟨F, B, pa, ρ, r, ρ', S, e, k⟩ => by
    obtain ⟨⟨r1, ρ1⟩, e1, e⟩ := bind_some e
    obtain ⟨r2, e2, e⟩ := map_some e
    cases e
    refine tD_take S e1 fun v B1 H1 S1 s1 d1 => ?_
    have d1 : DD X.K B1 v r1.data := d1
    change gSortSet r1.data = some r at e2
    cases hr : r1.data with
    | tuple ds =>
      rw [hr] at e2 d1
      obtain ⟨ns, e3, e4⟩ := bind_some e2
      split at e4
      · rename_i hz
        cases e4
        rw [intsOf_eq e3] at d1
        cases d1 with
        | tup h1 h2 =>
          rw [h2.ints] at h1
          refine ⟨_, ns, rfl, SqT.of (S1.sb _ _ h1), by omega, fun a c hcn na => ?_⟩
          have S2 := S1.new (o := SetO X.w a (fun j => decide (j ∈ ns)) c) na
          refine ⟨a, _, c, rfl, upd_same, by omega, fun ns' p hp hm hlen n => ?_⟩
          have e5 : ns' = usort ns := usort_only hp fun k => by rw [hm k, decide_eq_true_eq]
          subst e5
          obtain ⟨B3, S3, s3, q3⟩ := (NewR.lst n (DDs.of_ints (usort ns))).back S2
          exact k _ B3 _ S3 (s1.trans s3) q3
      · cases e4
    | none => rw [hr] at e2; cases e2
    | bool _ => rw [hr] at e2; cases e2
    | int _ => rw [hr] at e2; cases e2
    | str _ => rw [hr] at e2; cases e2
    | list _ => rw [hr] at e2; cases e2
    | dict _ => rw [hr] at e2; cases e2
end
end DL
end PDL13
section PDL14
/-! repr, list(range(..)), extend, t[::-1], enumerate. -/
namespace DL
open PySem PySem.Spec PyProof.Rows L2

section
variable {X : Cx} {e a b : Expr} {f g : EM} {pos p2 p p3 : Pos}
/-! ### repr -/
def reprOk (d : PyData) : Bool := d.showable && plainD d && decide (d.depth ≤ 60) && decide (d.shown.length ≤ sizeLine)
def gRepr : List PyData → Option Rs
  | [d] => if reprOk d = true then some (.d (.str d.shown)) else none
  | _ => none
theorem dc_repr (hg : X.A.guards = some []) (hu : X.A.units + 64 < cLine) : CallR X (.builtin "repr") (rCD X.K gRepr) := by
  intro pins s σ H xs us Q I rx h
  obtain ⟨B, ds, r, sb, hd, eg, k⟩ := h
  unfold gRepr at eg
  split at eg
  · rename_i d
    obtain ⟨v, rfl, h⟩ := one_of hd
    split at eg
    · rename_i hz
      cases eg
      unfold reprOk at hz
      simp only [Bool.and_eq_true, decide_eq_true_eq] at hz
      obtain ⟨⟨⟨z1, z2⟩, z3⟩, z4⟩ := hz
      have q := k _ _ (.old (.str d.shown))
      obtain ⟨u, rfl, ru⟩ := vals1 rx
      have big : ∀ a, u = .ref a → wpAny (model X.prog X.w) X.A (call (.builtin "repr") [u]) (EP X pins σ Q) X.xe s := fun a ea => by
        obtain ⟨as, r1, r2⟩ := DD.reads_sys I d v u (h.up sb) ru z2
        subst ea
        exact repr_of_reads' r1 z1 r2 hg (by omega) (fun _ _ e => e) (fun h' t tk hk => ⟨.str d.shown, H, I.kept hk, ⟨t, rfl⟩, q⟩) z4
      cases h with
      | non =>
        cases ru
        exact PySem.P.repr_of_none ⟨.str _, H, I.tok _, ⟨_, rfl⟩, q⟩
      | bl b =>
        cases ru
        exact PySem.P.repr_of_bool ⟨.str _, H, I.tok _, ⟨_, rfl⟩, by simpa only [PyData.shown] using q⟩
      | int i =>
        obtain ⟨t, rfl⟩ := ru
        exact PySem.P.repr_of_int (by simpa [PyData.showable] using z1) ⟨.str _, H, I.tok _, ⟨_, rfl⟩, q⟩
      | str x =>
        obtain ⟨t, rfl⟩ := ru
        exact PySem.P.repr_of_str ⟨.str _, H, I.tok _, ⟨_, rfl⟩, q⟩ z4
      | lst _ _ => exact big _ ru
      | tup _ _ => exact big _ ru
      | nod _ => exact big _ ru
    · cases eg
  · cases eg
/-! ### list(range(a)), list(range(a, b)) -/
def rgOkB (a b : Int) : Bool := decide (-(2 ^ 62) ≤ a) && decide (a < 2 ^ 62) && decide (-(2 ^ 62) ≤ b) && decide (b < 2 ^ 62) && decide ((b - a).toNat ≤ 2 ^ 24)
theorem rgOkB_ok {a b : Int} (h : rgOkB a b = true) : RgOk a b := by
  unfold rgOkB at h
  simp only [Bool.and_eq_true, decide_eq_true_eq] at h
  exact ⟨h.1.1.1.1, h.1.1.1.2, h.1.1.2, h.1.2, h.2⟩
theorem rgV_data {K : PySem.W.Frag} {B : Hp} (a b : Int) : DDs K B (rgV a b) (rngD a 1 (b - a).toNat) := by
  unfold rgV rngD
  generalize List.range (b - a).toNat = l
  induction l with
  | nil => exact .nil
  | cons i l ih =>
    rw [List.map_cons, List.map_cons, Int.mul_one]
    exact .cons (.int _) ih
def eListR1 (f : EM) : EM := fun ρ => (f ρ).bind fun a => (intOf a.1.data).bind fun n => if rgOkB 0 n = true then some (.l (rngD 0 1 (n - 0).toNat), a.2) else none
theorem de_listR1 {pr : Pos} (hc : X.calm = true) (hg : Gl X "list") (hm : X.mg "list" = none) (hg2 : Gl X "range") (hm2 : X.mg "range" = none) (ha : DE X e f) (na2 : starEach [e] X.env = (false, eval e X.env) :: starEach [] X.env := by rfl)
    (na : starEach [.Call (.Name "range" pr) [e] [] p2] X.env = (false, eval (.Call (.Name "range" pr) [e] [] p2) X.env) :: starEach [] X.env := by rfl) : DE X (.Call (.Name "list" p) [.Call (.Name "range" pr) [e] [] p2] [] pos) (eListR1 f) :=
  PE.imp (pe_listRg hc hg hm (prg_1 hg2 hm2 ha na2) na) fun σ H Q ⟨F, B, pa, ρ, r, ρ', S, e, k⟩ => by
    obtain ⟨⟨r1, ρ1⟩, e1, e⟩ := bind_some e
    obtain ⟨n, e2, e⟩ := bind_some e
    split at e
    · rename_i hz
      cases e
      refine tD_take S e1 fun v B1 H1 S1 s1 d1 => ?_
      have d1 : DD X.K B1 v r1.data := d1
      rw [intOf_eq e2] at d1
      cases d1
      refine ⟨n, rfl, rgOkB_ok hz, fun q nq => ?_⟩
      obtain ⟨B2, S2, s2, q2⟩ := (NewR.lst nq (rgV_data 0 n)).back S1
      exact k _ B2 _ S2 (s1.trans s2) q2
    · cases e
/-! ### list.extend -/
def opExtend : LM := fun xs ds => match ds with
  | [.list ys] => if xs.length + ys.length ≤ sizeLine then some (.none, xs ++ ys) else none
  | [.tuple ys] => if xs.length + ys.length ≤ sizeLine then some (.none, xs ++ ys) else none
  | _ => none
theorem md_extend : MtR X "list.extend" (rMD X.K opExtend) := by
  intro pins s σ H x vs v us Q I rx rv h
  obtain ⟨B, a, ws, xs, ds, d, ys, rfl, sb, hB, hH, dw, dv, eo, k⟩ := h
  unfold opExtend at eo
  split at eo
  · split at eo
    · rename_i hz
      cases eo
      obtain ⟨y, rfl, h⟩ := one_of dv
      cases h with
      | lst h1 d1 => exact mt_extend pins s σ H _ _ v us Q I rx rv ⟨_, _, ws, _, rfl, rfl, hH, sb _ _ h1, by rw [dw.length, d1.length]; exact hz, k _ _ .non (dw.append d1)⟩
    · cases eo
  · split at eo
    · rename_i ys hz
      cases eo
      obtain ⟨y, rfl, h⟩ := one_of dv
      cases h with
      | tup h1 d1 =>
        rename_i b zs
        cases rx
        rw [Vals.ref1 rv]
        obtain ⟨z, its, n, r, hl, e⟩ := I.lstM hH
        obtain ⟨its2, r2, pt, z2⟩ := I.tuple (SqT.of (sb _ _ h1))
        obtain ⟨o, ho, hc, n2, hdt⟩ := pt
        have hsz : its.toArray.size + its2.toArray.size ≤ sizeLine := by
          rw [List.size_toArray, List.size_toArray, ← r.length, ← r2.length, dw.length, d1.length]
          exact hz
        refine wpAny_call_entry PySem.F.slot_list_extend ⟨_, e, rfl⟩ PySem.F.entry_list_extend ?_ (PySem.F.args_list_extend_2 _ _)
        show wpAny _ _ (Builtin.List.listExtendWith _ _ _) _ _ _
        unfold Builtin.List.listExtendWith
        refine wpAny_bind (wpAny_typeOf (T := "tuple") ⟨o, ho, hc⟩ ?_)
        refine wp_if_pos (by simp) ?_
        refine wpAny_bind (listItems_at ho hdt ?_)
        refine wpAny_bind (listItems_at e rfl ?_)
        refine wp_if_neg (by rw [notLongL hsz, Bool.and_false]; exact Bool.false_ne_true) ?_
        refine wpAny_bind (listUpdate_at e rfl ?_ (by rw [List.size_toArray] at hsz ⊢; omega) (by rw [Array.size_append]; omega))
        refine wpAny_pure ⟨.none, rfl, ?_⟩
        refine ⟨.non, _, I.lset (its' := its ++ its2) (ys := ws ++ zs) (t' := s.toks) hH e (by simp) (r.append r2) ?_, rfl, k _ _ .non (dw.append d1)⟩
        rw [List.length_append, dw.length, d1.length]
        exact hz
    · cases eo
  · cases eo
end
end DL
end PDL14
section PDL15
set_option maxHeartbeats 1000000
/-! t[::-1], enumerate. -/
namespace DL
open PySem PySem.Spec PyProof.Rows L2 HT

section
variable {prog : Program} {w : World} {A : Around} {E : Value → Shared → Prop} {s : Shared}
theorem rev_places (n : Nat) : (Builtin.Slice.sliceAdjust none none (-1) (n : Int)) = ((n : Int) - 1, -1) := by
  unfold Builtin.Slice.sliceAdjust
  simp
theorem rev_count (n : Nat) : Builtin.Slice.slicePlaces ((n : Int) - 1) (-1) (-1) = n := by
  unfold Builtin.Slice.slicePlaces
  by_cases h : n = 0
  · subst h
    decide
  · have h1 : ¬ ((-1 : Int) > 0) := by decide
    have h2 : (n : Int) - 1 > -1 := by omega
    simp only [h1, if_false, h2, if_true]
    have e : ((n : Int) - 1 - -1 - 1) / (- -1) + 1 = (n : Int) := by
      rw [show (- -1 : Int) = 1 by decide, Int.ediv_one]
      omega
    rw [e, Int.toNat_natCast]
theorem fm_congr {α β : Type} {f g : α → Option β} : ∀ {l : List α}, (∀ x ∈ l, f x = g x) → l.filterMap f = l.filterMap g
  | [], _ => rfl
  | x :: l, h => by
    rw [List.filterMap_cons, List.filterMap_cons, h x List.mem_cons_self, fm_congr fun y hy => h y (List.mem_cons_of_mem _ hy)]
theorem rev_pick (xs : List Value) : ((List.range xs.length).filterMap fun (k : Nat) => xs.toArray[((xs.length : Int) - 1 + (k : Int) * -1).toNat]?) = xs.reverse := by
  have e1 : (List.range xs.length).filterMap (fun (k : Nat) => xs.toArray[((xs.length : Int) - 1 + (k : Int) * -1).toNat]?) = ((List.range xs.length).map fun k => xs.length - 1 - k).filterMap (xs.toArray[·]?) := by
    rw [List.filterMap_map]
    refine fm_congr fun k hk => ?_
    have := List.mem_range.mp hk
    show _ = xs.toArray[xs.length - 1 - k]?
    congr 1
    omega
  rw [e1, PySem.W.krv_range, List.filterMap_reverse]
  have := PySem.W.krv_all xs.toArray
  rw [List.size_toArray] at this
  rw [this]
theorem revTup {t sl : Addr} {its : List Value} {vl vu vs : Value} {Q : Value → Shared → Prop} (ht : IsTup s.heap t its.toArray) (hs : s.heap.IsSliceOf sl vl vu vs) (pl : IsPart vl none) (pu : IsPart vu none) (ps : IsPart vs (some (-1)))
    (h : Q (.ref s.heap.objs.size) { s with heap := s.heap.push { cls := .type "tuple", data := .seq its.reverse.toArray } }) (hz : its.length ≤ sizeLine) : wpAny (model prog w) A (getItem (.ref t) (.ref sl)) Q E s := by
  have htake : sizeOk (.seq its.reverse.toArray) := by
    show its.reverse.toArray.size ≤ sizeLine
    rw [List.size_toArray, List.length_reverse]
    exact hz
  obtain ⟨os, hos, hcs, hds⟩ := id hs
  have hTs : s.TypeIs (.ref sl) "slice" := ⟨os, hos, hcs⟩
  unfold getItem
  try with_reducible refine wpAny_holding ?_
  first | refine wpAny_bind (wpAny_pure ?_) | skip
  refine wpAny_bind (wpAny_sequenceKey ht.typeIs (by decide) ?_)
  refine wpAny_bind (wpAny_callSpecial?_slot (name := Str.ofString "__getitem__") ht.typeIs PyProof.Rows.slot_tuple_getitem (wpAny_call_entry PyProof.Rows.slot_tuple_getitem ht.typeIs entry_tuple_getitem ?_ (args_tuple_getitem _ _)))
  show wpAny _ _ (Builtin.Tuple.tupleItemsOf (.ref t) >>= _) _ _ s
  refine wpAny_bind (tupleItemsOf_ ht ?_)
  refine wpAny_bind (wpAny_typeOf hTs ?_)
  refine wp_if_pos (by decide) ?_
  have ap : ∀ {Q' : Int × Int × Nat → Shared → Prop} {E' : Value → Shared → Prop} {A' : Around}, Q' ((its.length : Int) - 1, -1, its.length) s → wpAny (model prog w) A' (Builtin.Slice.sliceApplied (.ref sl) (pure (its.length : Int))) Q' E' s := fun {Q' E' A'} q => by
    unfold Builtin.Slice.sliceApplied Builtin.Slice.sliceFields
    refine wpAny_bind (wpAny_bind (wpAny_field hos hds (x := vl) rfl (wpAny_bind (wpAny_field hos hds (x := vu) rfl (wpAny_bind (wpAny_field hos hds (x := vs) rfl (wpAny_pure ?_)))))))
    refine wpAny_bind (slicePart_ ps ?_)
    refine wp_if_neg (by decide) ?_
    refine wpAny_bind (slicePart_ pl (wpAny_bind (slicePart_ pu (wpAny_bind (wpAny_pure ?_)))))
    show wpAny _ _ (match Builtin.Slice.sliceAdjust none none (-1) (its.length : Int) with | (lo, hi) => pure (lo, (-1 : Int), Builtin.Slice.slicePlaces lo hi (-1))) _ _ s
    rw [rev_places]
    show wpAny _ _ (pure ((its.length : Int) - 1, (-1 : Int), Builtin.Slice.slicePlaces ((its.length : Int) - 1) (-1) (-1))) _ _ s
    rw [rev_count]
    exact wpAny_pure q
  refine wpAny_bind (m := Builtin.Slice.sliceApplied (.ref sl) (pure (its.toArray.size : Int))) ?_
  rw [List.size_toArray]
  refine ap ?_
  refine wp_if_neg (by simp) ?_
  show wpAny _ _ (Builtin.Tuple.tupleExact ((List.range its.length).filterMap fun (k : Nat) => its.toArray[((its.length : Int) - 1 + (k : Int) * -1).toNat]?).toArray >>= _) _ _ s
  rw [rev_pick]
  first
    | exact wpAny_bind (m := Builtin.Tuple.tupleExact _) (wpAny_newObj_type (wpAny_pure ⟨_, rfl, wpAny_pure h⟩) htake)
    | exact wpAny_bind (m := Builtin.Tuple.tupleExact _) (wpAny_newObj_type (wpAny_bind (wpAny_pure (wpAny_pure ⟨_, rfl, wpAny_pure h⟩))) htake)
end
def tRevT (K : PySem.W.Frag) (te : TE) : TE := fun σ H Q => te σ H fun x H1 => ∃ a xs, x = .ref a ∧ SqT K H1 a xs ∧ ∀ p, H1 p = none → Q (.ref p) (upd H1 p (.tup xs.reverse))
section
variable {X : Cx} {e a b : Expr} {f g : EM} {pos p2 p p3 : Pos}
theorem pe_revT {te : TE} {k : Nat} {p1 p2 p3 : Pos} (he : PE X e te) : PE X (.Subscript e (.Slice none none (some (.UnaryOp .USub (.Constant (.int 1) k p1) p2)) p3) pos) (tRevT X.K te) := by
  refine ⟨fun pins s σ H Q I h => ?_⟩
  refine Subscript_ (thn (he.run pins s σ H _ I h) fun v s1 ⟨x, H1, I1, r1, q1⟩ => ?_)
  obtain ⟨a, xs, ex, hx, q⟩ := q1
  subst ex
  cases r1
  have hst : PO X (some (.UnaryOp .USub (.Constant (.int 1) k p1) p2)) (tPart (tUn (rU fun i => .int (-i)) (tC (.int 1)))) := po_some (pe_un un_neg pe_int)
  refine wpAny_Slice (thn (po_none.run pins s1 σ H1 (fun o H2 => o = none ∧ H2 = H1) I1 ⟨rfl, rfl⟩) fun vl s2 ⟨l, H2, I2, pl, el, e2⟩ => ?_)
  subst el e2
  refine thn (po_none.run pins s2 σ H2 (fun o H3 => o = none ∧ H3 = H2) I2 ⟨rfl, rfl⟩) fun vu s3 ⟨u, H3, I3, pu, eu, e3⟩ => ?_
  subst eu e3
  refine thn (hst.run pins s3 σ H3 (fun o H4 => o = some (-1) ∧ H4 = H3) I3 ⟨1, rfl, -1, rfl, rfl, rfl⟩) fun vs s4 ⟨o, H4, I4, ps, eo, e4⟩ => ?_
  subst eo e4
  have I5 : Inv X pins σ H4 { s4 with heap := s4.heap.push { cls := .type "slice", data := .fields #[vl, vu, vs] } } := I4.kept (t' := s4.toks) fun b ob q => Heap.get?_push_of_some _ q
  obtain ⟨its, r, ht, hz⟩ := I5.tuple hx
  show wpAny (model X.prog X.w) X.A (subscriptTail e (.Slice none none (some (.UnaryOp .USub (.Constant (.int 1) k p1) p2)) p3) (.ref a) (.ref s4.heap.objs.size)) (EP X pins σ Q) X.xe { s4 with heap := s4.heap.push { cls := .type "slice", data := .fields #[vl, vu, vs] } }
  refine tail_any (ops := [.ref a, .ref s4.heap.objs.size]) ht.typeIs (PyProof.Rows.slot_tuple_getitem.lookup) ?_ (by with_unfolding_all rfl)
  refine revTup ht (Heap.IsSliceOf.new _ vl vu vs) pl pu ps ?_ (by rw [← r.length]; exact hz)
  refine ⟨.ref _, _, I5.laid (t' := s4.toks) (o := .tup xs.reverse) (fun b ob q => Heap.get?_push_of_some _ q) (Nat.le_refl _) ?_, rfl, q _ (I5.hok.fresh (Nat.le_refl _))⟩
  exact ⟨by rw [List.length_reverse]; exact hz, _, r.reverse, IsTup.new _ _⟩
def eRevT (f : EM) : EM := fun ρ => (f ρ).bind fun a => (match a.1.data with
  | .tuple xs => some (.d (.tuple xs.reverse))
  | _ => none : Option Rs).map fun r => (r, a.2)
theorem de_revT {k : Nat} {p1 p2 p3 : Pos} (he : DE X e f) : DE X (.Subscript e (.Slice none none (some (.UnaryOp .USub (.Constant (.int 1) k p1) p2)) p3) pos) (eRevT f) := PE.imp (pe_revT he) fun σ H Q ⟨F, B, pa, ρ, r, ρ', S, e, k⟩ => by
  obtain ⟨⟨r1, ρ1⟩, e1, e⟩ := bind_some e
  obtain ⟨r2, e4, e⟩ := map_some e
  cases e
  refine tD_take S e1 fun v B1 H1 S1 s1 d1 => ?_
  have d1 : DD X.K B1 v r1.data := d1
  change (match r1.data with
    | .tuple xs => some (Rs.d (.tuple xs.reverse))
    | _ => none) = some r at e4
  split at e4
  · rename_i xs hx
    cases e4
    rw [hx] at d1
    cases d1 with
    | tup h1 h2 =>
      refine ⟨_, _, rfl, SqT.of (S1.sb _ _ h1), fun p n => ?_⟩
      obtain ⟨B2, S2, s2, q2⟩ := (NewR.tup n h2.reverse).back S1
      exact k _ B2 _ S2 (s1.trans s2) q2
  · cases e4
end
/-! ### enumerate -/
set_option maxHeartbeats 1000000 in
theorem meets_enum1 {v : Value} {o : Obj} {H : Heap → Prop} (B : Begins v o H) :
    Meets (Builtin.«enumerate.__new__» ⟨[.type "enumerate", v], []⟩) (fun _ R s => H s.heap ∧
      R (.ok (.ret (.ref (s.heap.push o).objs.size))) { s with heap := (s.heap.push o).push { cls := .type "enumerate", data := .fields #[.none, .bool false, .ref s.heap.objs.size, rawInt 0, .none, .none] } }) :=
  .of_wp fun prog w A R s h => by
    obtain ⟨hp, g, d, tk, os⟩ := s; obtain ⟨h1, h⟩ := h
    have hsub := sub_enumerate
    have q1 : ∀ {A' : Around} {E : Value → Shared → Prop} {Q : Value → Shared → Prop}, Q (.ref hp.objs.size) ⟨hp.push o, g, d, tk, os⟩ → wpAny (model prog w) A' (pyIter v) Q E ⟨hp, g, d, tk, os⟩ :=
      fun q => B.iter prog w _ _ ⟨hp, g, d, tk, os⟩ _ h1 q
    wp_walk using q1
    refine wpAny_stack_any fun st => wpAny_pure ?_
    split
    · rename_i c _ _ _ _ _
      cases (c == Value.type "enumerate")
      · wp_walk using q1
        exact ⟨_, rfl, h⟩
      · wp_walk using q1
        exact ⟨_, rfl, h⟩
    · wp_walk using q1
      exact ⟨_, rfl, h⟩
end DL
end PDL15
section PDL16
/-! enumerate of a list or a tuple. -/
namespace DL
open PySem PySem.Spec PyProof.Rows L2

theorem enum_tup {prog : Program} {w : World} {A : Around} {E : Value → Shared → Prop} {s : Shared} {t : Addr} {items : Array Value} {Q : Value → Shared → Prop} (ht : s.heap.IsTuple t items)
    (h : ∀ h', IsEnum h' (s.heap.objs.size + 1) s.heap.objs.size 0 .none → h'.IsTupleIter s.heap.objs.size t 0 → (∀ b o, s.heap.get? b = some o → h'.get? b = some o) → Q (.ref (s.heap.objs.size + 1)) { s with heap := h' }) :
    wpAny (model prog w) A (call (.type "enumerate") [.ref t]) Q E s := by
  refine callType_new F.called_enumerate (by decide) (F.typeCall_enumerate_1 _) (F.newCall_enumerate_1 _) (fun obj => F.args_object_init_2 obj _) F.entry_enumerate_new (meets_enum1 (begins_tuple t items)) ⟨ht, ?_⟩
  generalize ho : ({ cls := .type "tuple_iterator", data := .fields #[.ref t, .int 0 0] } : Obj) = o
  have hz : (s.heap.push o).objs.size = s.heap.objs.size + 1 := Heap.size_push ..
  have h0 : (s.heap.push o).get? s.heap.objs.size = some o := Heap.get?_push_size _ (by rw [← ho]; rfl)
  show _ ∧ _
  rw [hz]
  have he : IsEnum ((s.heap.push o).push { cls := .type "enumerate", data := .fields #[.none, .bool false, .ref s.heap.objs.size, rawInt 0, .none, .none] }) (s.heap.objs.size + 1) s.heap.objs.size 0 .none := by
    have q := Heap.get?_push_size (s.heap.push o) (o := { cls := .type "enumerate", data := .fields #[.none, .bool false, .ref s.heap.objs.size, rawInt 0, .none, .none] }) rfl
    rwa [hz] at q
  refine ⟨⟨_, he, rfl⟩, h _ he ⟨o, Heap.get?_push_of_some _ h0, by rw [← ho], by rw [← ho]; rfl⟩ fun b u e => Heap.get?_push_of_some _ (Heap.get?_push_of_some _ e)⟩
/-- the tuple at a, each item in a new pair -/
def IteT (K : PySem.W.Frag) (a : Addr) (xs : List V) : It :=
  ⟨fun i H => SqT K H a xs ∧ i < xs.length, fun i H v H' => ∃ T x, v = .ref T ∧ H T = none ∧ H' = upd H T (.tup [.int (i : Nat), x]) ∧ xs[i]? = some x, fun i H => SqT K H a xs ∧ i = xs.length⟩
theorem turn_enumT {P : Program} {w : World} {K : PySem.W.Frag} {elts : List Expr} {kk : Nat} {tpos : Pos} (a e it : Addr) (xs : List V) (its : List Value) (hl : xs.length = its.length) (rv : Vals xs its) (nei : e ≠ it) (nai : a ≠ it) (nae : a ≠ e) :
    Turn P w K (.Tuple elts kk tpos) (IteT K a xs) [e, it] e (fun i h => (∃ old, IsEnum h e it ((i : Nat) : Int) old) ∧ h.IsTupleIter it a i) where
  mem := by simp
  obj := fun i h st b hb => by
    obtain ⟨⟨old, he⟩, ⟨o, ho, hc, hd⟩⟩ := st
    have e' : b = e ∨ b = it := by simpa using hb
    rcases e' with z | z
    · rw [z]; exact ⟨_, he, fun v q => nomatch q⟩
    · rw [z]; exact ⟨o, ho, fun v q => by rw [hd] at q; cases q⟩
  keep := fun i h h' st k => let ⟨⟨old, he⟩, hi⟩ := st; ⟨⟨old, k e (by simp) _ he⟩, hi.at fun o q => k it (by simp) o q⟩
  item := by
    intro X hP hw hK hc i pins s σ H E I hf st hg
    subst hP hw hK
    obtain ⟨⟨old, he⟩, hit⟩ := st
    obtain ⟨hq, hi⟩ := hg
    obtain ⟨its2, rv2, p, hz⟩ := I.tuple hq
    have hlen2 := rv2.length
    have hel : e < s.heap.objs.size := Heap.lt_size he
    have hil : it < s.heap.objs.size := by obtain ⟨_, q, _⟩ := hit; exact Heap.lt_size q
    refine wpAny_pyNext_enum_itemC (Draws.tuple (A := X.A.in1) (show X.A.in1.handled = none from I.ok.hd hc) it a nai its2.toArray) he ⟨hit, p⟩ (by rw [List.size_toArray, ← hlen2]; exact hi) nei (by simp [nei, Ne.symm nae]) fun x h' tk hPx ho hst' hT hsz hk => ?_
    obtain ⟨y, hy, ry⟩ := Vals.getU rv2 (i := i) (u := x) (by simpa using hPx)
    refine ⟨_, rfl, wpAny_letOwnedTupleGo_enum (s := { s with heap := h', toks := tk + 1 }) ho fun h'' he' sb => ?_⟩
    have hT2 : h''.get? s.heap.objs.size = some { cls := .type "tuple", data := .seq #[.int i tk, x] } := (sb.2 _ (Nat.ne_of_gt hel)).trans hT
    have new : ObjOk X.prog X.w (upd H s.heap.objs.size (.tup [.int (i : Nat), y])) h'' s.heap.objs.size (.tup [.int (i : Nat), y]) :=
      ⟨by show 2 ≤ sizeLine; decide, [.int i tk, x], .cons ⟨_, rfl⟩ (.cons ry .nil), ⟨_, hT2, rfl, _, rfl⟩⟩
    have I1 : Inv X pins σ (upd H s.heap.objs.size (.tup [.int (i : Nat), y])) { s with heap := h'', toks := tk + 1 } :=
      I.turnedNew (ch := [e, it]) (fun b ob hb q => (sb.2 b (fun z => hb (by simp [z]))).trans (hk b ob (fun z => hb (by simp [z])) (fun z => hb (by simp [z])) q)) hf (Nat.le_refl _) new
    refine ⟨.ref s.heap.objs.size, _, I1, rfl, ⟨_, y, rfl, I.hok.fresh (Nat.le_refl _), rfl, hy⟩, ⟨⟨x, ?_⟩, hst'.1.at fun o q => (sb.2 it (Ne.symm nei)).trans q⟩, fun b hb => ?_⟩
    · have e1 : ((i + 1 : Nat) : Int) = (i : Int) + 1 := by omega
      rw [e1]; exact he'
    · have hb' : b < s.heap.objs.size := by
        have e' : b = e ∨ b = it := by simpa using hb
        rcases e' with z | z
        · rw [z]; exact hel
        · rw [z]; exact hil
      rw [upd_ne (Nat.ne_of_lt hb')]
      exact (hf b hb).1
  done := by
    intro X hP hw hK hc i pins s σ H E I hf st hg
    subst hP hw hK
    obtain ⟨⟨old, he⟩, hit⟩ := st
    obtain ⟨hq, hi⟩ := hg
    obtain ⟨its2, rv2, p, hz⟩ := I.tuple hq
    have hlen2 := rv2.length
    obtain ⟨f0, f1, f2, f3, f4, f5⟩ := hf it (by simp)
    have hsz : its2.toArray.size = i := by rw [List.size_toArray, ← hlen2]; exact hi.symm
    exact wpAny_pyNext_enum_endD (Draws.tuple (A := X.A.in1) (show X.A.in1.handled = none from I.ok.hd hc) it a nai its2.toArray) he ⟨by rw [hsz]; exact hit, p⟩ fun h' eb => ⟨rfl, I.turned (t' := s.toks) (fun b o hb q => eb b o hb q) f0 f1 f3 f4 f5⟩
  self := fun A i s Q E st h => let ⟨⟨_, he⟩, _⟩ := st; wpAny_pyIter_enum he h
def iEnumT (K : PySem.W.Frag) (ta : TA) : TI := fun σ H R => ta σ H fun vs H1 => ∃ a xs, vs = [.ref a] ∧ ((SqL K H1 a xs ∧ R (Ite K a) H1) ∨ (SqT K H1 a xs ∧ H1 a ≠ none ∧ R (IteT K a xs) H1))
theorem pi_enumT {X : Cx} {e : Expr} {ta : TA} {p pos tpos : Pos} {elts : List Expr} {kk : Nat} (hg : Gl X "enumerate") (hm : X.mg "enumerate" = none) (ha : PA X [e] ta) (hs : starEach [e] X.env = [(false, eval e X.env)] := by rfl) :
    PI X (.Tuple elts kk tpos) (.Call (.Name "enumerate" p) [e] [] pos) (iEnumT X.K ta) := by
  refine ⟨fun pins s σ H R I h => ?_⟩
  refine Call_ (ld_blt I hg hm boot_enumerate (PyProof.Rows.callWith_type1 (thn (ha.run pos pins s σ H _ I h) fun us s1 ⟨vs, H1, I1, r1, q1⟩ => ?_) hs rfl))
  obtain ⟨a, xs, ex, hq⟩ := q1
  subst ex
  rw [Vals.ref1 r1]
  have fp : ∀ b ∈ [s1.heap.objs.size + 1, s1.heap.objs.size], FpOk X pins H1 b := fun b hb => by
    have e' : b = s1.heap.objs.size + 1 ∨ b = s1.heap.objs.size := by simpa using hb
    have hle : s1.heap.objs.size ≤ b := by
      rcases e' with z | z
      · rw [z]; exact Nat.le_add_right _ _
      · rw [z]; exact Nat.le_refl _
    exact I1.fpOk hle (I1.hok.fresh hle)
  rcases hq with ⟨hq, q⟩ | ⟨hq, na, q⟩
  · obtain ⟨its, rv, p', hz⟩ := I1.list hq
    refine call_enumerate_list p'.isList fun h' he hit hsz hk => wpAny_pyIter_enum he ?_
    have I2 : Inv X pins σ H1 { s1 with heap := h' } := I1.kept (t' := s1.toks) hk
    exact ⟨s1.heap.objs.size + 1, _, _, _, H1, rfl, I2, turn_enum a (s1.heap.objs.size + 1) s1.heap.objs.size, ⟨⟨.none, he⟩, hit, Nat.succ_ne_self _⟩, fp, q⟩
  · obtain ⟨its, rv, p', hz⟩ := I1.tuple hq
    have hlt : a < s1.heap.objs.size := by obtain ⟨_, z, _⟩ := p'; exact Heap.lt_size z
    refine enum_tup p' fun h' he hit hk => wpAny_pyIter_enum he ?_
    have I2 : Inv X pins σ H1 { s1 with heap := h' } := I1.kept (t' := s1.toks) hk
    exact ⟨s1.heap.objs.size + 1, _, _, _, H1, rfl, I2, turn_enumT a (s1.heap.objs.size + 1) s1.heap.objs.size xs its rv.length rv (Nat.succ_ne_self _) (Nat.ne_of_lt hlt) (Nat.ne_of_lt (Nat.lt_succ_of_lt hlt)), ⟨⟨.none, he⟩, hit⟩, fp, q⟩
section
variable {K : PySem.W.Frag} {B : Hp} {a b : Addr} {vs : List V} {ds es : List PyData}
theorem walkD_enumT (h : B a = some (.tup vs)) (d : DDs K B vs ds) : WalkD K B (IteT K a vs) (enumD ds) := by
  have hl : (enumD ds).length = ds.length := by simp [enumD]
  refine ⟨fun i H hi s => ⟨SqT.of (s _ _ h), by rw [hl] at hi; rw [d.length]; exact hi⟩, fun H s => ⟨SqT.of (s _ _ h), by rw [hl, d.length]⟩, fun i H x H' e he s y => ?_⟩
  obtain ⟨T, v, rfl, n, rfl, y⟩ := y
  obtain ⟨x, hx, rfl⟩ := enumD_at he
  obtain ⟨v', hv, hd⟩ := d.get hx
  rw [y] at hv
  cases hv
  exact .tup n (.cons (.int _) (.cons hd .nil))
end
def enum1D : List PyData → Option (List PyData)
  | [.list xs] => some (enumD xs)
  | [.tuple xs] => some (enumD xs)
  | _ => none
section
variable {X : Cx} {e : Expr} {fa : AM} {p pos tpos : Pos} {elts : List Expr} {kk : Nat}
theorem di_enum (hg : Gl X "enumerate") (hm : X.mg "enumerate" = none) (ha : DA X [e] fa) (hs : starEach [e] X.env = [(false, eval e X.env)] := by rfl) :
    DI X (.Tuple elts kk tpos) (.Call (.Name "enumerate" p) [e] [] pos) (iApp enum1D fa) := PI.imp (pi_enumT hg hm ha hs) fun σ H R ⟨F, B, pa, ρ, ds, ρ', S, e, k⟩ => by
  obtain ⟨⟨xs, ρ1⟩, e1, e⟩ := bind_some e
  obtain ⟨ys, e2, e⟩ := map_some e
  cases e
  refine ⟨F, B, pa, ρ, xs, _, S, e1, fun vs B1 H1 S1 s1 d1 => ?_⟩
  change enum1D xs = some _ at e2
  unfold enum1D at e2
  split at e2
  · cases e2
    obtain ⟨v, rfl, h⟩ := one_of d1
    cases h with
    | lst h1 g1 => exact ⟨_, _, rfl, .inl ⟨SqL.of (S1.sb _ _ h1), k _ B1 H1 S1 s1 (walkD_enum h1 g1)⟩⟩
  · cases e2
    obtain ⟨v, rfl, h⟩ := one_of d1
    cases h with
    | tup h1 g1 => exact ⟨_, _, rfl, .inr ⟨SqT.of (S1.sb _ _ h1), by rw [S1.sb _ _ h1]; simp, k _ B1 H1 S1 s1 (walkD_enumT h1 g1)⟩⟩
  · cases e2
end
end DL
end PDL16
section PDL17
/-! Own dicts with tuples as keys. -/
namespace DL
open PySem PySem.Spec PyProof.Rows L2

def keyOf1 : PyData → Option Key
  | .int i => some (.inl i)
  | .str x => some (.inr x)
  | _ => none
def keysOf : List PyData → Option (List Key)
  | [] => some []
  | d :: ds => (keyOf1 d).bind fun k => (keysOf ds).map fun ks => k :: ks
def keyOfT : PyData → Option (List Key)
  | .tuple ds => keysOf ds
  | _ => none
theorem keyOf1_eq {d : PyData} {k : Key} (h : keyOf1 d = some k) : d = keyD k := by
  cases d <;> simp [keyOf1] at h <;> subst h <;> rfl
theorem keysOf_eq : ∀ {ds : List PyData} {ks : List Key}, keysOf ds = some ks → ds = ks.map keyD
  | [], ks, h => by cases h; rfl
  | d :: ds, ks, h => by
    obtain ⟨k, e1, h⟩ := bind_some h
    obtain ⟨js, e2, h⟩ := map_some h
    subst h
    rw [keyOf1_eq e1, keysOf_eq e2, List.map_cons]
theorem keyOf1_keyD (k : Key) : keyOf1 (keyD k) = some k := by cases k <;> rfl
theorem keysOf_map : ∀ ks : List Key, keysOf (ks.map keyD) = some ks
  | [] => rfl
  | k :: ks => by
    rw [List.map_cons, keysOf, keyOf1_keyD, Option.bind_some, keysOf_map ks, Option.map_some]
theorem keyOfT_keyT (ks : List Key) : keyOfT (keyT ks) = some ks := keysOf_map ks
theorem keyOfT_eq {d : PyData} {ks : List Key} (h : keyOfT d = some ks) : d = keyT ks := by
  cases d with
  | tuple ds => exact congrArg PyData.tuple (keysOf_eq h)
  | none => cases h
  | bool _ => cases h
  | int _ => cases h
  | str _ => cases h
  | list _ => cases h
  | dict _ => cases h
theorem DDs.keys {K : PySem.W.Frag} {B : Hp} : ∀ {ks : List Key} {vs : List V}, DDs K B vs (ks.map keyD) → vs = ks.map kV
  | [], _, h => by cases h; rfl
  | k :: ks, _, h => by
    cases h with
    | cons h1 h2 =>
      rw [DDs.keys h2]
      cases k with
      | inl i => cases h1; rfl
      | inr x => cases h1; rfl
def lookD (kvs : List (PyData × PyData)) (ks : List Key) : Option PyData := (kvs.find? fun p => decide (keyOfT p.1 = some ks)).map (·.2)
theorem look_val {K : PySem.W.Frag} {B : Hp} {k : List Key} {js : List (List Key × V)} {kvs : List (PyData × PyData)} (h : Paired (fun p q => keyT p.1 = q.1 ∧ DD K B p.2 q.2) js kvs) : (lookD kvs k = none → valV js k = none) ∧ ∀ d, lookD kvs k = some d → ∃ v, valV js k = some v ∧ DD K B v d := by
  induction h with
  | nil => exact ⟨fun _ => rfl, fun d e => by cases e⟩
  | @cons p q ps qs h t ih =>
    have e1 : keyOfT q.1 = some p.1 := by rw [← h.1]; exact keyOfT_keyT _
    by_cases hk : p.1 = k
    · have e2 : lookD (q :: qs) k = some q.2 := by simp [lookD, List.find?_cons, e1, hk]
      rw [e2, valV_pos hk]
      refine ⟨fun z => ?_, fun d e => ?_⟩
      · cases z
      · cases e
        exact ⟨_, rfl, h.2⟩
    · have e2 : lookD (q :: qs) k = lookD qs k := by simp [lookD, List.find?_cons, e1, hk]
      rw [e2, valV_neg hk]
      exact ih
theorem paired_snoc {α β : Type} {R : α → β → Prop} {as : List α} {bs : List β} {a : α} {b : β} (h : Paired R as bs) (r : R a b) : Paired R (as ++ [a]) (bs ++ [b]) := by
  induction h with
  | nil => exact .cons r .nil
  | cons h t ih => exact .cons h ih
theorem paired_len {α β : Type} {R : α → β → Prop} {as : List α} {bs : List β} (h : Paired R as bs) : as.length = bs.length := by
  induction h with
  | nil => rfl
  | cons h t ih => simp [ih]
section
variable {K : PySem.W.Frag} {F B B' H H' : Hp} {pa : Nat → Option Addr} {σ : L2.St} {ρ : Rho} {v : V} {vs : List V}
/-- a slot's own dict has changed, all else stands -/
theorem StR.redict (S : StR K F B pa σ H ρ) {i : Nat} {t : Bool} {kvs kvs' : List (PyData × PyData)} {a : Addr} {o : HO} (e : ρ[i]? = some (.k t kvs)) (ha : σ[i]? = some (some (V.ref a))) (hd : DictR K B (upd H a o) a t kvs') : StR K F B pa σ (upd H a o) (ρ.set i (.k t kvs')) := by
  obtain ⟨b, h1, h2, h3, h4⟩ := S.sl i _ e
  rw [ha] at h1
  cases h1
  have ca : CellAt ρ σ i a := ⟨_, e, rfl, ha⟩
  have hl : i < ρ.length := (List.getElem?_eq_some_iff.mp e).1
  refine ⟨by simp [S.len], same_off S.sb h2, same_off S.sf h3, S.fb, fun j s es => ?_, fun j k b c1 c2 => ?_⟩
  · by_cases hj : j = i
    · subst hj
      rw [List.getElem?_set_self hl] at es
      cases es
      exact ⟨a, ha, h2, h3, hd⟩
    · rw [List.getElem?_set_ne (Ne.symm hj)] at es
      refine (S.sl j s es).keep (Same.refl _) fun b c z => ?_
      have cb : CellAt ρ σ j b := ⟨s, es, c, z⟩
      exact ⟨(S.cellB cb).1, upd_ne fun q => hj (S.ds j i a (by rw [← q]; exact cb) ca)⟩
  · have back : ∀ {j b}, CellAt (ρ.set i (.k t kvs')) σ j b → CellAt ρ σ j b := fun {j b} c => by
      rcases c.set with ⟨hj, _, z⟩ | ⟨_, c⟩
      · subst hj
        rw [ha] at z
        cases z
        exact ca
      · exact c
    exact S.ds j k b (back c1) (back c2)
/-- a new dict in slot i -/
theorem StR.storeK (S : StR K F B pa σ H ρ) {a : Addr} {o : HO} (i : Nat) (t : Bool) (n : H a = none) (hd : DictR K B (upd H a o) a t []) : StR K F B pa (σ.set i (some (.ref a))) (upd H a o) (ρ.set i (.k t [])) := by
  have S1 := S.new (o := o) n
  have at' : ∀ {j : Nat} {s : Sl}, (ρ.set i (.k t []))[j]? = some s → (j = i ∧ s = .k t [] ∧ (σ.set i (some (V.ref a)))[j]? = some (some (V.ref a))) ∨ (j ≠ i ∧ ρ[j]? = some s ∧ (σ.set i (some (V.ref a)))[j]? = σ[j]?) := fun {j s} e => by
    by_cases hj : j = i
    · subst hj
      have hl : j < ρ.length := by
        obtain ⟨hl, _⟩ := List.getElem?_eq_some_iff.mp e
        simpa using hl
      rw [List.getElem?_set_self hl] at e
      cases e
      exact .inl ⟨rfl, rfl, List.getElem?_set_self (by rw [← S.len]; exact hl)⟩
    · rw [List.getElem?_set_ne (Ne.symm hj)] at e
      exact .inr ⟨hj, e, List.getElem?_set_ne (Ne.symm hj)⟩
  have cell : ∀ {j : Nat} {b : Addr}, CellAt (ρ.set i (.k t [])) (σ.set i (some (V.ref a))) j b → (j = i ∧ b = a) ∨ (j ≠ i ∧ CellAt ρ σ j b) := fun {j b} ⟨s, e, hc, z⟩ => by
    rcases at' e with ⟨hj, hs, e2⟩ | ⟨hj, e1, e2⟩
    · rw [e2] at z
      cases z
      exact .inl ⟨hj, rfl⟩
    · rw [e2] at z
      exact .inr ⟨hj, s, e1, hc, z⟩
  refine ⟨by simp [S.len], S1.sb, S1.sf, S1.fb, fun j s e => ?_, fun j k b c1 c2 => ?_⟩
  · rcases at' e with ⟨hj, hs, e2⟩ | ⟨hj, e1, e2⟩
    · subst hs
      exact ⟨a, e2, S.noB n, S.noF n, hd⟩
    · have w := S1.sl j s e1
      cases s with
      | u => trivial
      | d x => obtain ⟨u, h1, h2⟩ := w; exact ⟨u, e2.trans h1, h2⟩
      | l xs => obtain ⟨b, ws, h1, h2⟩ := w; exact ⟨b, ws, e2.trans h1, h2⟩
      | p xs => obtain ⟨b, ws, h0, h1, h2⟩ := w; exact ⟨b, ws, h0, e2.trans h1, h2⟩
      | k t kvs => obtain ⟨b, h1, h2⟩ := w; exact ⟨b, e2.trans h1, h2⟩
  · rcases cell c1 with ⟨h1, h2⟩ | ⟨h1, h2⟩
    · rcases cell c2 with ⟨g1, _⟩ | ⟨_, g2⟩
      · rw [h1, g1]
      · exact absurd (by rw [h2] at g2; exact g2) (S.noC n k)
    · rcases cell c2 with ⟨_, g2⟩ | ⟨_, g2⟩
      · exact absurd (by rw [g2] at h2; exact h2) (S.noC n j)
      · exact S.ds j k b h2 g2
end
section
variable {X : Cx} {pos : Pos} {e : Expr} {f : EM} {i : Nat}
/-- a, b = e, {} -/
def sParNew (i j : Nat) (f : EM) : SM := fun ρ => (f ρ).map fun a => .nx ((a.2.set i (.d a.1.data)).set j (.k true []))
theorem ds_parNew {i j : Nat} {x y : Str} {a : Expr} {px py pt pd : Pos} {kt k2 pt2} (hc : X.calm = true) (hN : X.N.Nodup) (hi : X.N[i]? = some x) (hj : X.N[j]? = some y) (hij : i ≠ j)
    (hx : X.env.scope.names.lookup x = some .local) (hy : X.env.scope.names.lookup y = some .local) (ha : DE X a f)
    (hw : swappedStores [.Tuple [.Name x px, .Name y py] kt pt] (.Tuple [a, .Dict [] [] pd] k2 pt2) X.env = pure (some [x, y]) := by rfl)
    (hs : swapsWithSole [.Tuple [.Name x px, .Name y py] kt pt] (.Tuple [a, .Dict [] [] pd] k2 pt2) pos.line X.env = pure false := by rfl)
    (h1 : starEach [a, .Dict [] [] pd] X.env = (false, eval a X.env) :: starEach [.Dict [] [] pd] X.env := by rfl) (h2 : starEach [.Dict [] [] pd] X.env = (false, eval (.Dict [] [] pd) X.env) :: starEach [] X.env := by rfl) :
    DS X (.Assign [.Tuple [.Name x px, .Name y py] kt pt] (.Tuple [a, .Dict [] [] pd] k2 pt2) pos) (sParNew i j f) := PS.imp (ps_par hc hN hi hj hij hx hy (pa_cons ha (pa_cons pe_dnewT pa_nil h2) h1) hw hs) fun D σ H ⟨F, B, pa, ρ, out, S, e, k⟩ => by
  obtain ⟨⟨r1, ρ1⟩, e1, e⟩ := map_some e
  cases e
  refine tD_take S e1 fun v B1 H1 S1 s1 d1 p n => ⟨_, _, rfl, ?_⟩
  have S2 := S1.store (r := .d r1.data) d1 i
  exact k _ B1 _ (S2.storeK j true n ⟨[], upd_same, .nil⟩) s1
/-- d[t], t a tuple -/
def kvsOf : Sl → Option (List (PyData × PyData))
  | .k true kvs => some kvs
  | _ => none
def eDGet (i : Nat) (f : EM) : EM := fun ρ => ((ρ[i]?).bind kvsOf).bind fun _ => (f ρ).bind fun a => (a.2[i]?).bind fun s => (kvsOf s).bind fun kvs => (keyOfT a.1.data).bind fun ks => (lookD kvs ks).map fun d => (.d d, a.2)
theorem kvsOf_eq {s : Sl} {kvs : List (PyData × PyData)} (h : kvsOf s = some kvs) : s = .k true kvs := by
  unfold kvsOf at h
  split at h
  · cases h; rfl
  · cases h
theorem de_dget {x : Str} {p : Pos} (hu : X.A.units + 64 < cLine) (ho : PE X (.Name x p) (tVar i)) (hi : DE X e f) (hs : NoSl e := by intro _ _; rfl) : DE X (.Subscript (.Name x p) e pos) (eDGet i f) := PE.imp (pe_dget (by omega) ho hi hs) fun σ H Q ⟨F, B, pa, ρ, r, ρ', S, e, k⟩ => by
  obtain ⟨kv0, e0, e⟩ := bind_some e
  obtain ⟨s0, e00, hs0⟩ := bind_some e0
  obtain ⟨⟨r1, ρ1⟩, e1, e⟩ := bind_some e
  obtain ⟨s, es, e⟩ := bind_some e
  obtain ⟨kvs, hk, e⟩ := bind_some e
  obtain ⟨ks, ek, e⟩ := bind_some e
  obtain ⟨d, el, e⟩ := map_some e
  cases e
  have hs0' := kvsOf_eq hs0
  have hk' := kvsOf_eq hk
  subst hs0' hk'
  obtain ⟨a, ha, _⟩ := S.sl i _ e00
  refine ⟨V.ref a, ha, ?_⟩
  refine tD_take S e1 fun v B1 H1 S1 s1 d1 => ?_
  have d1 : DD X.K B1 v r1.data := d1
  have ek : keyOfT r1.data = some ks := ek
  rw [keyOfT_eq ek] at d1
  obtain ⟨a', ha', _, _, js, hj, hp⟩ := S1.sl i _ es
  rw [ha] at ha'
  cases ha'
  obtain ⟨w, hw, hd⟩ := (look_val hp).2 d el
  cases d1 with
  | tup h1 h2 =>
    rw [h2.keys] at h1
    exact ⟨a, w, rfl, by rw [← hw]; exact DGet.t hj (S1.sb _ _ h1), k w B1 H1 S1 s1 hd⟩
/-- t not in d -/
def tDNot (i : Nat) (f : EM) : TM := fun ρ => (f ρ).bind fun a => (a.2[i]?).bind fun s => (kvsOf s).bind fun kvs => (keyOfT a.1.data).map fun ks => (!(lookD kvs ks).isSome, a.2)
theorem dt_dnot {x : Str} {p : Pos} (hu : X.A.units + 64 < cLine) (hi : DE X e f) (ho : PE X (.Name x p) (tVar i)) (hb : behindInMarks .NotIn (.Name x p) = false := by rfl) : DT X (.Compare e [.NotIn] [.Name x p] pos) (tDNot i f) := PT.imp (pt_cmp (pc_dnotin (by omega) hi ho) hb) fun σ H Q ⟨F, B, pa, ρ, b, ρ', S, e, k⟩ => by
  obtain ⟨⟨r1, ρ1⟩, e1, e⟩ := bind_some e
  obtain ⟨s, es, e⟩ := bind_some e
  obtain ⟨kvs, hk, e⟩ := bind_some e
  obtain ⟨ks, ek, e⟩ := map_some e
  cases e
  have hk' := kvsOf_eq hk
  subst hk'
  refine tD_take S e1 fun v B1 H1 S1 s1 d1 => ?_
  have d1 : DD X.K B1 v r1.data := d1
  have ek : keyOfT r1.data = some ks := ek
  rw [keyOfT_eq ek] at d1
  obtain ⟨a, ha, _, _, js, hj, hp⟩ := S1.sl i _ es
  cases d1 with
  | tup h1 h2 =>
    rw [h2.keys] at h1
    refine ⟨V.ref a, ha, a, _, rfl, DGet.t hj (S1.sb _ _ h1), _, rfl, ?_⟩
    have e2 : (valV js ks).isSome = (lookD kvs ks).isSome := by
      cases q : lookD kvs ks with
      | none => rw [(look_val hp).1 q]; rfl
      | some d => obtain ⟨w, hw, _⟩ := (look_val hp).2 d q; rw [hw]; rfl
    rw [e2]
    exact k B1 H1 S1 s1
/-- d[t] = e, t not there as yet -/
def sDPut (i : Nat) (f g : EM) : SM := fun ρ => (g ρ).bind fun b => ((b.2[i]?).bind kvsOf).bind fun _ => (f b.2).bind fun a => (a.2[i]?).bind fun s => (kvsOf s).bind fun kvs => (keyOfT a.1.data).bind fun ks => if lookD kvs ks = none ∧ kvs.length < sizeLine then some (.nx (a.2.set i (.k true (kvs ++ [(keyT ks, b.1.data)])))) else none
theorem ds_dput {x : Str} {p pos' : Pos} {value : Expr} {g : EM} (hu : X.A.units + 64 < cLine) (ho : PE X (.Name x p) (tVar i)) (hi : DE X e f) (hv : DE X value g) (hs : swapsWith value (some (.Subscript (.Name x p) e pos')) pos.line X.env = pure false := by rfl) :
    DS X (.Assign [.Subscript (.Name x p) e pos'] value pos) (sDPut i f g) := PS.imp (ps_dput (by omega) ho hi hv hs) fun D σ H ⟨F, B, pa, ρ, out, S, e, k⟩ => by
  obtain ⟨⟨r0, ρ0⟩, e0, e⟩ := bind_some e
  obtain ⟨kv0, e00, e⟩ := bind_some e
  obtain ⟨s0, e01, hs0⟩ := bind_some e00
  obtain ⟨⟨r1, ρ1⟩, e1, e⟩ := bind_some e
  obtain ⟨s, es, e⟩ := bind_some e
  obtain ⟨kvs, hk, e⟩ := bind_some e
  obtain ⟨ks, ek, e⟩ := bind_some e
  split at e
  · rename_i hz
    cases e
    have hs0' := kvsOf_eq hs0
    have hk' := kvsOf_eq hk
    subst hs0' hk'
    refine tD_take S e0 fun u B0 H0 S0 s0 d0 => ?_
    obtain ⟨a, ha, _⟩ := S0.sl i _ e01
    refine ⟨V.ref a, ha, ?_⟩
    refine tD_take S0 e1 fun v B1 H1 S1 s1 d1 => ?_
    have d1 : DD X.K B1 v r1.data := d1
    have d0 : DD X.K B0 u r0.data := d0
    have ek : keyOfT r1.data = some ks := ek
    rw [keyOfT_eq ek] at d1
    obtain ⟨a', ha', _, _, js, hj, hp⟩ := S1.sl i _ es
    rw [ha] at ha'
    cases ha'
    cases d1 with
    | tup h1 h2 =>
      rw [h2.keys] at h1
      refine ⟨a, _, rfl, DPut.t hj (S1.sb _ _ h1) (by rw [paired_len hp]; exact hz.2), ?_⟩
      rw [putK_new _ ((look_val hp).1 hz.1)]
      exact k σ B1 _ (S1.redict es ha ⟨_, upd_same, paired_snoc hp ⟨rfl, d0.up s1⟩⟩) (s0.trans s1)
  · cases e
end
end DL
end PDL17
section PDL18
/-! f(x, y): two own lists are handed on. -/
namespace DL
open PySem PySem.Spec PyProof.Rows L2

section
open Classical
variable {K : PySem.W.Frag} {F B B' H H' : Hp} {pa : Nat → Option Addr} {σ : L2.St} {ρ : Rho} {v : V} {vs : List V}
theorem StR.relist2 (S : StR K F B pa σ H ρ) {i i2 : Nat} {s s2 : Sl} {xs xs2 ys ys2 : List PyData} {a a2 : Addr} {ws ws2 : List V} (hne : i ≠ i2) (e : ρ[i]? = some s) (hs : listOf s = some xs) (ha : σ[i]? = some (some (V.ref a))) (e2 : ρ[i2]? = some s2) (hs2 : listOf s2 = some xs2) (ha2 : σ[i2]? = some (some (V.ref a2)))
    (sb : Same B B') (bh : Same B' H') (sf : Same F H') (fb : ∀ q, F q ≠ none → B' q = none) (hB : B' a = none) (hH : H' a = some (.lst ws)) (hd : DDs K B' ws ys) (hB2 : B' a2 = none) (hH2 : H' a2 = some (.lst ws2)) (hd2 : DDs K B' ws2 ys2)
    (oth : ∀ j b, j ≠ i → j ≠ i2 → CellAt ρ σ j b → B' b = none ∧ H' b = H b) : StR K F B' pa σ H' ((ρ.set i (withList ys s)).set i2 (withList ys2 s2)) := by
  obtain ⟨b, ws0, h1, h2, h3, h4, h5, h6⟩ := listOf_at S e hs
  rw [ha] at h1
  cases h1
  obtain ⟨b2, ws02, g1, g2, g3, g4, g5, g6⟩ := listOf_at S e2 hs2
  rw [ha2] at g1
  cases g1
  have hl : i < ρ.length := (List.getElem?_eq_some_iff.mp e).1
  have hl2 : i2 < ρ.length := (List.getElem?_eq_some_iff.mp e2).1
  have mk : ∀ {j : Nat} {t : Sl} {zs us : List PyData} {q : Addr} {ks : List V}, ρ[j]? = some t → listOf t = some zs → σ[j]? = some (some (V.ref q)) → B' q = none → F q = none → H' q = some (.lst ks) → DDs K B' ks us → SlR K F B' pa σ H' j (withList us t) := fun {j t zs us q ks} et ht hq k1 k2 k3 k4 => by
    have w := S.sl j t et
    cases t with
    | l zs => exact ⟨q, ks, hq, k1, k2, k3, k4⟩
    | p zs =>
      obtain ⟨c, _, h0, hc, _⟩ := w
      rw [hq] at hc
      cases hc
      exact ⟨q, ks, h0, hq, k1, k2, k3, k4⟩
    | u => cases ht
    | d _ => cases ht
    | k _ _ => cases ht
  refine ⟨by simp [S.len], bh, sf, fb, fun j t et => ?_, fun j k b c1 c2 => ?_⟩
  · by_cases hj2 : j = i2
    · subst hj2
      rw [List.getElem?_set_self (by simpa using hl2)] at et
      cases et
      exact mk e2 hs2 ha2 hB2 g4 hH2 hd2
    · rw [List.getElem?_set_ne (Ne.symm hj2)] at et
      by_cases hj : j = i
      · subst hj
        rw [List.getElem?_set_self hl] at et
        cases et
        exact mk e hs ha hB h4 hH hd
      · rw [List.getElem?_set_ne (Ne.symm hj)] at et
        exact (S.sl j t et).keep sb fun b c z => oth j b hj hj2 ⟨t, et, c, z⟩
  · have back : ∀ {j b}, CellAt ((ρ.set i (withList ys s)).set i2 (withList ys2 s2)) σ j b → CellAt ρ σ j b := fun {j b} c => by
      rcases c.set with ⟨hj, _, z⟩ | ⟨_, c⟩
      · subst hj
        rw [ha2] at z
        cases z
        exact g2
      · rcases c.set with ⟨hj, _, z⟩ | ⟨_, c⟩
        · subst hj
          rw [ha] at z
          cases z
          exact h2
        · exact c
    exact S.ds j k b (back c1) (back c2)
noncomputable def ownB (ρ : Rho) (σ : L2.St) (H : Hp) (i j : Nat) : Hp := fun q => if ∃ k, CellAt ρ σ k q ∧ k ≠ i ∧ k ≠ j then H q else none
theorem ownB_le {i j : Nat} : Same (ownB ρ σ H i j) H := fun q o e => by
  unfold ownB at e
  split at e
  · exact e
  · cases e
theorem ownB_cell {i j : Nat} {q : Addr} (h : ownB ρ σ H i j q ≠ none) : ∃ k, CellAt ρ σ k q ∧ k ≠ i ∧ k ≠ j := by
  unfold ownB at h
  split at h
  · assumption
  · exact absurd rfl h
theorem ownB_at {i j k : Nat} {q : Addr} (c : CellAt ρ σ k q) (n : k ≠ i) (m : k ≠ j) : ownB ρ σ H i j q = H q := by
  unfold ownB
  rw [if_pos ⟨k, c, n, m⟩]
abbrev pa2 (a b : Addr) : Nat → Option Addr := fun j => if j = 0 then some a else if j = 1 then some b else none
theorem StR.callPP (S : StR K F B pa σ H ρ) {i j : Nat} {s t : Sl} {xs ys : List PyData} {a b : Addr} (hij : i ≠ j) (e : ρ[i]? = some s) (hs : listOf s = some xs) (ha : σ[i]? = some (some (V.ref a))) (e2 : ρ[j]? = some t) (ht : listOf t = some ys) (hb : σ[j]? = some (some (V.ref b))) :
    StR K (plusH F (ownB ρ σ H i j)) B (pa2 a b) ([V.ref a, V.ref b].map some) H [.p xs, .p ys] := by
  obtain ⟨a', ws0, h1, h2, h3, h4, h5, h6⟩ := listOf_at S e hs
  rw [ha] at h1
  cases h1
  obtain ⟨b', ws1, g1, g2, g3, g4, g5, g6⟩ := listOf_at S e2 ht
  rw [hb] at g1
  cases g1
  have nA : ∀ {k : Nat} {q : Addr}, CellAt ρ σ k q → (k = i ∨ k = j) → ownB ρ σ H i j q = none := fun {k q} c hk => Classical.byContradiction fun z => by
    obtain ⟨m, cm, n1, n2⟩ := ownB_cell z
    have := S.ds m k q cm c
    subst this
    rcases hk with hk | hk
    · exact n1 hk
    · exact n2 hk
  refine ⟨rfl, S.sb, plus_le S.sf ownB_le, fun q hq => ?_, fun k u et => ?_, fun k m c c1 c2 => ?_⟩
  · by_cases hF : F q = none
    · obtain ⟨k, c, _⟩ := ownB_cell (fun z => hq (plus_none.mpr ⟨hF, z⟩))
      exact (S.cellB c).1
    · exact S.fb q hF
  · match k, et with
    | 0, et =>
      cases et
      exact ⟨a, ws0, rfl, rfl, h3, plus_none.mpr ⟨h4, nA h2 (.inl rfl)⟩, h5, h6⟩
    | 1, et =>
      cases et
      exact ⟨b, ws1, rfl, rfl, g3, plus_none.mpr ⟨g4, nA g2 (.inr rfl)⟩, g5, g6⟩
    | k + 2, et => cases et
  · obtain ⟨_, et, _, z⟩ := c1
    obtain ⟨_, et2, _, z2⟩ := c2
    have two : ∀ {k : Nat} {c : Addr}, ([V.ref a, V.ref b].map some)[k]? = some (some (V.ref c)) → (k = 0 ∧ c = a) ∨ (k = 1 ∧ c = b) := fun {k c} z => by
      match k, z with
      | 0, z => cases z; exact .inl ⟨rfl, rfl⟩
      | 1, z => cases z; exact .inr ⟨rfl, rfl⟩
      | k + 2, z => cases z
    have ne : a ≠ b := fun z => hij (S.ds i j a h2 (by rw [z]; exact g2))
    rcases two z with ⟨z1, z3⟩ | ⟨z1, z3⟩ <;> rcases two z2 with ⟨z4, z5⟩ | ⟨z4, z5⟩
    · rw [z1, z4]
    · exact absurd (z3.symm.trans z5) ne
    · exact absurd (z5.symm.trans z3) ne
    · rw [z1, z4]
end
def eCallPP (n : Nat) (G : GM) (i j : Nat) : EM := fun ρ => (ρ[i]?).bind fun s => (listOf s).bind fun xs => (ρ[j]?).bind fun t => (listOf t).bind fun ys => if i ≠ j ∧ n = 2 then
    (G [.p xs, .p ys]).bind fun b => (pOf b.2[0]?).bind fun xs' => (pOf b.2[1]?).map fun ys' => (b.1, (ρ.set i (withList xs' s)).set j (withList ys' t))
  else none
theorem tCallPP_of {K : PySem.W.Frag} {n i j : Nat} {G : GM} {E : XK} : ∀ σ H Q, tD K (eCallPP n G i j) σ H Q → tCall (spG K n G) [] E (tCons (tVar i) (tCons (tVar j) tNil)) σ H Q := fun σ H Q ⟨F', B, pa, ρ, r, ρ', S, e, k⟩ => by
  obtain ⟨s, es, e⟩ := bind_some e
  obtain ⟨xs, hs, e⟩ := bind_some e
  obtain ⟨t, et, e⟩ := bind_some e
  obtain ⟨ys, ht, e⟩ := bind_some e
  split at e
  · rename_i hn
    obtain ⟨hij, hn⟩ := hn
    obtain ⟨⟨r1, ρ2⟩, e2, e⟩ := bind_some e
    obtain ⟨xs', h0, e⟩ := bind_some e
    obtain ⟨ys', h1, e⟩ := map_some e
    cases e
    obtain ⟨a, wa, ha, ca, _⟩ := listOf_at S es hs
    obtain ⟨b, wb, hb, cb, _⟩ := listOf_at S et ht
    refine ⟨V.ref a, ha, V.ref b, hb, ?_⟩
    show spG K n G ([V.ref a, V.ref b] ++ []) H Q E
    rw [List.append_nil]
    refine ⟨_, B, _, _, _, ρ2, by simp [hn], S.callPP hij es hs ha et ht hb, fun m c z => ?_, e2, fun v B2 H2 S2 s2 q2 => ?_⟩
    · match m, z with
      | 0, z => cases z; rfl
      | 1, z => cases z; rfl
      | m + 2, z => cases z
    · obtain ⟨c0, w0, i0, i1, i2, i3, i4, i5⟩ := S2.sl 0 _ (pOf_eq h0)
      obtain ⟨c1, w1, j0, j1, j2, j3, j4, j5⟩ := S2.sl 1 _ (pOf_eq h1)
      cases i0
      cases j0
      have dis : ∀ q, ownB ρ σ H i j q ≠ none → F' q = none := fun q h => by
        obtain ⟨k, c, _⟩ := ownB_cell h
        exact (S.cellB c).2.1
      have S3 : StR K F' B2 pa σ H2 ((ρ.set i (withList xs' s)).set j (withList ys' t)) := by
        refine S.relist2 hij es hs ha et ht hb s2 S2.sb (plus_same.trans S2.sf) (fun q hq => S2.fb q fun z => hq (plus_none.mp z).1) i2 i4 i5 j2 j4 j5 fun m c h1 h2 cm => ?_
        have own := ownB_at (H := H) cm h1 h2
        have hne := (S.cellB cm).2.2
        refine ⟨S2.fb c fun z => hne (by rw [← own]; exact (plus_none.mp z).2), ?_⟩
        cases z : H c with
        | none => exact absurd z hne
        | some o => exact S2.sf c o (plus_right dis c o (own.trans z))
      refine k v B2 H2 S3 s2 ?_
      cases r1 with
      | d x => exact q2
      | l zs =>
        obtain ⟨c, ws, k1, k2, k3, k4, k5, k6⟩ := q2
        refine ⟨c, ws, k1, k2, (plus_none.mp k3).1, k4, k5, fun m cm => ?_⟩
        have back : CellAt ρ σ m c := by
          rcases cm.set with ⟨hj, _, z⟩ | ⟨_, cm⟩
          · subst hj
            rw [hb] at z
            cases z
            exact cb
          · rcases cm.set with ⟨hj, _, z⟩ | ⟨_, cm⟩
            · subst hj
              rw [ha] at z
              cases z
              exact ca
            · exact cm
        by_cases hm : m = i
        · subst hm
          obtain ⟨_, _, _, z⟩ := back
          rw [ha] at z
          cases z
          exact k6 0 ⟨_, pOf_eq h0, rfl, rfl⟩
        · by_cases hm2 : m = j
          · subst hm2
            obtain ⟨_, _, _, z⟩ := back
            rw [hb] at z
            cases z
            exact k6 1 ⟨_, pOf_eq h1, rfl, rfl⟩
          · have z := (plus_none.mp k3).2
            rw [ownB_at back hm hm2] at z
            exact (S.cellB back).2.2 z
  · cases e
section
variable {X : Cx} {CX : CXT} {k n i j : Nat} {f : Addr} {fd : FuncData} {ps ks : List Str} {E : XK} {x y z : Str} {p py pz pos : Pos} {G : GM}
theorem de_callPP (F : FnG X.prog X.w X.K X.mg X.base CX k f fd ps (spG X.K n G)) (hgu : X.A.guards = some []) (hr : Room k X.A) (hg : Gl X x) (hm : X.mg x = some (.ref f)) (hk : PySem.W.keepIn X.K (.ref f) = true) (hb : L2.Binds X.K fd ps []) (hx : Passes CX X E) (hp : PE X (.Name y py) (tVar i)) (hp2 : PE X (.Name z pz) (tVar j))
    (hdb : (x == ("__debug__" : Str)) = false := by decide) (he : starEach [.Name y py, .Name z pz] X.env = (false, eval (.Name y py) X.env) :: starEach [.Name z pz] X.env := by rfl) (he2 : starEach [.Name z pz] X.env = (false, eval (.Name z pz) X.env) :: starEach [] X.env := by rfl) (hpl : (backTo pos (starEach [.Name z pz] X.env)).any (·.1) = false := by rfl) :
    DE X (.Call (.Name x p) [.Name y py, .Name z pz] [] pos) (eCallPP n G i j) := PE.imp (peG_call F hgu hr hg hm hk hb .nil hx (pa_cons hp (pa_cons hp2 pa_nil he2) he) hdb he hpl) tCallPP_of
end
end DL
end PDL18
section PDL19
/-! Defs of the text that may be called. -/
namespace DL
open PySem PySem.Spec PyProof.Rows L2

/-- the def named x stands behind the top: its text st, its parameters ps -/
structure Def (K : PySem.W.Frag) (mg : Str → Option Value) (x : Str) (st : Stmt) (ps : List Str) : Prop where
  ex : ∃ (f : Addr) (fd : FuncData), Fun K x x st f fd ∧ mg x = some (.ref f) ∧ L2.Binds K fd ps [] ∧ ∀ (ks : List Str) (ix : List Nat), (∀ (kV doc pm : Value) (an : Option Addr) (cdv ct : Value) (ws : List Value), ws.length = ks.length → bindArgs (PySem.W.fnOf x x (defArgs st) (defBody st) (defScope st) .none kV doc pm an cdv ct) ⟨[], ks.zip ws⟩ = pure (ps.zip (perm ix ws))) → KB K fd ps ks ix
theorem Def.mk' {K : PySem.W.Frag} {mg : Str → Option Value} {x : Str} {st : Stmt} {ps : List Str} {f : Addr} {oc : Value} {od an : Option Addr} {osl : Array (Option Value)} {kV doc pm cdv ct : Value} (hm : mg x = some (.ref f)) (l : K.lookup f = some ⟨oc, od, .func (PySem.W.fnOf x x (defArgs st) (defBody st) (defScope st) .none kV doc pm an cdv ct), osl⟩)
    (c : PySem.W.codeIn K cdv x = true) (k : PySem.W.keepIn K (.ref f) = true) (b : ∀ (kV doc pm : Value) (an : Option Addr) (cdv ct : Value) (us : List Value), us.length = ps.length → bindArgs (PySem.W.fnOf x x (defArgs st) (defBody st) (defScope st) .none kV doc pm an cdv ct) ⟨us, []⟩ = pure (ps.zip us)) : Def K mg x st ps :=
  ⟨f, _, fun_mk l c k, hm, (fun_mk l c k).binds b, fun ks ix h => .all fun ws hl => h _ _ _ _ _ _ ws hl⟩
theorem def_mk {K : PySem.W.Frag} {h : Heap} {mg : Str → Option Value} {x : Str} {st : Stmt} {ps : List Str} {f : Addr} {oc : Value} {od an : Option Addr} {osl : Array (Option Value)} {kV doc pm cdv ct : Value} (X : K.In h) (G : h.Ns mainGlobals mg) (a : PySem.W.nsIn K mainGlobals x = some (some (.ref f)))
    (l : K.lookup f = some ⟨oc, od, .func (PySem.W.fnOf x x (defArgs st) (defBody st) (defScope st) .none kV doc pm an cdv ct), osl⟩) (c : PySem.W.codeIn K cdv x = true) (k : PySem.W.keepIn K (.ref f) = true)
    (b : ∀ (kV doc pm : Value) (an : Option Addr) (cdv ct : Value) (us : List Value), us.length = ps.length → bindArgs (PySem.W.fnOf x x (defArgs st) (defBody st) (defScope st) .none kV doc pm an cdv ct) ⟨us, []⟩ = pure (ps.zip us)) : Def K mg x st ps := Def.mk' (PySem.W.mg_of X G a) l c k b
theorem lu0 {u n : Nat} (h : u + 66 < n) : u < n := by omega
theorem lu64 {u n : Nat} (h : u + 66 < n) : u + 64 < n := by omega
theorem lu65 {u n : Nat} (h : u + 66 < n) : u + 65 < n := by omega
/-- it may be called: at k calls' room it does G -/
structure Callee (P : Program) (w : World) (K : PySem.W.Frag) (mg : Str → Option Value) (base : Heap) (k : Nat) (x : Str) (st : Stmt) (ps : List Str) (n : Nat) (G : GM) : Prop where
  ex : ∃ (f : Addr) (fd : FuncData), FnG P w K mg base CX0 k f fd ps (spG K n G) ∧ mg x = some (.ref f) ∧ PySem.W.keepIn K (.ref f) = true ∧ L2.Binds K fd ps [] ∧ ∀ (ks : List Str) (ix : List Nat), (∀ (kV doc pm : Value) (an : Option Addr) (cdv ct : Value) (ws : List Value), ws.length = ks.length → bindArgs (PySem.W.fnOf x x (defArgs st) (defBody st) (defScope st) .none kV doc pm an cdv ct) ⟨[], ks.zip ws⟩ = pure (ps.zip (perm ix ws))) → KB K fd ps ks ix
abbrev CxD (P : Program) (w : World) (K : PySem.W.Frag) (mg : Str → Option Value) (base : Heap) (N : List Str) (x : Str) (st : Stmt) (f : Addr) (cdv : Value) (A : Around) (outer : List Env) (s : Shared) (H : Hp) (E : XK) : Cx := (cxOf CX0 P w K mg base N x (defScope st) f cdv A outer s H E).nox
theorem callee {P : Program} {w : World} {K : PySem.W.Frag} {mg : Str → Option Value} {base : Heap} {k : Nat} {x : Str} {st : Stmt} {N ps : List Str} {m : Nat} {g : SM} (D : Def K mg x st ps) (S : FnScope N ps (defScope st)) (hm : N.length = ps.length + m)
    (body : ∀ (f : Addr) (cdv : Value) (A : Around) (outer : List Env) (s : Shared) (H : Hp) (E : XK), A.guards = some [] → Room k (CxD P w K mg base N x st f cdv A outer s H E).A → (CxD P w K mg base N x st f cdv A outer s H E).A.units + 66 < cLine → DSs (CxD P w K mg base N x st f cdv A outer s H E) (defBody st) g) :
    Callee P w K mg base (k + 1) x st ps ps.length (ofBody ps.length m g) := by
  obtain ⟨f, fd, F, hmg, hb, hk⟩ := D.ex
  exact ⟨f, fd, fn_data F S hm fun cdv A outer s H E hg hr => body f cdv A outer s H E hg hr (by have := hr.un; show (A.deeper (envOfC x (defScope st) s.heap.objs.size f cdv)).units + 66 < cLine; omega), hmg, F.kp, hb, hk⟩
section
variable {X : Cx} {k n i j : Nat} {ps ks : List Str} {x y z : Str} {st : Stmt} {p py pz pos : Pos} {e : Expr} {es : List Expr} {fa fk : AM} {G : GM} {kws : List Keyword}
theorem de_fn (C : Callee X.prog X.w X.K X.mg X.base k x st ps n G) (hgu : X.A.guards = some []) (hr : Room k X.A) (hg : Gl X x) (ha : DA X (e :: es) fa)
    (hdb : (x == ("__debug__" : Str)) = false := by decide) (he : starEach (e :: es) X.env = (false, eval e X.env) :: starEach es X.env := by rfl) (hpl : (backTo pos (starEach es X.env)).any (·.1) = false := by rfl) :
    DE X (.Call (.Name x p) (e :: es) [] pos) (eCall n G fa) := by
  obtain ⟨f, fd, F, hm, hk, hb, _⟩ := C.ex
  exact de_call (E := E0) F hgu hr hg hm hk hb pass0 ha hdb he hpl
theorem de_fnP (C : Callee X.prog X.w X.K X.mg X.base k x st ps n G) (hgu : X.A.guards = some []) (hr : Room k X.A) (hg : Gl X x) (hp : PE X (.Name y py) (tVar i)) (ha : DA X es fa)
    (hdb : (x == ("__debug__" : Str)) = false := by decide) (he : starEach (.Name y py :: es) X.env = (false, eval (.Name y py) X.env) :: starEach es X.env := by rfl) (hpl : (backTo pos (starEach es X.env)).any (·.1) = false := by rfl) :
    DE X (.Call (.Name x p) (.Name y py :: es) [] pos) (eCallP n G i fa) := by
  obtain ⟨f, fd, F, hm, hk, hb, _⟩ := C.ex
  exact de_callP (E := E0) F hgu hr hg hm hk hb pass0 hp ha hdb he hpl
theorem de_fnPP (C : Callee X.prog X.w X.K X.mg X.base k x st ps n G) (hgu : X.A.guards = some []) (hr : Room k X.A) (hg : Gl X x) (hp : PE X (.Name y py) (tVar i)) (hp2 : PE X (.Name z pz) (tVar j))
    (hdb : (x == ("__debug__" : Str)) = false := by decide) (he : starEach [.Name y py, .Name z pz] X.env = (false, eval (.Name y py) X.env) :: starEach [.Name z pz] X.env := by rfl) (he2 : starEach [.Name z pz] X.env = (false, eval (.Name z pz) X.env) :: starEach [] X.env := by rfl) (hpl : (backTo pos (starEach [.Name z pz] X.env)).any (·.1) = false := by rfl) :
    DE X (.Call (.Name x p) [.Name y py, .Name z pz] [] pos) (eCallPP n G i j) := by
  obtain ⟨f, fd, F, hm, hk, hb, _⟩ := C.ex
  exact de_callPP (E := E0) F hgu hr hg hm hk hb pass0 hp hp2 hdb he he2 hpl
theorem de_fnK {ix : List Nat} (C : Callee X.prog X.w X.K X.mg X.base k x st ps n G) (hgu : X.A.guards = some []) (hr : Room k X.A) (hg : Gl X x)
    (hix : ∀ (kV doc pm : Value) (an : Option Addr) (cdv ct : Value) (ws : List Value), ws.length = ks.length → bindArgs (PySem.W.fnOf x x (defArgs st) (defBody st) (defScope st) .none kV doc pm an cdv ct) ⟨[], ks.zip ws⟩ = pure (ps.zip (perm ix ws))) (hl : ks.length = n) (ha : DK X kws fk)
    (hall : (backToKw pos (keywordEach kws X.env)).all (·.1.isSome) = true := by rfl) (hks : (backToKw pos (keywordEach kws X.env)).filterMap (·.1) = ks := by rfl)
    (hdb : (x == ("__debug__" : Str)) = false := by decide) (hpl : ((backTo pos (starEach [] X.env)).any (·.1) || (backToKw pos (keywordEach kws X.env)).any (·.1.isNone)) = false := by rfl) :
    DE X (.Call (.Name x p) [] kws pos) (eCallK n ix G fk) := by
  obtain ⟨f, fd, F, hm, hk, hb, hkb⟩ := C.ex
  exact de_callK (E := E0) F hgu hr hg hm hk (hkb ks ix hix) hl pass0 ha hall hks hdb hpl
end
section
variable {X : Cx}
theorem bb_isinstance : bootBuiltins "isinstance" = some (.builtin "isinstance") := by decide +kernel
theorem bb_len : bootBuiltins "len" = some (.builtin "len") := by decide +kernel
theorem bb_all : bootBuiltins "all" = some (.builtin "all") := by decide +kernel
theorem bb_any : bootBuiltins "any" = some (.builtin "any") := by decide +kernel
theorem bb_max : bootBuiltins "max" = some (.builtin "max") := by decide +kernel
theorem bb_min : bootBuiltins "min" = some (.builtin "min") := by decide +kernel
theorem bb_sum : bootBuiltins "sum" = some (.builtin "sum") := by decide +kernel
theorem bb_abs : bootBuiltins "abs" = some (.builtin "abs") := by decide +kernel
theorem bb_divmod : bootBuiltins "divmod" = some (.builtin "divmod") := by decide +kernel
theorem bb_sorted : bootBuiltins "sorted" = some (.builtin "sorted") := by decide +kernel
theorem bb_repr : bootBuiltins "repr" = some (.builtin "repr") := by decide +kernel
theorem bb_int : bootBuiltins "int" = some (.type "int") := by decide +kernel
theorem bb_bool : bootBuiltins "bool" = some (.type "bool") := by decide +kernel
theorem bb_str : bootBuiltins "str" = some (.type "str") := by decide +kernel
theorem bb_list : bootBuiltins "list" = some (.type "list") := by decide +kernel
theorem bb_tuple : bootBuiltins "tuple" = some (.type "tuple") := by decide +kernel
theorem bb_set : bootBuiltins "set" = some (.type "set") := by decide +kernel
theorem bb_dict : bootBuiltins "dict" = some (.type "dict") := by decide +kernel
theorem de_globE {x : Str} {i : Int} {pos : Pos} (hg : Gl X x) (hm : ∃ t, X.mg x = some (.int i t)) (hd : (x == ("__debug__" : Str)) = false := by decide) : DE X (.Name x pos) (eK (.int i)) := by
  obtain ⟨t, hm⟩ := hm
  exact de_globI hg hm hd
/-! methods of a list -/
section
variable {y : Str} {e : Expr} {es : List Expr} {fa : AM} {py apos cpos : Pos} {i : Nat}
theorem de_append (hp : PE X (.Name y py) (tVar i)) (ha : DA X [e] fa)
    (hcall : ((backTo cpos (starEach [e] X.env)).all (!·.1) && (backToKw cpos (keywordEach [] X.env)).all (·.1.isSome) && decide (([e] : List Expr).length + ([] : List Keyword).length + (if ([] : List Keyword).isEmpty = true then 0 else 1) < 30)) = true := by rfl)
    (hbase : attributeBase (.Name y py) "append" X.env (eval (.Name y py) X.env) = eval (.Name y py) X.env := by rfl) (hline : (apos.endLine == cpos.line) = true := by rfl) (he : starEach [e] X.env = (false, eval e X.env) :: starEach [] X.env := by rfl) :
    DE X (.Call (.Attribute (.Name y py) "append" apos) [e] [] cpos) (eMeth opAppend i fa) := de_meth PySem.F.plainAttrs_list PySem.F.slot_list_append PySem.F.type_list_append md_append hp ha hbase hcall hline he rfl
theorem de_extend (hp : PE X (.Name y py) (tVar i)) (ha : DA X [e] fa)
    (hcall : ((backTo cpos (starEach [e] X.env)).all (!·.1) && (backToKw cpos (keywordEach [] X.env)).all (·.1.isSome) && decide (([e] : List Expr).length + ([] : List Keyword).length + (if ([] : List Keyword).isEmpty = true then 0 else 1) < 30)) = true := by rfl)
    (hbase : attributeBase (.Name y py) "extend" X.env (eval (.Name y py) X.env) = eval (.Name y py) X.env := by rfl) (hline : (apos.endLine == cpos.line) = true := by rfl) (he : starEach [e] X.env = (false, eval e X.env) :: starEach [] X.env := by rfl) :
    DE X (.Call (.Attribute (.Name y py) "extend" apos) [e] [] cpos) (eMeth opExtend i fa) := de_meth PySem.F.plainAttrs_list PySem.F.slot_list_extend PySem.F.type_list_extend md_extend hp ha hbase hcall hline he rfl
theorem de_pop0 (hp : PE X (.Name y py) (tVar i))
    (hbase : attributeBase (.Name y py) "pop" X.env (eval (.Name y py) X.env) = eval (.Name y py) X.env := by rfl) (hline : (apos.endLine == cpos.line) = true := by rfl) :
    DE X (.Call (.Attribute (.Name y py) "pop" apos) [] [] cpos) (eMeth opPop i aNil) := de_meth0 PySem.F.plainAttrs_list PySem.F.slot_list_pop PySem.F.type_list_pop md_pop hp hbase hline
end
end
end DL
end PDL19
section PDL20
/-! The end: _law_pot, law, the law's head. -/
namespace DL
open PySem PySem.Spec PyProof.Rows L2

section
variable {P : Program} {w : World} {K : PySem.W.Frag} {mg mb : Str → Option Value} {k : Nat} {fa a : Addr} {fd : FuncData} {x : Str} {sp : Sp} {s : Shared} {vs : List Value} {ns : List Int}
/-- the call from outside, H tracking the script or nothing -/
theorem outer_call {H : Hp} (KX : K.In s.heap) (hm : s.heap.Ns mainGlobals mg) (hb : s.heap.Ns builtinsNs mb) (hbb : ∀ y : Str, y ≠ "__name__" → mb y = bootBuiltins y) (nolim : s.heap.NoLimit) (nogen : s.gens = #[])
    (ha : s.heap.get? a = some { cls := .type "list", data := .seq vs.toArray }) (hr : Room k callerA) (F : ∀ base : Heap, K.In base → base.Ns mainGlobals mg → FnG P w K mg base CX0 k fa fd [x] sp) (bind : ∀ (t : Shared) (u : Value), BindsTo t fd ⟨[u], []⟩ [(x, u)])
    (onl : Only H) (hS : sp [.ref a] H (fun v _ => v = .bl true) E0) (hok : HOk P w H s.heap) (onlyA : ∀ b, H b ≠ none → b = a) (hK : H a ≠ none → K.lookup a = none) :
    codeAny (model P w) callerA (.call (.ref fa) ⟨[.ref a], []⟩) (fun r t => r = .ok (.ret (.bool true)) ∧ OldK s.heap t.heap ∧ t.os = s.os ∧ AllBare t.gens) s := by
  -- other objects than the script are not tracked
  have free : ∀ b, b ≠ a → H b = none := fun b n => Classical.byContradiction fun z => n (onlyA b z)
  have isA : ∀ {b : Addr} {o : Obj}, s.heap.get? b = some o → (∀ ys n, o.data ≠ .seq ys n) → H b = none := fun {b o} e d => free b fun z => by
    subst z
    rw [ha] at e
    cases e
    exact d _ _ rfl
  have hid : ∀ {b : Addr} {o : Obj}, s.heap.get? b = some o → H b = none → (hidT s.heap H).get? b = some o := fun e n => hidT_get e n
  have space : ∀ {b : Addr} {m : Str → Option Value}, s.heap.Ns b m → (hidT s.heap H).Ns b m := fun {b m} ⟨o, es, ep, e, d, r⟩ => ⟨o, es, ep, hid e (isA e fun ys n z => by rw [d] at z; cases z), d, r⟩
  have kin : K.In (hidT s.heap H) := fun b o e => hid (KX b o e) (Classical.byContradiction fun z => by
    have ea := onlyA b z
    subst ea
    rw [hK z] at e
    cases e)
  obtain ⟨mc, l1, l2⟩ := nolim
  have md : Mod K mg (hidT s.heap H) := ⟨kin, space hm, ⟨mb, space hb, hbb⟩, mc, space l1, l2⟩
  have e0 : Env0 P w K mg (hidT s.heap H) callerA [] s H := ⟨rfl, md, fun b o e => of_hidT e, Nat.le_of_eq (hidT_size _ _), trivial, fun b hb => absurd (show b ∈ ([] : List Addr) from hb) (by simp), hok, .of_eq nogen⟩
  refine codeAny_mono ((F _ kin (space hm)).run callerA [] s H ⟨[.ref a], []⟩ [.ref a] [.ref a] _ E0 rfl hr e0 (bind s (.ref a)) (.cons rfl .nil) hS) fun r t h => ?_
  match r, h with
  | .error _, h => exact h.elim
  | .ok .next, h => exact h.elim
  | .ok .brk, h => exact h.elim
  | .ok .cont, h => exact h.elim
  | .ok (.ret u), h =>
    obtain ⟨v, H', os, bare, un, ok', rv, e⟩ := h
    change v = .bl true at e
    subst e
    cases (show u = Value.bool true from rv)
    refine ⟨rfl, OldK.of_keep fun b o e => ?_, os, bare⟩
    rcases onl b with z | ⟨ob, xs, z⟩
    · exact un.keep b o e z (by intro q; exact absurd (show b ∈ ([] : List Addr) from q) (by simp)) (by simp)
    · obtain ⟨e1, _⟩ := hok b _ z
      obtain ⟨e2, _⟩ := ok' b _ (un.frzs b ob _ z)
      rw [e] at e1
      cases e1
      exact e2
/-- THE HEAD -/
theorem headG {l : PySem.W.OpenLaw} {n k : Nat} {q : Program} {loose : List Str} {XP : (Str → Option Value) → Heap → Prop} {YP : World → Heap → Prop} {d : DefRec} {K : Params → PySem.W.Frag} {sp : PySem.W.Frag → Sp} {x : Str} (hn : l.most = some n) (hn2 : n ≤ sizeLine) (hdf : d.params.defaults = []) (hr : Room k callerA)
    (hY : ∀ (w : World) (h : Heap), YP w h → (K w.params).In h)
    (F : ∀ (w : World) (mg : Str → Option Value) (fa : Addr) (h : Heap), (K w.params).In h → h.Ns mainGlobals mg → mg d.name = some (.ref fa) →
      ∃ fd : FuncData, (∀ (s : Shared) (u : Value), BindsTo s fd ⟨[u], []⟩ [(x, u)]) ∧ ∀ base : Heap, (K w.params).In base → base.Ns mainGlobals mg → FnG l.prog w (K w.params) mg base CX0 k fa fd [x] (sp (K w.params)))
    (hsp : ∀ (K : PySem.W.Frag) (H : Hp) (a : Addr) (ns : List Int), ns.length ≤ n → SqL K H a (ns.map V.int) → sp K [.ref a] H (fun v _ => v = .bl true) E0) :
    PySem.W.WalkO q loose XP YP l.row.toRowW d [] (fun f vs => PySem.call f vs) := by
  refine Att.attach_call hn hdf fun w s₀ s₁ mg mb fa o pm cd doc a vs ns G Y ho hd hcd hmg hobj hints hlen hg => ?_
  have KX := hY w _ Y
  obtain ⟨fd, hb, hF⟩ := F w mg fa _ KX G.T.g hmg
  have rv := vals_ints hints
  have lenV := hints.length
  have hz : ns.length ≤ sizeLine := Nat.le_trans hlen hn2
  cases hk : (K w.params).lookup a with
  | some o =>
    have e := KX a o hk
    rw [hobj] at e
    cases e
    exact outer_call (H := fun _ => none) KX G.T.g G.T.b G.T.builtins G.T.nolimit hg hobj hr hF hb (fun _ => .inl rfl) (hsp _ _ a ns hlen (.inr ⟨_, vs.toArray, _, hk, rfl, rfl, rfl, by rw [List.size_toArray, lenV]; exact hz, by simpa using rv⟩))
      (fun b u z => nomatch (show (none : Option HO) = some u from z)) (fun b z => absurd rfl z) fun z => absurd rfl z
  | none =>
    let H : Hp := fun b => if b = a then some (.frz { cls := .type "list", data := .seq vs.toArray } (.lst (ns.map V.int))) else none
    have hH : ∀ b, b ≠ a → H b = none := fun b n => if_neg n
    have hA : H a = some (.frz { cls := .type "list", data := .seq vs.toArray } (.lst (ns.map V.int))) := if_pos rfl
    refine outer_call (H := H) KX G.T.g G.T.b G.T.builtins G.T.nolimit hg hobj hr hF hb (fun b => ?_) (hsp _ _ a ns hlen (.inl (.inr ⟨_, hA⟩))) (fun b u z => ?_) (fun b z => Classical.byContradiction fun n => z (hH b n)) fun _ => hk
    · by_cases e : b = a
      · subst e
        exact .inr ⟨_, _, hA⟩
      · exact .inl (hH b e)
    · by_cases e : b = a
      · subst e
        rw [hA] at z
        cases z
        exact ⟨hobj, by rw [List.length_map]; exact hz, vs, _, rv, hobj⟩
      · rw [hH b e] at z
        cases z
end
end DL
end PDL20
section PDL21
/-! What the mirrors give: W o P, it gives something of which P holds. -/
namespace DL
open PySem PySem.Spec PyProof.Rows L2

def W {α : Type} (o : Option α) (P : α → Prop) : Prop := ∃ a, o = some a ∧ P a
section
variable {α β : Type}
@[simp] theorem W_some {a : α} {P : α → Prop} : W (some a) P ↔ P a := ⟨fun ⟨_, e, h⟩ => Option.some.inj e ▸ h, fun h => ⟨a, rfl, h⟩⟩
@[simp] theorem W_none {P : α → Prop} : W none P ↔ False := ⟨fun ⟨_, e, _⟩ => (nomatch e), False.elim⟩
@[simp] theorem W_bind {o : Option α} {k : α → Option β} {P : β → Prop} : W (o.bind k) P ↔ W o fun a => W (k a) P := by
  cases o with
  | none => simp
  | some a => simp
@[simp] theorem W_map {o : Option α} {k : α → β} {P : β → Prop} : W (o.map k) P ↔ W o fun a => P (k a) := by
  cases o with
  | none => simp
  | some a => simp
@[simp] theorem W_ite {c : Prop} [Decidable c] {a b : Option α} {P : α → Prop} : W (if c then a else b) P ↔ if c then W a P else W b P := by
  by_cases h : c <;> simp [h]
theorem W.mono {o : Option α} {P Q : α → Prop} (h : W o P) (i : ∀ a, P a → Q a) : W o Q := let ⟨a, e, p⟩ := h; ⟨a, e, i a p⟩
theorem W.of {o : Option α} {a : α} {P : α → Prop} (e : o = some a) (h : P a) : W o P := ⟨a, e, h⟩
theorem W_eq {o : Option α} {a : α} : W o (· = a) ↔ o = some a := ⟨fun ⟨_, e, h⟩ => by rw [e, h], fun e => ⟨a, e, rfl⟩⟩
end
theorem nr {α : Sort _} {a b : α} (h : a = b) : a = b := h
@[simp high] theorem x_obs {α β : Type} {a : α} {f : α → Option β} : (some a).bind f = f a := nr rfl
@[simp high] theorem x_oms {α β : Type} {a : α} {f : α → β} : (some a).map f = some (f a) := nr rfl
@[simp] theorem x_data_d (x : PyData) : (Rs.d x).data = x := nr rfl
@[simp] theorem x_data_l (x : List PyData) : (Rs.l x).data = .list x := nr rfl
@[simp] theorem x_sl_d (x : PyData) : (Rs.d x).sl = .d x := nr rfl
@[simp] theorem x_sl_l (x : List PyData) : (Rs.l x).sl = .l x := nr rfl
section
variable (ρ : Rho) (i j l n m : Nat) (f g h : EM) (fa : AM) (t u : TM) (a b : SM) (d : PyData) (G G' : PyData → PyData → Option Rs) (GL : List PyData → Option Rs) (C : GM)
@[simp] theorem x_eK : eK d ρ = some (.d d, ρ) := nr rfl
@[simp] theorem x_eNod : eNod ρ = some (.d (.dict []), ρ) := nr rfl
@[simp] theorem x_eVar : eVar i ρ = (match ρ[i]? with
  | some (.d x) => some (.d x, ρ)
  | some (.l xs) => some (.d (.list xs), ρ.set i (.d (.list xs)))
  | _ => none) := nr rfl
@[simp] theorem x_eMove : eMove i ρ = (match ρ[i]? with
  | some (.d x) => some (.d x, ρ)
  | some (.l xs) => some (.l xs, ρ.set i .u)
  | _ => none) := nr rfl
@[simp] theorem x_eBin : eBin G f g ρ = (f ρ).bind fun a => (g a.2).bind fun b => (G a.1.data b.1.data).map fun r => (r, b.2) := nr rfl
@[simp] theorem x_aNil : aNil ρ = some ([], ρ) := nr rfl
@[simp] theorem x_aCons : aCons f fa ρ = (f ρ).bind fun a => (fa a.2).map fun b => (a.1.data :: b.1, b.2) := nr rfl
@[simp] theorem x_eApp : eApp GL fa ρ = (fa ρ).bind fun a => (GL a.1).map fun r => (r, a.2) := nr rfl
@[simp] theorem x_eIsi (n : String) : eIsi n f ρ = (f ρ).bind fun a => (isiD n a.1.data).map fun b => (.d (.bool b), a.2) := nr rfl
@[simp] theorem x_eIsi2 (n m : String) : eIsi2 n m f ρ = (f ρ).bind fun a => (isiD n a.1.data).bind fun b => (isiD m a.1.data).map fun c => (.d (.bool (b || c)), a.2) := nr rfl
@[simp] theorem x_tVal : tVal f ρ = (f ρ).bind fun a => (boolOf a.1.data).map fun b => (b, a.2) := nr rfl
@[simp] theorem x_boolOf (b : Bool) : boolOf (.bool b) = some b := nr rfl
@[simp] theorem x_intOf (b : Int) : intOf (.int b) = some b := nr rfl
@[simp] theorem x_itemsL (xs : List PyData) : itemsOf (.list xs) = some xs := nr rfl
@[simp] theorem x_itemsT (xs : List PyData) : itemsOf (.tuple xs) = some xs := nr rfl
@[simp] theorem x_tAnd2 : tAnd2 t u ρ = (t ρ).bind fun a => if a.1 = true then u a.2 else some (false, a.2) := nr rfl
@[simp] theorem x_tOr2 : tOr2 t u ρ = (t ρ).bind fun a => if a.1 = true then some (true, a.2) else u a.2 := nr rfl
@[simp] theorem x_tNot2 : tNot2 t ρ = (t ρ).map fun a => (!a.1, a.2) := nr rfl
@[simp] theorem x_tAll : tAll ρ = some (true, ρ) := nr rfl
@[simp] theorem x_eAnd : eAnd f g ρ = (f ρ).bind fun a => match a.1.data with
  | .bool true => g a.2
  | .bool false => some (.d (.bool false), a.2)
  | _ => none := nr rfl
@[simp] theorem x_eOr : eOr f g ρ = (f ρ).bind fun a => match a.1.data with
  | .bool false => g a.2
  | .bool true => some (.d (.bool true), a.2)
  | _ => none := nr rfl
@[simp] theorem x_eNot : eNot f ρ = (f ρ).bind fun a => match a.1.data with
  | .bool b => some (.d (.bool (!b)), a.2)
  | _ => none := nr rfl
@[simp] theorem x_eNeg : eNeg f ρ = (f ρ).bind fun a => match a.1.data with
  | .int i => some (.d (.int (-i)), a.2)
  | _ => none := nr rfl
@[simp] theorem x_eIf : eIf t f g ρ = (t ρ).bind fun a => if a.1 = true then f a.2 else g a.2 := nr rfl
@[simp] theorem x_look : look f ρ = (f (ρ.map lookSl)).bind fun a => match a.1 with
  | .d x => if scalarD x = true then some (.d x, ρ) else none
  | _ => none := nr rfl
@[simp] theorem x_lookT : lookT t ρ = (t (ρ.map lookSl)).map fun a => (a.1, ρ) := nr rfl
@[simp] theorem x_lookSl_d : lookSl (.d d) = .d d := nr rfl
@[simp] theorem x_lookSl_l (xs : List PyData) : lookSl (.l xs) = .d (.list xs) := nr rfl
@[simp] theorem x_lookSl_p (xs : List PyData) : lookSl (.p xs) = .d (.list xs) := nr rfl
@[simp] theorem x_lookSl_u : lookSl .u = .u := nr rfl
@[simp] theorem x_lookSl_k (t : Bool) (k : List (PyData × PyData)) : lookSl (.k t k) = .u := nr rfl
@[simp] theorem x_scalar_n : scalarD .none = true := nr rfl
@[simp] theorem x_scalar_b (b : Bool) : scalarD (.bool b) = true := nr rfl
@[simp] theorem x_scalar_i (b : Int) : scalarD (.int b) = true := nr rfl
@[simp] theorem x_scalar_s (b : Str) : scalarD (.str b) = true := nr rfl
@[simp] theorem x_eChain : eChain G G' f g h ρ = (f ρ).bind fun a => (g a.2).bind fun b => (G a.1.data b.1.data).bind fun
  | .d (.bool true) => (h b.2).bind fun c => (G' b.1.data c.1.data).map fun r => (r, c.2)
  | .d (.bool false) => some (.d (.bool false), b.2)
  | _ => none := nr rfl
@[simp] theorem x_eCall : eCall n C fa ρ = (fa ρ).bind fun a => if a.1.length = n then (C (a.1.map .d)).map fun b => (b.1, a.2) else none := nr rfl
@[simp] theorem x_eCallK (ix : List Nat) : eCallK n ix C fa ρ = (fa ρ).bind fun a => if a.1.length = n ∧ (perm ix a.1).length = n then (C ((perm ix a.1).map .d)).map fun b => (b.1, a.2) else none := nr rfl
@[simp] theorem x_listOf_l (xs : List PyData) : listOf (.l xs) = some xs := nr rfl
@[simp] theorem x_listOf_p (xs : List PyData) : listOf (.p xs) = some xs := nr rfl
@[simp] theorem x_with_l (xs ys : List PyData) : withList xs (.l ys) = .l xs := nr rfl
@[simp] theorem x_with_p (xs ys : List PyData) : withList xs (.p ys) = .p xs := nr rfl
@[simp] theorem x_pOf (xs : List PyData) : pOf (some (.p xs)) = some xs := nr rfl
@[simp] theorem x_eIxN : eIxN i g ρ = ((ρ[i]?).bind listOf).bind fun _ => (g ρ).bind fun b => (b.2[i]?).bind fun s => (listOf s).bind fun xs => match b.1.data with
  | .int j => (atI xs j).map fun d => (.d d, b.2)
  | _ => none := nr rfl
@[simp] theorem x_eIxA : eIxA i g ρ = (match (ρ[i]?).bind listOf with
  | some _ => eIxN i g ρ
  | none => eBin gIx (eVar i) g ρ) := nr rfl
@[simp] theorem x_listOf_d : listOf (.d d) = none := nr rfl
@[simp] theorem x_oNone : oNone ρ = some (none, ρ) := nr rfl
@[simp] theorem x_oSome : oSome f ρ = (f ρ).bind fun a => (intOf a.1.data).map fun i => (some i, a.2) := nr rfl
@[simp] theorem x_eCut (o o' : OM) : eCut f o o' ρ = (f ρ).bind fun a => (o a.2).bind fun b => (o' b.2).bind fun c => (gCut a.1.data b.1 c.1).map fun r => (r, c.2) := nr rfl
@[simp] theorem x_gCutL (xs : List PyData) (p q : Option Int) : gCut (.list xs) p q = some (.l (cutD xs p q)) := nr rfl
@[simp] theorem x_gCutT (xs : List PyData) (p q : Option Int) : gCut (.tuple xs) p q = some (.d (.tuple (cutD xs p q))) := nr rfl
@[simp] theorem x_eRevL : eRevL f ρ = (f ρ).bind fun a => (match a.1.data with
  | .list xs => some (.l xs.reverse)
  | _ => none : Option Rs).map fun r => (r, a.2) := nr rfl
@[simp] theorem x_eRevT : eRevT f ρ = (f ρ).bind fun a => (match a.1.data with
  | .tuple xs => some (.d (.tuple xs.reverse))
  | _ => none : Option Rs).map fun r => (r, a.2) := nr rfl
@[simp] theorem x_eMeth (op : LM) : eMeth op i fa ρ = ((ρ[i]?).bind listOf).bind fun _ => (fa ρ).bind fun a => (a.2[i]?).bind fun s => (listOf s).bind fun xs => (op xs a.1).map fun b => (.d b.1, a.2.set i (withList b.2 s)) := nr rfl
@[simp] theorem x_append (xs : List PyData) (d : PyData) : opAppend xs [d] = if xs.length < sizeLine then some (.none, xs ++ [d]) else none := nr rfl
@[simp] theorem x_eListR1 : eListR1 f ρ = (f ρ).bind fun a => (intOf a.1.data).bind fun n => if rgOkB 0 n = true then some (.l (rngD 0 1 (n - 0).toNat), a.2) else none := nr rfl
@[simp] theorem x_eSortSet : eSortSet f ρ = (f ρ).bind fun a => (gSortSet a.1.data).map fun r => (r, a.2) := nr rfl
@[simp] theorem x_iSeq : iSeq f ρ = (f ρ).bind fun a => (itemsOf a.1.data).map fun xs => (xs, a.2) := nr rfl
@[simp] theorem x_iApp (gg : List PyData → Option (List PyData)) : iApp gg fa ρ = (fa ρ).bind fun a => (gg a.1).map fun xs => (xs, a.2) := nr rfl
@[simp] theorem x_gdName (r : Rs) : gdName i r ρ = some (ρ.set i r.sl) := nr rfl
@[simp] theorem x_gdNil : gdNil [] ρ = some ρ := nr rfl
@[simp] theorem x_gdCons (g : GD) (hh : GDs) (d : PyData) (ds : List PyData) : gdCons g hh (d :: ds) ρ = (g (.d d) ρ).bind (hh ds) := nr rfl
@[simp] theorem x_gdTup (hh : GDs) (ds : List PyData) : gdTup n hh (.d (.tuple ds)) ρ = if ds.length = n then hh ds ρ else none := nr rfl
theorem x_sSeq : sSeq a b ρ = (a ρ).bind fun
  | .nx ρ1 => b ρ1
  | o => some o := by
  unfold sSeq
  rfl
@[simp] theorem x_sNil : sNil ρ = some (.nx ρ) := nr rfl
@[simp] theorem x_sSet : sSet i f ρ = (f ρ).map fun a => .nx (a.2.set i a.1.sl) := nr rfl
@[simp] theorem x_sExpr : sExpr f ρ = (f ρ).map fun a => .nx a.2 := nr rfl
@[simp] theorem x_sRet : sRet f ρ = (f ρ).map fun a => .ret a.1 a.2 := nr rfl
@[simp] theorem x_sIf : sIf t a b ρ = (t ρ).bind fun c => if c.1 = true then a c.2 else b c.2 := nr rfl
@[simp] theorem x_sAsgD (gd : GD) : sAsgD gd f ρ = (f ρ).bind fun a => (gd (.d a.1.data) a.2).map .nx := nr rfl
@[simp] theorem x_sPar : sPar i j f g ρ = (f ρ).bind fun a => (g a.2).map fun b => .nx ((b.2.set i a.1.sl).set j b.1.sl) := nr rfl
@[simp] theorem x_sPar3 : sPar3 i j l fa ρ = (fa ρ).bind fun a => match a.1 with
  | [x, y, z] => some (.nx (((a.2.set i (.d x)).set j (.d y)).set l (.d z)))
  | _ => none := nr rfl
@[simp] theorem x_sParNew : sParNew i j f ρ = (f ρ).map fun a => .nx ((a.2.set i (.d a.1.data)).set j (.k true [])) := nr rfl
end
@[simp] theorem x_addI (i j : Int) : gAdd (.int i) (.int j) = some (.d (.int (i + j))) := nr rfl
@[simp] theorem x_subI (i j : Int) : DL.gSub (.int i) (.int j) = some (.d (.int (i - j))) := nr rfl
@[simp] theorem x_ltI (i j : Int) : gLt (.int i) (.int j) = some (.d (.bool (decide (i < j)))) := nr rfl
@[simp] theorem x_leI (i j : Int) : gLe (.int i) (.int j) = some (.d (.bool (decide (i ≤ j)))) := nr rfl
@[simp] theorem x_gtI (i j : Int) : gGt (.int i) (.int j) = some (.d (.bool (decide (j < i)))) := nr rfl
@[simp] theorem x_geI (i j : Int) : gGe (.int i) (.int j) = some (.d (.bool (decide (j ≤ i)))) := nr rfl
@[simp] theorem x_andI (i j : Int) : gAnd (.int i) (.int j) = some (.d (.int (Builtin.bitAnd i j))) := nr rfl
@[simp] theorem x_lenL (xs : List PyData) : gLen [.list xs] = some (.d (.int xs.length)) := nr rfl
@[simp] theorem x_lenT (xs : List PyData) : gLen [.tuple xs] = some (.d (.int xs.length)) := nr rfl
@[simp] theorem x_ixL (xs : List PyData) (i : Int) : gIx (.list xs) (.int i) = (atI xs i).map Rs.d := nr rfl
@[simp] theorem x_ixT (xs : List PyData) (i : Int) : gIx (.tuple xs) (.int i) = (atI xs i).map Rs.d := nr rfl
@[simp] theorem x_max2 (i j : Int) : gMax [.int i, .int j] = some (.d (.int (if j > i then j else i))) := nr rfl
@[simp] theorem x_min2 (i j : Int) : gMin [.int i, .int j] = some (.d (.int (if j < i then j else i))) := nr rfl
@[simp] theorem x_isN (d : PyData) (neg : Bool) : gIsB neg d .none = some (.d (.bool (xor neg (isNone d)))) := by cases d <;> rfl
@[simp] theorem x_isB (b c neg : Bool) : gIsB neg (.bool b) (.bool c) = some (.d (.bool (xor neg (b == c)))) := nr rfl
@[simp] theorem x_none_n : isNone .none = true := rfl
@[simp] theorem x_none_b (b : Bool) : isNone (.bool b) = false := rfl
@[simp] theorem x_none_i (b : Int) : isNone (.int b) = false := rfl
@[simp] theorem x_none_s (b : Str) : isNone (.str b) = false := rfl
@[simp] theorem x_none_l (b : List PyData) : isNone (.list b) = false := rfl
@[simp] theorem x_none_t (b : List PyData) : isNone (.tuple b) = false := rfl
@[simp] theorem x_at0 {α : Type} (x : α) (xs : List α) : atI (x :: xs) 0 = some x := by simp [atI, ixN]
theorem atI_nat {α : Type} (xs : List α) (i : Nat) : atI xs (i : Int) = xs[i]? := by
  unfold atI ixN
  rw [if_pos (by omega)]
  by_cases h : i < xs.length
  · rw [if_pos (by omega)]
    simp
  · rw [if_neg (by omega)]
    simp
    omega
@[simp] theorem x_at1 {α : Type} (x y : α) (xs : List α) : atI (x :: y :: xs) 1 = some y := by
  have := atI_nat (x :: y :: xs) 1
  simpa using this
@[simp] theorem x_at2 {α : Type} (x y z : α) (xs : List α) : atI (x :: y :: z :: xs) 2 = some z := by
  have := atI_nat (x :: y :: z :: xs) 2
  simpa using this
@[simp] theorem x_at3 {α : Type} (x y z u : α) (xs : List α) : atI (x :: y :: z :: u :: xs) 3 = some u := by
  have := atI_nat (x :: y :: z :: u :: xs) 3
  simpa using this
@[simp] theorem x_at4 {α : Type} (x y z u v : α) (xs : List α) : atI (x :: y :: z :: u :: v :: xs) 4 = some v := by
  have := atI_nat (x :: y :: z :: u :: v :: xs) 4
  simpa using this
/-- a statement, then the others -/
def SeqK (b : SM) (P : Out → Prop) : Out → Prop
  | .nx ρ => W (b ρ) P
  | o => P o
theorem SeqK.nx {b : SM} {P : Out → Prop} {ρ : Rho} (h : W (b ρ) P) : SeqK b P (.nx ρ) := h
theorem SeqK.ret {b : SM} {P : Out → Prop} {ρ : Rho} {r : Rs} (h : P (.ret r ρ)) : SeqK b P (.ret r ρ) := h
theorem W_seq {a b : SM} {ρ : Rho} {P : Out → Prop} (h : W (a ρ) (SeqK b P)) : W (sSeq a b ρ) P := by
  rw [x_sSeq, W_bind]
  refine h.mono fun o ho => ?_
  cases o with
  | nx ρ' => exact ho
  | ret r ρ' => exact ⟨_, rfl, ho⟩
  | bk ρ' => exact ⟨_, rfl, ho⟩
  | ct ρ' => exact ⟨_, rfl, ho⟩
theorem W_last {a : SM} {ρ : Rho} {P : Out → Prop} (h : W (a ρ) P) : W (sSeq a sNil ρ) P := W_seq (h.mono fun o ho => by
  cases o with
  | nx ρ' => exact ⟨_, rfl, ho⟩
  | ret r ρ' => exact ho
  | bk ρ' => exact ho
  | ct ρ' => exact ho)
/-- a def's body -/
def BodyK (n : Nat) (P : Rs × Rho → Prop) : Out → Prop
  | .ret r ρ => W (endOf n r ρ) P
  | .nx ρ => W (endOf n (.d .none) ρ) P
  | _ => False
theorem W_body {n m : Nat} {g : SM} {ρ : Rho} {P : Rs × Rho → Prop} (h : W (g (ρ ++ List.replicate m .u)) (BodyK n P)) : W (ofBody n m g ρ) P := by
  unfold ofBody
  rw [W_bind]
  refine h.mono fun o ho => ?_
  cases o with
  | nx ρ' => exact ho
  | ret r ρ' => exact ho
  | bk ρ' => exact ho.elim
  | ct ρ' => exact ho.elim
theorem BodyK.ret {n : Nat} {P : Rs × Rho → Prop} {r : Rs} {ρ : Rho} (hl : n ≤ ρ.length) (h : P (r, (ρ.take n).map keepP)) : BodyK n P (.ret r ρ) := ⟨_, if_pos hl, h⟩
theorem BodyK.nx {n : Nat} {P : Rs × Rho → Prop} {ρ : Rho} (hl : n ≤ ρ.length) (h : P (.d .none, (ρ.take n).map keepP)) : BodyK n P (.nx ρ) := ⟨_, if_pos hl, h⟩
@[simp] theorem x_gTup {ds : List PyData} (h : ds.length ≤ 1000) : DL.gTup ds = some (.d (.tuple ds)) := if_pos (Nat.le_trans h (by rw [sizeLine_eq]; omega))
@[simp] theorem x_gLst {ds : List PyData} (h : ds.length ≤ 1000) : DL.gLst ds = some (.l ds) := if_pos (Nat.le_trans h (by rw [sizeLine_eq]; omega))
/-! ### what is walked -/
theorem comp_map {α : Type} {is : List Nat} {gd : GD} {t : TM} {f : EM} {ρ0 : Rho} (enc : α → PyData) (p : α → Bool) (h : α → PyData) : ∀ (xs : List α) (acc : List PyData), (∀ x ∈ xs, W (gd (.d (enc x)) ρ0) fun ρ1 => W (t ρ1) fun b => b.1 = p x ∧ wipeR b.2 is = ρ0 ∧ (p x = true → W (f b.2) fun a => a.1.data = h x ∧ wipeR a.2 is = ρ0)) →
    acc.length + xs.length ≤ sizeLine → compRun is gd t f (xs.map enc) acc ρ0 = some (acc ++ (xs.filter p).map h, ρ0)
  | [], acc, _, _ => by simp [compRun]
  | x :: xs, acc, H, hz => by
    obtain ⟨ρ1, e1, ⟨b, ρ2⟩, e2, e3, e4, e5⟩ := H x List.mem_cons_self
    simp only [List.length_cons] at hz
    have ih := fun acc' hz' => comp_map enc p h xs acc' (fun y hy => H y (List.mem_cons_of_mem _ hy)) hz'
    simp only at e3 e4
    cases hp : p x with
    | false =>
      rw [hp] at e3
      simp only [List.map_cons, compRun, e1, Option.bind_some, e2, e3, Bool.false_eq_true, if_false, e4, List.filter_cons, hp]
      exact ih acc (by omega)
    | true =>
      rw [hp] at e3
      obtain ⟨⟨r, ρ3⟩, e6, e7, e8⟩ := e5 hp
      simp only at e7 e8 e6
      simp only [List.map_cons, compRun, e1, Option.bind_some, e2, e3, if_true, e6, e8, e7, List.filter_cons, hp]
      rw [if_pos (by omega), ih _ (by simp; omega)]
      simp
theorem eComp_map {α : Type} {is : List Nat} {fi : AM} {gd : GD} {t : TM} {f : EM} {ρ ρ' : Rho} (enc : α → PyData) (p : α → Bool) (h : α → PyData) (xs : List α) (e : fi ρ = some (xs.map enc, ρ'))
    (H : ∀ x ∈ xs, W (gd (.d (enc x)) (wipeR ρ' is)) fun ρ1 => W (t ρ1) fun b => b.1 = p x ∧ wipeR b.2 is = wipeR ρ' is ∧ (p x = true → W (f b.2) fun a => a.1.data = h x ∧ wipeR a.2 is = wipeR ρ' is))
    (hz : xs.length ≤ sizeLine) : eComp is fi gd t f ρ = some (.l ((xs.filter p).map h), wipeR ρ' is) := by
  unfold eComp
  rw [e, Option.bind_some, comp_map enc p h xs [] H (by simpa using hz)]
  simp
@[simp] theorem x_wipeR_nil (ρ : Rho) : wipeR ρ [] = ρ := nr rfl
@[simp] theorem x_wipeR_cons (ρ : Rho) (v : Nat) (vs : List Nat) : wipeR ρ (v :: vs) = (wipeR ρ vs).set v .u := nr rfl
theorem for_gen {α : Type} {gd : GD} {g : SM} (enc : α → PyData) (Inv : Nat → Rho → Prop) (R : Nat → Rs → Rho → Prop) : ∀ (xs : List α) (k : Nat) (ρ : Rho), Inv k ρ → (∀ i x, xs[i]? = some x → ∀ ρ, Inv (k + i) ρ → W (gd (.d (enc x)) ρ) fun ρ1 => W (g ρ1) fun
      | .nx ρ2 => Inv (k + i + 1) ρ2
      | .ct ρ2 => Inv (k + i + 1) ρ2
      | .ret r ρ2 => R (k + i) r ρ2
      | .bk _ => False) →
    W (forRun gd g (xs.map enc) ρ) fun o => (∃ ρ', o = .nx ρ' ∧ Inv (k + xs.length) ρ') ∨ ∃ i r ρ', i < xs.length ∧ o = .ret r ρ' ∧ R (k + i) r ρ'
  | [], k, ρ, h0, _ => ⟨_, rfl, .inl ⟨ρ, rfl, h0⟩⟩
  | x :: xs, k, ρ, h0, hs => by
    obtain ⟨ρ1, e1, o, e2, e3⟩ := hs 0 x rfl ρ h0
    have go : ∀ ρ2, Inv (k + 1) ρ2 → W (forRun gd g (xs.map enc) ρ2) fun o => (∃ ρ', o = .nx ρ' ∧ Inv (k + (x :: xs).length) ρ') ∨ ∃ i r ρ', i < (x :: xs).length ∧ o = .ret r ρ' ∧ R (k + i) r ρ' := fun ρ2 h2 => by
      refine (for_gen enc Inv R xs (k + 1) ρ2 h2 fun i y hy ρ3 h3 => ?_).mono fun o ho => ?_
      · have := hs (i + 1) y (by simpa using hy) ρ3 (by rw [show k + (i + 1) = k + 1 + i by omega]; exact h3)
        rw [show k + (i + 1) = k + 1 + i by omega] at this
        exact this
      · rcases ho with ⟨ρ', h4, h5⟩ | ⟨i, r, ρ', h4, h5, h6⟩
        · exact .inl ⟨ρ', h4, by rw [List.length_cons, show k + (xs.length + 1) = k + 1 + xs.length by omega]; exact h5⟩
        · exact .inr ⟨i + 1, r, ρ', by rw [List.length_cons]; omega, h5, by rw [show k + (i + 1) = k + 1 + i by omega]; exact h6⟩
    rw [List.map_cons]
    unfold forRun
    rw [e1, Option.bind_some, e2, Option.bind_some]
    cases o with
    | nx ρ2 => exact go ρ2 e3
    | ct ρ2 => exact go ρ2 e3
    | bk ρ2 => exact e3.elim
    | ret r ρ2 => exact ⟨_, rfl, .inr ⟨0, r, ρ2, by simp, rfl, e3⟩⟩
/-- a loop without a return -/
theorem for_nx {α : Type} {gd : GD} {g : SM} (enc : α → PyData) (Inv : Nat → Rho → Prop) {xs : List α} {ρ : Rho} (h0 : Inv 0 ρ) (hs : ∀ i x, xs[i]? = some x → ∀ ρ, Inv i ρ → W (gd (.d (enc x)) ρ) fun ρ1 => W (g ρ1) fun
      | .nx ρ2 => Inv (i + 1) ρ2
      | _ => False) : W (forRun gd g (xs.map enc) ρ) fun o => ∃ ρ', o = .nx ρ' ∧ Inv xs.length ρ' := by
  refine (for_gen enc Inv (fun _ _ _ => False) xs 0 ρ h0 fun i x hx ρ h => ?_).mono fun o ho => ?_
  · refine (hs i x hx ρ (by simpa using h)).mono fun ρ1 h1 => h1.mono fun o ho => ?_
    cases o with
    | nx ρ2 => simpa using ho
    | ct ρ2 => exact ho.elim
    | bk ρ2 => exact ho.elim
    | ret r ρ2 => exact ho.elim
  · rcases ho with ⟨ρ', h4, h5⟩ | ⟨i, r, ρ', h4, h5, h6⟩
    · exact ⟨ρ', h4, by simpa using h5⟩
    · exact h6.elim
theorem while_run {t : TM} {g : SM} (Inv : Nat → Rho → Prop) (Post : Rho → Prop) (hs : ∀ n ρ, Inv n ρ → W (t ρ) fun b => if b.1 = true then W (g b.2) fun
      | .nx ρ2 => ∃ m, m < n ∧ Inv m ρ2
      | _ => False
    else Post b.2) : ∀ n ρ, Inv n ρ → W (sWhile t g ρ) fun o => ∃ ρ', o = .nx ρ' ∧ Post ρ' := by
  have key : ∀ n ρ, Inv n ρ → ∃ ρ', whileN t g (n + 1) ρ = some (.nx ρ') ∧ Post ρ' := by
    intro n
    induction n using Nat.strongRecOn with
    | ind n ih =>
      intro ρ h
      obtain ⟨⟨b, ρ1⟩, e1, h1⟩ := hs n ρ h
      unfold whileN
      rw [e1, Option.bind_some]
      cases b with
      | false =>
        simp only [Bool.false_eq_true, if_false] at h1 ⊢
        exact ⟨ρ1, rfl, h1⟩
      | true =>
        simp only [if_true] at h1 ⊢
        obtain ⟨o, e2, h2⟩ := h1
        rw [e2, Option.bind_some]
        cases o with
        | nx ρ2 =>
          obtain ⟨m, hm, h3⟩ := h2
          obtain ⟨ρ', e4, h4⟩ := ih m hm ρ2 h3
          exact ⟨ρ', whileN_le e4 (by omega), h4⟩
        | ct ρ2 => exact h2.elim
        | bk ρ2 => exact h2.elim
        | ret r ρ2 => exact h2.elim
  intro n ρ h
  obtain ⟨ρ', e, hp⟩ := key n ρ h
  exact ⟨_, sWhile_of e, ρ', rfl, hp⟩
theorem comp_W {is : List Nat} {gd : GD} {t : TM} {f : EM} (Inv : Nat → List PyData → Rho → Prop) : ∀ (ds : List PyData) (k : Nat) (acc : List PyData) (ρ : Rho), Inv k acc ρ → (∀ i d, ds[i]? = some d → ∀ acc ρ, Inv (k + i) acc ρ → W (gd (.d d) ρ) fun ρ1 => W (t ρ1) fun b => if b.1 = true then W (f b.2) fun a => acc.length < sizeLine ∧ Inv (k + i + 1) (acc ++ [a.1.data]) (wipeR a.2 is) else Inv (k + i + 1) acc (wipeR b.2 is)) →
    W (compRun is gd t f ds acc ρ) fun x => Inv (k + ds.length) x.1 x.2
  | [], k, acc, ρ, h0, _ => ⟨_, rfl, h0⟩
  | d :: ds, k, acc, ρ, h0, hs => by
    obtain ⟨ρ1, e1, ⟨b, ρ2⟩, e2, h1⟩ := hs 0 d rfl acc ρ h0
    have go : ∀ acc' ρ', Inv (k + 1) acc' ρ' → W (compRun is gd t f ds acc' ρ') fun x => Inv (k + (d :: ds).length) x.1 x.2 := fun acc' ρ' h => by
      have := comp_W (is := is) (gd := gd) (t := t) (f := f) Inv ds (k + 1) acc' ρ' h fun i y hy acc ρ h3 => ?_
      · rw [show k + (d :: ds).length = k + 1 + ds.length by rw [List.length_cons]; omega]
        exact this
      · have := hs (i + 1) y (by simpa using hy) acc ρ (by rw [show k + (i + 1) = k + 1 + i by omega]; exact h3)
        rw [show k + (i + 1) = k + 1 + i by omega] at this
        exact this
    unfold compRun
    rw [e1, Option.bind_some, e2, Option.bind_some]
    cases b with
    | false =>
      simp only [Bool.false_eq_true, if_false] at h1 ⊢
      exact go _ _ h1
    | true =>
      simp only [if_true] at h1 ⊢
      obtain ⟨⟨r, ρ3⟩, e3, h2, h3⟩ := h1
      rw [e3, Option.bind_some, if_pos h2]
      exact go _ _ h3
theorem x_range1 {n : Int} (h0 : 0 ≤ n) (h : n ≤ 100000) : range1D [.int n] = some (rngD 0 1 n.toNat) := by
  unfold range1D small62
  simp only [Bool.and_eq_true, decide_eq_true_eq]
  rw [if_pos (by omega)]
@[simp] theorem x_rngD_len (a c : Int) (n : Nat) : (rngD a c n).length = n := rngD_len
theorem rngD_get {a c : Int} {n i : Nat} {d : PyData} (h : (rngD a c n)[i]? = some d) : i < n ∧ d = .int (a + i * c) := by
  refine ⟨?_, rngD_at h⟩
  have := (List.getElem?_eq_some_iff.mp h).1
  simpa using this
end DL
end PDL21
section PDL22
/-! More of what mirrors give: types, sequences, equality. -/
namespace DL
open PySem PySem.Spec PyProof.Rows L2

def isIntD : PyData → Bool
  | .int _ => true
  | _ => false
def isBoolD : PyData → Bool
  | .bool _ => true
  | _ => false
def isStrD : PyData → Bool
  | .str _ => true
  | _ => false
def isTupD : PyData → Bool
  | .tuple _ => true
  | _ => false
def isLstD : PyData → Bool
  | .list _ => true
  | _ => false
@[simp] theorem x_isi_int (d : PyData) : isiD "int" d = some (isIntD d || isBoolD d) := by
  cases d <;> (first | (show kitB _ _ = some true; decide +kernel) | (show kitB _ _ = some false; decide +kernel))
@[simp] theorem x_isi_bool (d : PyData) : isiD "bool" d = some (isBoolD d) := by
  cases d <;> (first | (show kitB _ _ = some true; decide +kernel) | (show kitB _ _ = some false; decide +kernel))
@[simp] theorem x_isi_str (d : PyData) : isiD "str" d = some (isStrD d) := by
  cases d <;> (first | (show kitB _ _ = some true; decide +kernel) | (show kitB _ _ = some false; decide +kernel))
@[simp] theorem x_isi_tup (d : PyData) : isiD "tuple" d = some (isTupD d) := by
  cases d <;> (first | (show kitB _ _ = some true; decide +kernel) | (show kitB _ _ = some false; decide +kernel))
@[simp] theorem x_isi_lst (d : PyData) : isiD "list" d = some (isLstD d) := by
  cases d <;> (first | (show kitB _ _ = some true; decide +kernel) | (show kitB _ _ = some false; decide +kernel))
@[simp] theorem x_isInt (i : Int) : isIntD (.int i) = true := rfl
@[simp] theorem x_isTup (i : List PyData) : isTupD (.tuple i) = true := rfl
@[simp] theorem x_isTupL (i : List PyData) : isTupD (.list i) = false := rfl
@[simp] theorem x_isLst (i : List PyData) : isLstD (.list i) = true := rfl
@[simp] theorem x_isLstT (i : List PyData) : isLstD (.tuple i) = false := rfl
@[simp] theorem x_isStr (i : Str) : isStrD (.str i) = true := rfl
@[simp] theorem x_isBoolI (i : Int) : isBoolD (.int i) = false := rfl
theorem isTup_ex {d : PyData} (h : isTupD d = true) : ∃ xs, d = .tuple xs := by
  cases d <;> first | exact ⟨_, rfl⟩ | cases h
theorem isInt_ex {d : PyData} (h : isIntD d = true) : ∃ i, d = .int i := by
  cases d <;> first | exact ⟨_, rfl⟩ | cases h
/-! ### data that may be compared -/
theorem depthAll_le {n : Nat} : ∀ {xs : List PyData}, (∀ x ∈ xs, x.depth ≤ n) → PyData.depthAll xs ≤ n
  | [], _ => by simp [PyData.depthAll]
  | x :: xs, h => by
    have h1 := h x List.mem_cons_self
    have h2 := depthAll_le fun y hy => h y (List.mem_cons_of_mem _ hy)
    simp only [PyData.depthAll]
    omega
theorem canAll {xs : List PyData} (h : ∀ x ∈ xs, x.canLay0 = true) : PyData.canLayAll0 xs = true := by
  induction xs with
  | nil => rfl
  | cons x xs ih =>
    simp only [PyData.canLayAll0, h x List.mem_cons_self, Bool.true_and]
    exact ih fun y hy => h y (List.mem_cons_of_mem _ hy)
theorem shapedL {xs : List PyData} (h : ∀ x ∈ xs, x.canLay0 = true ∧ x.depth ≤ 63) : SeqAt.shaped (.list xs) = true := by
  have h1 := canAll fun x hx => (h x hx).1
  have h2 := depthAll_le fun x hx => (h x hx).2
  exact Bool.and_eq_true_iff.mpr ⟨by simpa only [PyData.canLay0] using h1, decide_eq_true (by simp only [PyData.depth]; omega)⟩
theorem shapedT {xs : List PyData} (h : ∀ x ∈ xs, x.canLay0 = true ∧ x.depth ≤ 63) : SeqAt.shaped (.tuple xs) = true := by
  have h1 := canAll fun x hx => (h x hx).1
  have h2 := depthAll_le fun x hx => (h x hx).2
  exact Bool.and_eq_true_iff.mpr ⟨by simpa only [PyData.canLay0] using h1, decide_eq_true (by simp only [PyData.depth]; omega)⟩
theorem lay_ints (ns : List Int) : ∀ x ∈ ns.map PyData.int, x.canLay0 = true ∧ x.depth ≤ 0 := fun x hx => by
  obtain ⟨n, _, rfl⟩ := List.mem_map.mp hx
  exact ⟨rfl, by simp [PyData.depth]⟩
@[simp] theorem x_shaped_i (i : Int) : SeqAt.shaped (.int i) = true := by
  exact Bool.and_eq_true_iff.mpr ⟨rfl, decide_eq_true (by simp [PyData.depth])⟩
@[simp] theorem x_shaped_b (i : Bool) : SeqAt.shaped (.bool i) = true := by
  exact Bool.and_eq_true_iff.mpr ⟨rfl, decide_eq_true (by simp [PyData.depth])⟩
@[simp] theorem x_shaped_n : SeqAt.shaped .none = true := rfl
theorem shaped_ints (ns : List Int) : SeqAt.shaped (.list (ns.map .int)) = true := shapedL fun x hx => ⟨(lay_ints ns x hx).1, Nat.le_trans (lay_ints ns x hx).2 (by omega)⟩
@[simp] theorem x_eqI (i j : Int) : gEq (.int i) (.int j) = some (.d (.bool (decide (i = j)))) := by
  unfold gEq
  rw [if_pos (by simp)]
  by_cases h : i = j <;> simp [PyData.eqv, h]
@[simp] theorem x_neI (i j : Int) : gNe (.int i) (.int j) = some (.d (.bool (!decide (i = j)))) := by
  unfold gNe
  rw [if_pos (by simp)]
  by_cases h : i = j <;> simp [PyData.eqv, h]
@[simp] theorem x_neB (i j : Bool) : gNe (.bool i) (.bool j) = some (.d (.bool (xor i j))) := by
  unfold gNe
  rw [if_pos (by simp)]
  cases i <;> cases j <;> rfl
theorem eqv_nilL (xs : List PyData) : PyData.eqv (.list xs) (.list []) = xs.isEmpty := by
  cases xs <;> simp [PyData.eqv, PyData.eqvAll]
theorem ne_nil {xs : List PyData} (h : SeqAt.shaped (.list xs) = true) : gNe (.list xs) (.list []) = some (.d (.bool (!xs.isEmpty))) := by
  unfold gNe
  rw [if_pos (by rw [h]; rfl), eqv_nilL]
theorem eq_nil {xs : List PyData} (h : SeqAt.shaped (.list xs) = true) : gEq (.list xs) (.list []) = some (.d (.bool xs.isEmpty)) := by
  unfold gEq
  rw [if_pos (by rw [h]; rfl), eqv_nilL]
theorem eqvAll_ints : ∀ ns ms : List Int, PyData.eqvAll (ns.map .int) (ms.map .int) = decide (ns = ms)
  | [], [] => rfl
  | [], m :: ms => rfl
  | n :: ns, [] => rfl
  | n :: ns, m :: ms => by
    simp only [List.map_cons, PyData.eqvAll, PyData.eqv, eqvAll_ints ns ms]
    by_cases h : n = m <;> simp [h]
theorem eq_ints (ns ms : List Int) : gEq (.list (ns.map .int)) (.list (ms.map .int)) = some (.d (.bool (decide (ns = ms)))) := by
  unfold gEq
  rw [if_pos (by rw [shaped_ints, shaped_ints]; rfl)]
  simp only [PyData.eqv, eqvAll_ints]
theorem ne_ints (ns ms : List Int) : gNe (.list (ns.map .int)) (.list (ms.map .int)) = some (.d (.bool (!decide (ns = ms)))) := by
  unfold gNe
  rw [if_pos (by rw [shaped_ints, shaped_ints]; rfl)]
  simp only [PyData.eqv, eqvAll_ints]
/-- x in ints -/
theorem in_ints (neg : Bool) (n : Int) (ns : List Int) : gIn neg (.int n) (.tuple (ns.map .int)) = some (.d (.bool (xor neg (decide (n ∈ ns))))) := by
  unfold gIn
  simp only [x_itemsT, Option.bind_some]
  rw [if_pos (by rw [canAll fun x hx => (lay_ints ns x hx).1]; simp)]
  congr 4
  rw [Bool.eq_iff_iff, List.any_eq_true, decide_eq_true_eq]
  constructor
  · rintro ⟨x, hx, he⟩
    obtain ⟨m, hm, rfl⟩ := List.mem_map.mp hx
    have : m = n := by simpa [PyData.eqv] using he
    rw [← this]; exact hm
  · intro h
    exact ⟨.int n, List.mem_map.mpr ⟨n, h, rfl⟩, by simp [PyData.eqv]⟩
@[simp] theorem x_all (bs : List Bool) : gAll [.list (bs.map .bool)] = some (.d (.bool (bs.all id))) := by
  simp [gAll, boolsOf_map]
@[simp] theorem x_any (bs : List Bool) : gAny [.list (bs.map .bool)] = some (.d (.bool (bs.any id))) := by
  simp [gAny, boolsOf_map]
@[simp] theorem x_sum (ns : List Int) : gSum [.list (ns.map .int)] = some (.d (.int ns.sum)) := by
  simp [gSum, intsOf_map]
theorem sorted_L (ns : List Int) : gSorted [.list (ns.map .int)] = some (.l ((isort ns).map .int)) := by
  simp [gSorted, intsOf_map]
theorem sorted_T (ns : List Int) : gSorted [.tuple (ns.map .int)] = some (.l ((isort ns).map .int)) := by
  simp [gSorted, intsOf_map]
/-- min of ints -/
def minI (n : Int) (ns : List Int) : Int := ns.foldl min n
theorem alike_ints (ns : List Int) : alikeB (ns.map .int) = true := by
  unfold alikeB
  simp [PySem.W.alike]
theorem min_L (n : Int) (ns : List Int) : gMin [.list ((n :: ns).map .int)] = some (.d (.int (minI n ns))) := by
  unfold gMin
  have h := depthAll_le fun x hx => (lay_ints (n :: ns) x hx).2
  simp only [List.map_cons]
  rw [if_pos, PySem.W.minD_ints]
  · rfl
  · rw [Bool.and_eq_true, Bool.and_eq_true]
    refine ⟨⟨alike_ints (n :: ns), rfl⟩, decide_eq_true ?_⟩
    simp only [List.map_cons] at h
    omega
theorem minI_le (n : Int) : ∀ ns : List Int, minI n ns ≤ n ∧ ∀ x ∈ ns, minI n ns ≤ x := by
  intro ns
  unfold minI
  induction ns generalizing n with
  | nil => simp
  | cons m ns ih =>
    obtain ⟨h1, h2⟩ := ih (min n m)
    simp only [List.foldl_cons]
    refine ⟨by omega, fun x hx => ?_⟩
    rcases List.mem_cons.mp hx with rfl | hx
    · omega
    · exact h2 x hx
theorem minI_mem (n : Int) : ∀ ns : List Int, minI n ns ∈ n :: ns := by
  intro ns
  unfold minI
  induction ns generalizing n with
  | nil => simp
  | cons m ns ih =>
    simp only [List.foldl_cons]
    rcases List.mem_cons.mp (ih (min n m)) with h | h
    · rw [h]
      by_cases c : n ≤ m
      · rw [Int.min_eq_left c]; simp
      · rw [Int.min_eq_right (by omega)]; simp
    · exact List.mem_cons_of_mem _ (List.mem_cons_of_mem _ h)
theorem boolsOf_mapM {α : Type} (q : α → Bool) : ∀ xs : List α, boolsOf (xs.map fun x => PyData.bool (q x)) = some (xs.map q)
  | [] => rfl
  | x :: xs => by
    show (boolsOf (xs.map fun x => PyData.bool (q x))).map (q x :: ·) = _
    rw [boolsOf_mapM q xs]
    rfl
theorem all_M {α : Type} (xs : List α) (q : α → Bool) : gAll [.list (xs.map fun x => PyData.bool (q x))] = some (.d (.bool (xs.all q))) := by
  simp [gAll, boolsOf_mapM, List.all_map, Function.comp_def]
theorem any_M {α : Type} (xs : List α) (q : α → Bool) : gAny [.list (xs.map fun x => PyData.bool (q x))] = some (.d (.bool (xs.any q))) := by
  simp [gAny, boolsOf_mapM, List.any_map, Function.comp_def]
/-- a comprehension with a test -/
theorem W_comp {α : Type} {is : List Nat} {fi : AM} {gd : GD} {t : TM} {f : EM} {ρ ρ' : Rho} {P : Rs × Rho → Prop} (enc : α → PyData) (p : α → Bool) (h : α → PyData) (xs : List α) (e : fi ρ = some (xs.map enc, ρ'))
    (H : ∀ x ∈ xs, W (gd (.d (enc x)) (wipeR ρ' is)) fun ρ1 => W (t ρ1) fun b => b.1 = p x ∧ wipeR b.2 is = wipeR ρ' is ∧ (p x = true → W (f b.2) fun a => a.1.data = h x ∧ wipeR a.2 is = wipeR ρ' is))
    (hz : xs.length ≤ 10000) (k : P (.l ((xs.filter p).map h), wipeR ρ' is)) : W (eComp is fi gd t f ρ) P := by
  rw [eComp_map enc p h xs e H (Nat.le_trans hz (by rw [sizeLine_eq]; omega))]
  exact ⟨_, rfl, k⟩
/-- .. without one -/
theorem W_compA {α : Type} {is : List Nat} {fi : AM} {gd : GD} {f : EM} {ρ ρ' : Rho} {P : Rs × Rho → Prop} (enc : α → PyData) (h : α → PyData) (xs : List α) (e : fi ρ = some (xs.map enc, ρ'))
    (H : ∀ x ∈ xs, W (gd (.d (enc x)) (wipeR ρ' is)) fun ρ1 => wipeR ρ1 is = wipeR ρ' is ∧ W (f ρ1) fun a => a.1.data = h x ∧ wipeR a.2 is = wipeR ρ' is)
    (hz : xs.length ≤ 10000) (k : P (.l (xs.map h), wipeR ρ' is)) : W (eComp is fi gd tAll f ρ) P := by
  refine W_comp enc (fun _ => true) h xs e (fun x hx => (H x hx).mono fun ρ1 ⟨h1, h2⟩ => ?_) hz (by rw [List.filter_eq_self.mpr (fun _ _ => rfl)]; exact k)
  exact ⟨_, rfl, rfl, h1, fun _ => h2⟩
/-- .. whose turns change more than the block's own slots -/
theorem W_compI {is : List Nat} {fi : AM} {gd : GD} {t : TM} {f : EM} {ρ ρ' : Rho} {P : Rs × Rho → Prop} (Inv : Nat → List PyData → Rho → Prop) (ds : List PyData) (e : fi ρ = some (ds, ρ')) (h0 : Inv 0 [] (wipeR ρ' is))
    (hs : ∀ i d, ds[i]? = some d → ∀ acc ρ, Inv i acc ρ → W (gd (.d d) ρ) fun ρ1 => W (t ρ1) fun b => if b.1 = true then W (f b.2) fun a => acc.length < sizeLine ∧ Inv (i + 1) (acc ++ [a.1.data]) (wipeR a.2 is) else Inv (i + 1) acc (wipeR b.2 is))
    (k : ∀ acc ρ, Inv ds.length acc ρ → P (.l acc, ρ)) : W (eComp is fi gd t f ρ) P := by
  unfold eComp
  rw [e, x_obs, W_map]
  refine (comp_W Inv ds 0 [] (wipeR ρ' is) h0 fun i d hd acc ρ h => ?_).mono fun x h => ?_
  · rw [Nat.zero_add] at h ⊢
    exact hs i d hd acc ρ h
  · rw [Nat.zero_add] at h
    exact k _ _ h
theorem cut1 (xs : List PyData) : DL.cutD xs (some 1) none = xs.drop 1 := by
  unfold DL.cutD HT.sIx
  simp
  cases xs <;> simp
end DL
end PDL22
section PDL23
/-! Small trees: what repr and == ask of data. -/
namespace DL
open PySem PySem.Spec PyProof.Rows L2

theorem so_append {a b : Str} (h : PyData.strOk a = true) (h' : PyData.strOk b = true) : PyData.strOk (a ++ b) = true := by
  show (a.cps ++ b.cps).all _ = true
  rw [Array.all_append, Bool.and_eq_true]
  exact ⟨h, h'⟩
theorem so_ofString (s : String) : PyData.strOk (Str.ofString s) = true := by
  rw [Str.ofString_eq_toList]
  show (List.toArray _).all _ = true
  rw [List.all_toArray, List.all_eq_true]
  intro c hc
  obtain ⟨x, _, rfl⟩ := List.mem_map.mp hc
  rw [decide_eq_true_eq]
  have := x.valid
  rcases this with h | h
  · have : x.toNat < 0xd800 := h
    omega
  · exact h.2
theorem so_textFrom : ∀ (ts : List Str) (k : Nat) (acc : Str), PyData.strOk acc = true → (∀ t ∈ ts, PyData.strOk t = true) → PyData.strOk (textFrom k acc ts) = true
  | [], _, acc, h, _ => h
  | t :: ts, k, acc, h, ht => so_textFrom ts (k + 1) _ (so_append (so_append h (so_ofString _)) (ht t List.mem_cons_self)) fun x hx => ht x (List.mem_cons_of_mem _ hx)
theorem so_listText {ts : List Str} (ht : ∀ t ∈ ts, PyData.strOk t = true) : PyData.strOk (listText ts) = true := so_append (so_textFrom ts 0 _ (so_ofString _) ht) (so_ofString _)
theorem so_join : ∀ ts : List Str, (∀ t ∈ ts, PyData.strOk t = true) → PyData.strOk (Str.join ", " ts) = true
  | [], _ => by decide +kernel
  | [x], h => h x (by simp)
  | x :: y :: r, h => so_append (so_append (h x (by simp)) (so_ofString _)) (so_join (y :: r) fun t ht => h t (List.mem_cons_of_mem _ ht))
theorem so_tupleText {ts : List Str} (ht : ∀ t ∈ ts, PyData.strOk t = true) : PyData.strOk (tupleText ts) = true := so_append (so_append (so_ofString _) (so_join ts ht)) (so_ofString _)
/-- small data: of depth at most n, of weight at most w -/
structure Fit (n w : Nat) (d : PyData) : Prop where
  can : d.canLay0 = true
  dep : d.depth ≤ n
  wt : d.weight ≤ w
  sh : d.showable = true
  nod : d.hasDict = false
  lv : d.intsShort 13 = true
  so : PyData.strOk d.shown = true
section
variable {n w : Nat} {d : PyData}
theorem Fit.up (h : Fit n w d) {n' w' : Nat} (hn : n ≤ n') (hw : w ≤ w') : Fit n' w' d := ⟨h.can, Nat.le_trans h.dep hn, Nat.le_trans h.wt hw, h.sh, h.nod, h.lv, h.so⟩
theorem Fit.int {i : Int} (h : i.natAbs < 10 ^ 12) : Fit 0 41 (.int i) := by
  have h40 : (10 : Nat) ^ 12 ≤ 2 ^ 40 := by decide
  have hl : i ≠ 0 → i.natAbs.log2 < 40 := fun z => (Nat.log2_lt (by omega)).mpr (by omega)
  refine ⟨rfl, by simp [PyData.depth], ?_, ?_, rfl, ?_, so_ofString _⟩
  · simp only [PyData.weight, beq_iff_eq]
    split
    · omega
    · rename_i z
      have := hl z
      omega
  · simp only [PyData.showable, decide_eq_true_eq]
    by_cases z : i = 0
    · subst z; decide
    · have := hl z
      omega
  · simp only [PyData.intsShort, decide_eq_true_eq]
    exact PyData.shown_int_le h
theorem Fit.bool (b : Bool) : Fit 0 0 (.bool b) := ⟨rfl, by simp [PyData.depth], by simp [PyData.weight], rfl, rfl, rfl, by cases b <;> exact so_ofString _⟩
theorem Fit.none : Fit 0 0 .none := ⟨rfl, by simp [PyData.depth], by simp [PyData.weight], rfl, rfl, rfl, so_ofString _⟩
theorem Fit.str {x : Str} {w : Nat} (h : PyData.strOk x = true) (h2 : PyData.strOk (reprText x) = true) (hw : x.cps.size ≤ w) : Fit 0 w (.str x) := ⟨h, by simp [PyData.depth], by simpa [PyData.weight] using hw, rfl, rfl, rfl, h2⟩
theorem shownAll_mem : ∀ {xs : List PyData} {t : Str}, t ∈ PyData.shownAll xs → ∃ x ∈ xs, t = x.shown
  | [], _, h => by cases h
  | x :: xs, t, h => by
    simp only [PyData.shownAll, List.mem_cons] at h
    rcases h with rfl | h
    · exact ⟨x, by simp, rfl⟩
    · obtain ⟨y, h1, h2⟩ := shownAll_mem h
      exact ⟨y, by simp [h1], h2⟩
theorem weightAll_le : ∀ {xs : List PyData}, (∀ x ∈ xs, x.weight ≤ w) → PyData.weightAll xs ≤ xs.length * (w + 1)
  | [], _ => by simp [PyData.weightAll]
  | x :: xs, h => by
    have h1 := h x List.mem_cons_self
    have h2 := weightAll_le fun y hy => h y (List.mem_cons_of_mem _ hy)
    simp only [PyData.weightAll, List.length_cons, Nat.add_mul]
    omega
theorem all_show : ∀ {xs : List PyData}, (∀ x ∈ xs, Fit n w x) → PyData.showableAll xs = true ∧ PyData.hasDictAll xs = false ∧ PyData.intsShortAll 13 xs = true
  | [], _ => ⟨rfl, rfl, rfl⟩
  | x :: xs, h => by
    have h1 := h x List.mem_cons_self
    obtain ⟨a, b, c⟩ := all_show fun y hy => h y (List.mem_cons_of_mem _ hy)
    simp [PyData.showableAll, PyData.hasDictAll, PyData.intsShortAll, h1.sh, h1.nod, h1.lv, a, b, c]
theorem Fit.list {xs : List PyData} {k : Nat} (h : ∀ x ∈ xs, Fit n w x) (hk : xs.length ≤ k) : Fit (n + 1) (k * (w + 1)) (.list xs) := by
  obtain ⟨a, b, c⟩ := all_show h
  have h1 := canAll fun x hx => (h x hx).can
  have h2 := depthAll_le fun x hx => (h x hx).dep
  have h3 := weightAll_le fun x hx => (h x hx).wt
  have h4 : xs.length * (w + 1) ≤ k * (w + 1) := Nat.mul_le_mul_right _ hk
  refine ⟨by simpa only [PyData.canLay0] using h1, by simp only [PyData.depth]; omega, by simp only [PyData.weight]; omega, by simpa only [PyData.showable] using a, by simpa only [PyData.hasDict] using b, by simpa only [PyData.intsShort] using c, ?_⟩
  show PyData.strOk (listText (PyData.shownAll xs)) = true
  exact so_listText fun t ht => by
    obtain ⟨x, hx, rfl⟩ := shownAll_mem ht
    exact (h x hx).so
theorem Fit.tup {xs : List PyData} {k : Nat} (h : ∀ x ∈ xs, Fit n w x) (hk : xs.length ≤ k) : Fit (n + 1) (k * (w + 1)) (.tuple xs) := by
  obtain ⟨a, b, c⟩ := all_show h
  have h1 := canAll fun x hx => (h x hx).can
  have h2 := depthAll_le fun x hx => (h x hx).dep
  have h3 := weightAll_le fun x hx => (h x hx).wt
  have h4 : xs.length * (w + 1) ≤ k * (w + 1) := Nat.mul_le_mul_right _ hk
  refine ⟨by simpa only [PyData.canLay0] using h1, by simp only [PyData.depth]; omega, by simp only [PyData.weight]; omega, by simpa only [PyData.showable] using a, by simpa only [PyData.hasDict] using b, by simpa only [PyData.intsShort] using c, ?_⟩
  show PyData.strOk (tupleText (PyData.shownAll xs)) = true
  exact so_tupleText fun t ht => by
    obtain ⟨x, hx, rfl⟩ := shownAll_mem ht
    exact (h x hx).so
theorem Fit.shaped (h : Fit n w d) (hn : n ≤ 63) : SeqAt.shaped d = true := Bool.and_eq_true_iff.mpr ⟨h.can, decide_eq_true (by have := h.dep; omega)⟩
theorem Fit.reprOk (h : Fit n w d) (hn : n ≤ 60) (hw : w ≤ 1000000) : reprOk d = true := by
  have e : (2 : Nat) ^ 20 = 1048576 := by decide
  have hw2 : d.weight ≤ 2 ^ 20 := by
    have := h.wt
    omega
  have h1 := PyData.shown_fits (B := 13) (by omega) (by omega) (PyData.leavesShort_of_canLay0 13 d h.can h.lv) hw2
  have hp : plainD d = true := by
    have := h.nod
    cases d <;> first | (simp [PyData.hasDict] at this; done) | (simp [plainD, this])
  have := h.dep
  show (d.showable && plainD d && decide (d.depth ≤ 60) && decide (d.shown.length ≤ sizeLine)) = true
  rw [h.sh, hp, decide_eq_true (show d.depth ≤ 60 by omega), decide_eq_true h1]
  rfl
theorem Fit.repr (h : Fit n w d) (hn : n ≤ 60 := by omega) (hw : w ≤ 1000000 := by omega) : gRepr [d] = some (.d (.str d.shown)) := by
  have e := h.reprOk hn hw
  show (if DL.reprOk d = true then some (Rs.d (PyData.str d.shown)) else Option.none) = _
  rw [if_pos e]
theorem shaped_str {x : Str} (h : PyData.strOk x = true) : SeqAt.shaped (.str x) = true := Bool.and_eq_true_iff.mpr ⟨h, decide_eq_true (by simp [PyData.depth])⟩
theorem ne_self {x : Str} (h : PyData.strOk x = true) : gNe (.str x) (.str x) = some (.d (.bool false)) := by
  unfold gNe
  rw [if_pos (by rw [shaped_str h]; rfl)]
  simp [PyData.eqv]
theorem eq_self {x : Str} (h : PyData.strOk x = true) : gEq (.str x) (.str x) = some (.d (.bool true)) := by
  unfold gEq
  rw [if_pos (by rw [shaped_str h]; rfl)]
  simp [PyData.eqv]
end
end DL
end PDL23
section PK90W
set_option maxHeartbeats 1000000
open PySem PySem.Spec PyProof.Rows L2 DL
namespace K9
def top (i : Nat) : Stmt := PySem.Challenge.pw_citylines_k90_whole_cheapest_by_all_cove.main.body.getD i (.Pass ⟨0, 0, 0, 0⟩)
abbrev s_is_integer : Stmt := top 5
abbrev s_is_between : Stmt := top 14
abbrev s_are_rising : Stmt := top 15
abbrev s_are_zones : Stmt := top 16
abbrev s_is_ticket : Stmt := top 17
abbrev s_is_passage : Stmt := top 18
abbrev s_are_tickets : Stmt := top 19
abbrev s_are_passages : Stmt := top 20
abbrev s_want_tickets : Stmt := top 21
abbrev s_want_passages : Stmt := top 22
abbrev s_most_at_once : Stmt := top 23
abbrev s_does_cover : Stmt := top 24
abbrev s_places_in : Stmt := top 25
abbrev s_first_in : Stmt := top 26
abbrev s_kinds_that_cover : Stmt := top 27
abbrev s_parts_with : Stmt := top 28
abbrev s_least_kinds : Stmt := top 29
abbrev s_least_rows : Stmt := top 30
abbrev s_least_prices : Stmt := top 31
abbrev s_cheapest_of : Stmt := top 32
abbrev s_cover_by : Stmt := top 33
abbrev s_is_lot : Stmt := top 34
abbrev s_is_bought : Stmt := top 35
abbrev s_covers : Stmt := top 36
abbrev s_is_cover : Stmt := top 37
abbrev s_cheapest : Stmt := top 38
abbrev s_cheapest_cover : Stmt := top 39
abbrev s__law_pot : Stmt := top 41
abbrev s__law_draw : Stmt := top 42
abbrev s__law_pick : Stmt := top 43
abbrev s__law_zones : Stmt := top 44
abbrev s__law_ticket : Stmt := top 45
abbrev s__law_tickets : Stmt := top 46
abbrev s__law_passage : Stmt := top 47
abbrev s__law_passages : Stmt := top 48
abbrev s__law_covers : Stmt := top 49
abbrev s__law_partings : Stmt := top 50
abbrev s__law_single : Stmt := top 51
abbrev s__law_cheapest : Stmt := top 52
abbrev s__law_is_place : Stmt := top 53
abbrev s__law_is_cover : Stmt := top 54
abbrev s__law_bent : Stmt := top 55
abbrev s__law_great_right : Stmt := top 56
abbrev s__law_right : Stmt := top 57
abbrev s_law : Stmt := top 58
/-- what the top has written -/
structure Top (K : PySem.W.Frag) (mg : Str → Option Value) : Prop where
  d_is_integer : Def K mg "is_integer" s_is_integer ["value"]
  d_is_between : Def K mg "is_between" s_is_between ["value", "least", "most"]
  d_are_rising : Def K mg "are_rising" s_are_rising ["numbers"]
  d_are_zones : Def K mg "are_zones" s_are_zones ["value"]
  d_is_ticket : Def K mg "is_ticket" s_is_ticket ["value"]
  d_is_passage : Def K mg "is_passage" s_is_passage ["value"]
  d_are_tickets : Def K mg "are_tickets" s_are_tickets ["value"]
  d_are_passages : Def K mg "are_passages" s_are_passages ["value"]
  d_want_tickets : Def K mg "want_tickets" s_want_tickets ["value"]
  d_want_passages : Def K mg "want_passages" s_want_passages ["value"]
  d_most_at_once : Def K mg "most_at_once" s_most_at_once ["passages"]
  d_does_cover : Def K mg "does_cover" s_does_cover ["ticket", "passages"]
  d_places_in : Def K mg "places_in" s_places_in ["number"]
  d_first_in : Def K mg "first_in" s_first_in ["passages", "number"]
  d_kinds_that_cover : Def K mg "kinds_that_cover" s_kinds_that_cover ["tickets", "passages", "number"]
  d_parts_with : Def K mg "parts_with" s_parts_with ["number", "place"]
  d_least_kinds : Def K mg "least_kinds" s_least_kinds ["tickets", "passages"]
  d_least_rows : Def K mg "least_rows" s_least_rows ["tickets", "passages"]
  d_least_prices : Def K mg "least_prices" s_least_prices ["tickets", "passages"]
  d_cheapest_of : Def K mg "cheapest_of" s_cheapest_of ["tickets", "passages"]
  d_cover_by : Def K mg "cover_by" s_cover_by ["rows"]
  d_is_lot : Def K mg "is_lot" s_is_lot ["value", "many"]
  d_is_bought : Def K mg "is_bought" s_is_bought ["tickets", "passages", "value"]
  d_covers : Def K mg "covers" s_covers ["tickets", "passages", "value"]
  d_is_cover : Def K mg "is_cover" s_is_cover ["tickets", "passages", "value"]
  d_cheapest : Def K mg "cheapest" s_cheapest ["tickets", "passages"]
  d_cheapest_cover : Def K mg "cheapest_cover" s_cheapest_cover ["tickets", "passages"]
  d__law_pot : Def K mg "_law_pot" s__law_pot ["script", "k"]
  d__law_draw : Def K mg "_law_draw" s__law_draw ["pot", "many"]
  d__law_pick : Def K mg "_law_pick" s__law_pick ["pot", "some"]
  d__law_zones : Def K mg "_law_zones" s__law_zones ["pot"]
  d__law_ticket : Def K mg "_law_ticket" s__law_ticket ["pot"]
  d__law_tickets : Def K mg "_law_tickets" s__law_tickets ["pot"]
  d__law_passage : Def K mg "_law_passage" s__law_passage ["pot"]
  d__law_passages : Def K mg "_law_passages" s__law_passages ["pot", "tickets", "many"]
  d__law_covers : Def K mg "_law_covers" s__law_covers ["ticket", "some"]
  d__law_partings : Def K mg "_law_partings" s__law_partings ["many"]
  d__law_single : Def K mg "_law_single" s__law_single ["tickets", "some"]
  d__law_cheapest : Def K mg "_law_cheapest" s__law_cheapest ["tickets", "passages"]
  d__law_is_place : Def K mg "_law_is_place" s__law_is_place ["value", "many"]
  d__law_is_cover : Def K mg "_law_is_cover" s__law_is_cover ["tickets", "passages", "value"]
  d__law_bent : Def K mg "_law_bent" s__law_bent ["pot", "tickets", "passages", "cover"]
  d__law_great_right : Def K mg "_law_great_right" s__law_great_right ["pot"]
  d__law_right : Def K mg "_law_right" s__law_right ["pot"]
  d_law : Def K mg "law" s_law ["script"]
  z_abs : mg "abs" = none
  z_all : mg "all" = none
  z_any : mg "any" = none
  z_bool : mg "bool" = none
  z_divmod : mg "divmod" = none
  z_enumerate : mg "enumerate" = none
  z_int : mg "int" = none
  z_isinstance : mg "isinstance" = none
  z_len : mg "len" = none
  z_list : mg "list" = none
  z_max : mg "max" = none
  z_min : mg "min" = none
  z_range : mg "range" = none
  z_repr : mg "repr" = none
  z_set : mg "set" = none
  z_sorted : mg "sorted" = none
  z_str : mg "str" = none
  z_sum : mg "sum" = none
  z_tuple : mg "tuple" = none
  z_zip : mg "zip" = none
  g_LATEST : ∃ t, mg "LATEST" = some (.int 9999 t)
  g_MOST_KINDS : ∃ t, mg "MOST_KINDS" = some (.int 8 t)
  g_MOST_MINUTES : ∃ t, mg "MOST_MINUTES" = some (.int 11000 t)
  g_MOST_PASSAGES : ∃ t, mg "MOST_PASSAGES" = some (.int 10 t)
  g_MOST_PERSONS : ∃ t, mg "MOST_PERSONS" = some (.int 5 t)
  g_MOST_PRICE : ∃ t, mg "MOST_PRICE" = some (.int 9999 t)
  g_MOST_ZONES : ∃ t, mg "MOST_ZONES" = some (.int 4 t)
section
variable {P : Program} {w : World} {K : PySem.W.Frag} {mg : Str → Option Value} {base : Heap}
abbrev N_is_integer : List Str := ["value"]
theorem sc_is_integer : FnScope N_is_integer ["value"] (defScope s_is_integer) := ⟨rfl, rfl, rfl, by decide +kernel, rfl, by decide +kernel, by decide +kernel⟩
noncomputable def b_is_integer : SM := (sSeq (sRet (eAnd (eIsi "int" (eVar 0)) (eNot (eIsi "bool" (eVar 0)))))
    sNil)
noncomputable def m_is_integer : GM := ofBody 1 0 b_is_integer
theorem fn_is_integer (T : Top K mg) : Callee P w K mg base 1 "is_integer" s_is_integer ["value"] 1 m_is_integer :=
  callee T.d_is_integer sc_is_integer rfl fun f cdv A outer s H E hgu hr hu =>
    (dss_cons (ds_ret (de_and (de_isi "int" (de_var 0) (by rfl) T.z_isinstance bb_isinstance (by rfl) T.z_int bb_int) (de_one (de_not (de_isi "bool" (de_var 0) (by rfl) T.z_isinstance bb_isinstance (by rfl) T.z_bool bb_bool)))))
    dss_nil)
abbrev N_is_between : List Str := ["value", "least", "most"]
theorem sc_is_between : FnScope N_is_between ["value", "least", "most"] (defScope s_is_between) := ⟨rfl, rfl, rfl, by decide +kernel, rfl, by decide +kernel, by decide +kernel⟩
noncomputable def b_is_between : SM := (sSeq (sRet (eAnd (eCall 1 m_is_integer (aCons (eVar 0) aNil)) (eChain gLe gLe (eVar 1) (eVar 0) (eVar 2))))
    sNil)
noncomputable def m_is_between : GM := ofBody 3 0 b_is_between
theorem fn_is_between (T : Top K mg) : Callee P w K mg base 2 "is_between" s_is_between ["value", "least", "most"] 3 m_is_between :=
  callee T.d_is_between sc_is_between rfl fun f cdv A outer s H E hgu hr hu =>
    (dss_cons (ds_ret (de_and (de_fn (fn_is_integer T) hgu (hr.mono (by decide)) (by rfl) (da_cons (de_var 0) da_nil)) (de_one (de_chain dop_le dop_le (de_var 1) (de_var 0) (de_var 2)))))
    dss_nil)
abbrev N_are_rising : List Str := ["numbers", "one", "other"]
theorem sc_are_rising : FnScope N_are_rising ["numbers"] (defScope s_are_rising) := ⟨rfl, rfl, rfl, by decide +kernel, rfl, by decide +kernel, by decide +kernel⟩
noncomputable def q_are_rising_1 : SM := (sRet (eApp gAll (aCons (eComp [1, 2] (iApp zip2D (aCons (eVar 0) (aCons (eCut (eVar 0) (oSome (eK (.int 1))) oNone) aNil))) (gdTup 2 (gdCons (gdName 1) (gdCons (gdName 2) gdNil))) tAll (eBin gLt (eVar 1) (eVar 2))) aNil)))
noncomputable def b_are_rising : SM := (sSeq q_are_rising_1
    sNil)
noncomputable def m_are_rising : GM := ofBody 1 2 b_are_rising
theorem fn_are_rising (T : Top K mg) : Callee P w K mg base 1 "are_rising" s_are_rising ["numbers"] 1 m_are_rising :=
  callee T.d_are_rising sc_are_rising rfl fun f cdv A outer s H E hgu hr hu =>
    (dss_cons (ds_ret (de_callB (dc_all rfl) (by rfl) T.z_all bb_all (da_cons (de_comp rfl sc_are_rising.nd (di_zip (by rfl) T.z_zip (da_cons (de_var 0) (da_cons (de_cut (de_var 0) (do_some de_int) do_none) da_nil))) (blkOk_by (N := N_are_rising) (sc := (defScope s_are_rising)) (own := [("one", 1), ("other", 2)]) (by decide +kernel)) rfl (fun _ _ _ _ _ => (dg_tup rfl (dgs_cons (dg_name sc_are_rising.nd rfl (Or.inl rfl)) (dgs_cons (dg_name sc_are_rising.nd rfl (Or.inl rfl)) dgs_nil)))) (fun _ _ _ _ _ => dts_nil) (fun _ _ _ _ _ => (de_cmp (dop_lt (lu0 hu)) (de_var 1) (de_var 2) (by first | exact nobehind _ (by decide) (by decide) | rfl | with_unfolding_all rfl)))) da_nil)))
    dss_nil)
abbrev N_are_zones : List Str := ["value", "zone"]
theorem sc_are_zones : FnScope N_are_zones ["value"] (defScope s_are_zones) := ⟨rfl, rfl, rfl, by decide +kernel, rfl, by decide +kernel, by decide +kernel⟩
noncomputable def q_are_zones_1 : SM := (sRet (eAnd (eApp gAll (aCons (eComp [1] (iSeq (eVar 0)) (gdName 1) tAll (eCall 3 m_is_between (aCons (eVar 1) (aCons (eK (.int 1)) (aCons (eK (.int 4)) aNil))))) aNil)) (eCall 1 m_are_rising (aCons (eVar 0) aNil))))
noncomputable def q_are_zones_2 : SM := (sIf (tOr2 (tNot2 (tVal (eIsi "tuple" (eVar 0)))) (tNot2 (tVal (eChain gLe gLe (eK (.int 1)) (eApp gLen (aCons (eVar 0) aNil)) (eK (.int 4)))))) (sSeq (sRet (eK (.bool false)))
    sNil) sNil)
noncomputable def b_are_zones : SM := (sSeq q_are_zones_2
    (sSeq q_are_zones_1
    sNil))
noncomputable def m_are_zones : GM := ofBody 1 1 b_are_zones
theorem fn_are_zones (T : Top K mg) : Callee P w K mg base 3 "are_zones" s_are_zones ["value"] 1 m_are_zones :=
  callee T.d_are_zones sc_are_zones rfl fun f cdv A outer s H E hgu hr hu =>
    (dss_cons (ds_if (PW.pt (dw_or (dt_not (dt_val (de_isi "tuple" (de_var 0) (by rfl) T.z_isinstance bb_isinstance (by rfl) T.z_tuple bb_tuple))) (dw_or1 (dt_not (dt_chain dop_le dop_le de_int (de_callB dc_len (by rfl) T.z_len bb_len (da_cons (de_var 0) da_nil)) (de_globE (by rfl) T.g_MOST_ZONES)))))) (dss_cons (ds_ret de_bl)
    dss_nil) dss_nil)
    (dss_cons (ds_ret (de_and (de_callB (dc_all rfl) (by rfl) T.z_all bb_all (da_cons (de_comp rfl sc_are_zones.nd (di_seq (de_var 0)) (blkOk_by (N := N_are_zones) (sc := (defScope s_are_zones)) (own := [("zone", 1)]) (by decide +kernel)) rfl (fun _ _ _ _ _ => (dg_name sc_are_zones.nd rfl (Or.inl rfl))) (fun _ _ _ _ _ => dts_nil) (fun _ _ _ _ _ => (de_fn (fn_is_between T) hgu (hr.mono (by decide)) (by rfl) (da_cons (de_var 1) (da_cons de_int (da_cons (de_globE (by rfl) T.g_MOST_ZONES) da_nil)))))) da_nil)) (de_one (de_fn (fn_are_rising T) hgu (hr.mono (by decide)) (by rfl) (da_cons (de_var 0) da_nil)))))
    dss_nil))
abbrev N_is_ticket : List Str := ["value"]
theorem sc_is_ticket : FnScope N_is_ticket ["value"] (defScope s_is_ticket) := ⟨rfl, rfl, rfl, by decide +kernel, rfl, by decide +kernel, by decide +kernel⟩
noncomputable def q_is_ticket_1 : SM := (sRet (eAnd (eCall 1 m_are_zones (aCons (eBin gIx (eVar 0) (eK (.int 3))) aNil)) (eCall 3 m_is_between (aCons (eBin gIx (eVar 0) (eK (.int 4))) (aCons (eK (.int 1)) (aCons (eK (.int 5)) aNil))))))
noncomputable def q_is_ticket_2 : SM := (sIf (tOr2 (tNot2 (tVal (eCall 3 m_is_between (aCons (eBin gIx (eVar 0) (eK (.int 1))) (aCons (eK (.int 1)) (aCons (eK (.int 9999)) aNil)))))) (tNot2 (tVal (eCall 3 m_is_between (aCons (eBin gIx (eVar 0) (eK (.int 2))) (aCons (eK (.int 1)) (aCons (eK (.int 11000)) aNil))))))) (sSeq (sRet (eK (.bool false)))
    sNil) sNil)
noncomputable def q_is_ticket_3 : SM := (sIf (tOr2 (tNot2 (tVal (eIsi "tuple" (eVar 0)))) (tOr2 (tVal (eBin gNe (eApp gLen (aCons (eVar 0) aNil)) (eK (.int 5)))) (tOr2 (tNot2 (tVal (eIsi "str" (eBin gIx (eVar 0) (eK (.int 0)))))) (tVal (eBin gNe (eBin gIx (eVar 0) (eK (.int 0))) (eK (.str "ticket"))))))) (sSeq (sRet (eK (.bool false)))
    sNil) sNil)
noncomputable def b_is_ticket : SM := (sSeq q_is_ticket_3
    (sSeq q_is_ticket_2
    (sSeq q_is_ticket_1
    sNil)))
noncomputable def m_is_ticket : GM := ofBody 1 0 b_is_ticket
theorem fn_is_ticket (T : Top K mg) : Callee P w K mg base 4 "is_ticket" s_is_ticket ["value"] 1 m_is_ticket :=
  callee T.d_is_ticket sc_is_ticket rfl fun f cdv A outer s H E hgu hr hu =>
    (dss_cons (ds_if (PW.pt (dw_or (dt_not (dt_val (de_isi "tuple" (de_var 0) (by rfl) T.z_isinstance bb_isinstance (by rfl) T.z_tuple bb_tuple))) (dw_or (dt_cmp (dop_ne (lu64 hu)) (de_callB dc_len (by rfl) T.z_len bb_len (da_cons (de_var 0) da_nil)) de_int (by first | exact nobehind _ (by decide) (by decide) | rfl | with_unfolding_all rfl)) (dw_or (dt_not (dt_val (de_isi "str" (de_ix (de_var 0) de_int) (by rfl) T.z_isinstance bb_isinstance (by rfl) T.z_str bb_str))) (dw_or1 (dt_cmp (dop_ne (lu64 hu)) (de_ix (de_var 0) de_int) de_str (by first | exact nobehind _ (by decide) (by decide) | rfl | with_unfolding_all rfl))))))) (dss_cons (ds_ret de_bl)
    dss_nil) dss_nil)
    (dss_cons (ds_if (PW.pt (dw_or (dt_not (dt_val (de_fn (fn_is_between T) hgu (hr.mono (by decide)) (by rfl) (da_cons (de_ix (de_var 0) de_int) (da_cons de_int (da_cons (de_globE (by rfl) T.g_MOST_PRICE) da_nil)))))) (dw_or1 (dt_not (dt_val (de_fn (fn_is_between T) hgu (hr.mono (by decide)) (by rfl) (da_cons (de_ix (de_var 0) de_int) (da_cons de_int (da_cons (de_globE (by rfl) T.g_MOST_MINUTES) da_nil))))))))) (dss_cons (ds_ret de_bl)
    dss_nil) dss_nil)
    (dss_cons (ds_ret (de_and (de_fn (fn_are_zones T) hgu (hr.mono (by decide)) (by rfl) (da_cons (de_ix (de_var 0) de_int) da_nil)) (de_one (de_fn (fn_is_between T) hgu (hr.mono (by decide)) (by rfl) (da_cons (de_ix (de_var 0) de_int) (da_cons de_int (da_cons (de_globE (by rfl) T.g_MOST_PERSONS) da_nil)))))))
    dss_nil)))
abbrev N_is_passage : List Str := ["value"]
theorem sc_is_passage : FnScope N_is_passage ["value"] (defScope s_is_passage) := ⟨rfl, rfl, rfl, by decide +kernel, rfl, by decide +kernel, by decide +kernel⟩
noncomputable def q_is_passage_1 : SM := (sRet (eAnd (eBin gLt (eBin gIx (eVar 0) (eK (.int 0))) (eBin gIx (eVar 0) (eK (.int 1)))) (eCall 1 m_are_zones (aCons (eBin gIx (eVar 0) (eK (.int 2))) aNil))))
noncomputable def q_is_passage_2 : SM := (sIf (tOr2 (tNot2 (tVal (eCall 3 m_is_between (aCons (eBin gIx (eVar 0) (eK (.int 0))) (aCons (eK (.int 0)) (aCons (eK (.int 9999)) aNil)))))) (tNot2 (tVal (eCall 3 m_is_between (aCons (eBin gIx (eVar 0) (eK (.int 1))) (aCons (eK (.int 0)) (aCons (eK (.int 9999)) aNil))))))) (sSeq (sRet (eK (.bool false)))
    sNil) sNil)
noncomputable def q_is_passage_3 : SM := (sIf (tOr2 (tNot2 (tVal (eIsi "tuple" (eVar 0)))) (tVal (eBin gNe (eApp gLen (aCons (eVar 0) aNil)) (eK (.int 3))))) (sSeq (sRet (eK (.bool false)))
    sNil) sNil)
noncomputable def b_is_passage : SM := (sSeq q_is_passage_3
    (sSeq q_is_passage_2
    (sSeq q_is_passage_1
    sNil)))
noncomputable def m_is_passage : GM := ofBody 1 0 b_is_passage
theorem fn_is_passage (T : Top K mg) : Callee P w K mg base 4 "is_passage" s_is_passage ["value"] 1 m_is_passage :=
  callee T.d_is_passage sc_is_passage rfl fun f cdv A outer s H E hgu hr hu =>
    (dss_cons (ds_if (PW.pt (dw_or (dt_not (dt_val (de_isi "tuple" (de_var 0) (by rfl) T.z_isinstance bb_isinstance (by rfl) T.z_tuple bb_tuple))) (dw_or1 (dt_cmp (dop_ne (lu64 hu)) (de_callB dc_len (by rfl) T.z_len bb_len (da_cons (de_var 0) da_nil)) de_int (by first | exact nobehind _ (by decide) (by decide) | rfl | with_unfolding_all rfl))))) (dss_cons (ds_ret de_bl)
    dss_nil) dss_nil)
    (dss_cons (ds_if (PW.pt (dw_or (dt_not (dt_val (de_fn (fn_is_between T) hgu (hr.mono (by decide)) (by rfl) (da_cons (de_ix (de_var 0) de_int) (da_cons de_int (da_cons (de_globE (by rfl) T.g_LATEST) da_nil)))))) (dw_or1 (dt_not (dt_val (de_fn (fn_is_between T) hgu (hr.mono (by decide)) (by rfl) (da_cons (de_ix (de_var 0) de_int) (da_cons de_int (da_cons (de_globE (by rfl) T.g_LATEST) da_nil))))))))) (dss_cons (ds_ret de_bl)
    dss_nil) dss_nil)
    (dss_cons (ds_ret (de_and (de_cmp (dop_lt (lu0 hu)) (de_ix (de_var 0) de_int) (de_ix (de_var 0) de_int) (by first | exact nobehind _ (by decide) (by decide) | rfl | with_unfolding_all rfl)) (de_one (de_fn (fn_are_zones T) hgu (hr.mono (by decide)) (by rfl) (da_cons (de_ix (de_var 0) de_int) da_nil)))))
    dss_nil)))
abbrev N_are_tickets : List Str := ["value", "one"]
theorem sc_are_tickets : FnScope N_are_tickets ["value"] (defScope s_are_tickets) := ⟨rfl, rfl, rfl, by decide +kernel, rfl, by decide +kernel, by decide +kernel⟩
noncomputable def q_are_tickets_1 : SM := (sIf (tOr2 (tNot2 (tVal (eIsi2 "list" "tuple" (eVar 0)))) (tNot2 (tVal (eChain gLe gLe (eK (.int 1)) (eApp gLen (aCons (eVar 0) aNil)) (eK (.int 8)))))) (sSeq (sRet (eK (.bool false)))
    sNil) sNil)
noncomputable def b_are_tickets : SM := (sSeq q_are_tickets_1
    (sSeq (sRet (eApp gAll (aCons (eComp [1] (iSeq (eVar 0)) (gdName 1) tAll (eCall 1 m_is_ticket (aCons (eVar 1) aNil))) aNil)))
    sNil))
noncomputable def m_are_tickets : GM := ofBody 1 1 b_are_tickets
theorem fn_are_tickets (T : Top K mg) : Callee P w K mg base 5 "are_tickets" s_are_tickets ["value"] 1 m_are_tickets :=
  callee T.d_are_tickets sc_are_tickets rfl fun f cdv A outer s H E hgu hr hu =>
    (dss_cons (ds_if (PW.pt (dw_or (dt_not (dt_val (de_isi2 "list" "tuple" (de_var 0) (by rfl) T.z_isinstance bb_isinstance (by rfl) T.z_list bb_list (by rfl) T.z_tuple bb_tuple))) (dw_or1 (dt_not (dt_chain dop_le dop_le de_int (de_callB dc_len (by rfl) T.z_len bb_len (da_cons (de_var 0) da_nil)) (de_globE (by rfl) T.g_MOST_KINDS)))))) (dss_cons (ds_ret de_bl)
    dss_nil) dss_nil)
    (dss_cons (ds_ret (de_callB (dc_all rfl) (by rfl) T.z_all bb_all (da_cons (de_comp rfl sc_are_tickets.nd (di_seq (de_var 0)) (blkOk_by (N := N_are_tickets) (sc := (defScope s_are_tickets)) (own := [("one", 1)]) (by decide +kernel)) rfl (fun _ _ _ _ _ => (dg_name sc_are_tickets.nd rfl (Or.inl rfl))) (fun _ _ _ _ _ => dts_nil) (fun _ _ _ _ _ => (de_fn (fn_is_ticket T) hgu (hr.mono (by decide)) (by rfl) (da_cons (de_var 1) da_nil)))) da_nil)))
    dss_nil))
abbrev N_are_passages : List Str := ["value", "one"]
theorem sc_are_passages : FnScope N_are_passages ["value"] (defScope s_are_passages) := ⟨rfl, rfl, rfl, by decide +kernel, rfl, by decide +kernel, by decide +kernel⟩
noncomputable def q_are_passages_1 : SM := (sIf (tOr2 (tNot2 (tVal (eIsi2 "list" "tuple" (eVar 0)))) (tVal (eBin gGt (eApp gLen (aCons (eVar 0) aNil)) (eK (.int 10))))) (sSeq (sRet (eK (.bool false)))
    sNil) sNil)
noncomputable def b_are_passages : SM := (sSeq q_are_passages_1
    (sSeq (sRet (eApp gAll (aCons (eComp [1] (iSeq (eVar 0)) (gdName 1) tAll (eCall 1 m_is_passage (aCons (eVar 1) aNil))) aNil)))
    sNil))
noncomputable def m_are_passages : GM := ofBody 1 1 b_are_passages
theorem fn_are_passages (T : Top K mg) : Callee P w K mg base 5 "are_passages" s_are_passages ["value"] 1 m_are_passages :=
  callee T.d_are_passages sc_are_passages rfl fun f cdv A outer s H E hgu hr hu =>
    (dss_cons (ds_if (PW.pt (dw_or (dt_not (dt_val (de_isi2 "list" "tuple" (de_var 0) (by rfl) T.z_isinstance bb_isinstance (by rfl) T.z_list bb_list (by rfl) T.z_tuple bb_tuple))) (dw_or1 (dt_cmp dop_gt (de_callB dc_len (by rfl) T.z_len bb_len (da_cons (de_var 0) da_nil)) (de_globE (by rfl) T.g_MOST_PASSAGES) (by first | exact nobehind _ (by decide) (by decide) | rfl | with_unfolding_all rfl))))) (dss_cons (ds_ret de_bl)
    dss_nil) dss_nil)
    (dss_cons (ds_ret (de_callB (dc_all rfl) (by rfl) T.z_all bb_all (da_cons (de_comp rfl sc_are_passages.nd (di_seq (de_var 0)) (blkOk_by (N := N_are_passages) (sc := (defScope s_are_passages)) (own := [("one", 1)]) (by decide +kernel)) rfl (fun _ _ _ _ _ => (dg_name sc_are_passages.nd rfl (Or.inl rfl))) (fun _ _ _ _ _ => dts_nil) (fun _ _ _ _ _ => (de_fn (fn_is_passage T) hgu (hr.mono (by decide)) (by rfl) (da_cons (de_var 1) da_nil)))) da_nil)))
    dss_nil))
abbrev N_want_tickets : List Str := ["value"]
theorem sc_want_tickets : FnScope N_want_tickets ["value"] (defScope s_want_tickets) := ⟨rfl, rfl, rfl, by decide +kernel, rfl, by decide +kernel, by decide +kernel⟩
noncomputable def b_want_tickets : SM := (sSeq (sIf (tNot2 (tVal (eCall 1 m_are_tickets (aCons (eVar 0) aNil)))) (sSeq sNever
    sNil) sNil)
    (sSeq (sRet (eMove 0))
    sNil))
noncomputable def m_want_tickets : GM := ofBody 1 0 b_want_tickets
theorem fn_want_tickets (T : Top K mg) : Callee P w K mg base 6 "want_tickets" s_want_tickets ["value"] 1 m_want_tickets :=
  callee T.d_want_tickets sc_want_tickets rfl fun f cdv A outer s H E hgu hr hu =>
    (dss_cons (ds_if (dt_not (dt_val (de_fn (fn_are_tickets T) hgu (hr.mono (by decide)) (by rfl) (da_cons (de_var 0) da_nil)))) (dss_cons ds_never
    dss_nil) dss_nil)
    (dss_cons (ds_ret (de_move 0))
    dss_nil))
abbrev N_want_passages : List Str := ["value"]
theorem sc_want_passages : FnScope N_want_passages ["value"] (defScope s_want_passages) := ⟨rfl, rfl, rfl, by decide +kernel, rfl, by decide +kernel, by decide +kernel⟩
noncomputable def b_want_passages : SM := (sSeq (sIf (tNot2 (tVal (eCall 1 m_are_passages (aCons (eVar 0) aNil)))) (sSeq sNever
    sNil) sNil)
    (sSeq (sRet (eMove 0))
    sNil))
noncomputable def m_want_passages : GM := ofBody 1 0 b_want_passages
theorem fn_want_passages (T : Top K mg) : Callee P w K mg base 6 "want_passages" s_want_passages ["value"] 1 m_want_passages :=
  callee T.d_want_passages sc_want_passages rfl fun f cdv A outer s H E hgu hr hu =>
    (dss_cons (ds_if (dt_not (dt_val (de_fn (fn_are_passages T) hgu (hr.mono (by decide)) (by rfl) (da_cons (de_var 0) da_nil)))) (dss_cons ds_never
    dss_nil) dss_nil)
    (dss_cons (ds_ret (de_move 0))
    dss_nil))
abbrev N_most_at_once : List Str := ["passages", "found", "begin", "end", "zones", "here", "one"]
theorem sc_most_at_once : FnScope N_most_at_once ["passages"] (defScope s_most_at_once) := ⟨rfl, rfl, rfl, by decide +kernel, rfl, by decide +kernel, by decide +kernel⟩
noncomputable def q_most_at_once_1 : SM := (sSet 5 (eComp [6] (iSeq (eVar 0)) (gdName 6) (tVal (eChain gLe gLt (eBin gIx (eVar 6) (eK (.int 0))) (eVar 2) (eBin gIx (eVar 6) (eK (.int 1))))) (eVar 6)))
noncomputable def l_most_at_once_2 : SM := (sSeq q_most_at_once_1
    (sSeq (sSet 1 (eApp gMax (aCons (eVar 1) (aCons (eApp gLen (aCons (eVar 5) aNil)) aNil))))
    sNil))
noncomputable def b_most_at_once : SM := (sSeq (sSet 1 (eK (.int 0)))
    (sSeq (sFor (iSeq (eVar 0)) (gdTup 3 (gdCons (gdName 2) (gdCons (gdName 3) (gdCons (gdName 4) gdNil)))) l_most_at_once_2)
    (sSeq (sRet (eMove 1))
    sNil)))
noncomputable def m_most_at_once : GM := ofBody 1 6 b_most_at_once
theorem fn_most_at_once (T : Top K mg) : Callee P w K mg base 1 "most_at_once" s_most_at_once ["passages"] 1 m_most_at_once :=
  callee T.d_most_at_once sc_most_at_once rfl fun f cdv A outer s H E hgu hr hu =>
    (dss_cons (ds_set sc_most_at_once.nd rfl (Or.inl rfl) de_int)
    (dss_cons (ds_for PassesOwn.never rfl (di_seq (de_var 0)) (dg_tup rfl (dgs_cons (dg_name sc_most_at_once.nd rfl (Or.inr rfl)) (dgs_cons (dg_name sc_most_at_once.nd rfl (Or.inl rfl)) (dgs_cons (dg_name sc_most_at_once.nd rfl (Or.inl rfl)) dgs_nil)))) (dss_cons (ds_setComp rfl sc_most_at_once.nd rfl rfl (sw_true rfl rfl rfl (by decide +kernel)) (di_seq (de_var 0)) (blkOk_by (N := N_most_at_once) (sc := (defScope s_most_at_once)) (own := [("one", 6)]) (by decide +kernel)) rfl (fun _ _ _ _ _ => (dg_name sc_most_at_once.nd rfl (Or.inl rfl))) (fun _ _ _ _ _ => (dts_one (dt_chain dop_le (dop_lt (lu0 hu)) (de_ix (de_var 6) de_int) (de_var 2) (de_ix (de_var 6) de_int)))) (fun _ _ _ _ _ => (de_var 6)))
    (dss_cons (ds_set sc_most_at_once.nd rfl (Or.inl rfl) (de_callB (dc_max2 rfl) (by rfl) T.z_max bb_max (da_cons (de_var 1) (da_cons (de_callB dc_len (by rfl) T.z_len bb_len (da_cons (de_var 5) da_nil)) da_nil))))
    dss_nil)))
    (dss_cons (ds_ret (de_move 1))
    dss_nil)))
abbrev N_does_cover : List Str := ["ticket", "passages", "first", "begin", "end", "zones", "passage", "zone"]
theorem sc_does_cover : FnScope N_does_cover ["ticket", "passages"] (defScope s_does_cover) := ⟨rfl, rfl, rfl, by decide +kernel, rfl, by decide +kernel, by decide +kernel⟩
noncomputable def q_does_cover_1 : SM := (sIf (tOr2 (tVal (eBin gGe (eBin gSub (eVar 3) (eVar 2)) (eBin gIx (eVar 0) (eK (.int 2))))) (tVal (eApp gAny (aCons (eComp [7] (iSeq (eVar 5)) (gdName 7) tAll (eBin (gIn true) (eVar 7) (eBin gIx (eVar 0) (eK (.int 3))))) aNil)))) (sSeq (sRet (eK (.bool false)))
    sNil) sNil)
noncomputable def l_does_cover_2 : SM := (sSeq q_does_cover_1
    sNil)
noncomputable def b_does_cover : SM := (sSeq (sSet 2 (eApp gMin (aCons (eComp [6] (iSeq (eVar 1)) (gdName 6) tAll (eBin gIx (eVar 6) (eK (.int 0)))) aNil)))
    (sSeq (sFor (iSeq (eVar 1)) (gdTup 3 (gdCons (gdName 3) (gdCons (gdName 4) (gdCons (gdName 5) gdNil)))) l_does_cover_2)
    (sSeq (sRet (eBin gLe (eCall 1 m_most_at_once (aCons (eVar 1) aNil)) (eBin gIx (eVar 0) (eK (.int 4)))))
    sNil)))
noncomputable def m_does_cover : GM := ofBody 2 6 b_does_cover
theorem fn_does_cover (T : Top K mg) : Callee P w K mg base 2 "does_cover" s_does_cover ["ticket", "passages"] 2 m_does_cover :=
  callee T.d_does_cover sc_does_cover rfl fun f cdv A outer s H E hgu hr hu =>
    (dss_cons (ds_set sc_does_cover.nd rfl (Or.inl rfl) (de_callB (dc_min rfl (lu64 hu)) (by rfl) T.z_min bb_min (da_cons (de_comp rfl sc_does_cover.nd (di_seq (de_var 1)) (blkOk_by (N := N_does_cover) (sc := (defScope s_does_cover)) (own := [("passage", 6)]) (by decide +kernel)) rfl (fun _ _ _ _ _ => (dg_name sc_does_cover.nd rfl (Or.inl rfl))) (fun _ _ _ _ _ => dts_nil) (fun _ _ _ _ _ => (de_ix (de_var 6) de_int))) da_nil)))
    (dss_cons (ds_for PassesOwn.never rfl (di_seq (de_var 1)) (dg_tup rfl (dgs_cons (dg_name sc_does_cover.nd rfl (Or.inl rfl)) (dgs_cons (dg_name sc_does_cover.nd rfl (Or.inl rfl)) (dgs_cons (dg_name sc_does_cover.nd rfl (Or.inl rfl)) dgs_nil)))) (dss_cons (ds_if (PW.pt (dw_or (dt_cmp dop_ge (de_op dop_sub (de_var 3) (de_var 2)) (de_ix (de_var 0) de_int) (by first | exact nobehind _ (by decide) (by decide) | rfl | with_unfolding_all rfl)) (dw_or1 (dt_val (de_callB (dc_any rfl) (by rfl) T.z_any bb_any (da_cons (de_comp rfl sc_does_cover.nd (di_seq (de_var 5)) (blkOk_by (N := N_does_cover) (sc := (defScope s_does_cover)) (own := [("zone", 7)]) (by decide +kernel)) rfl (fun _ _ _ _ _ => (dg_name sc_does_cover.nd rfl (Or.inl rfl))) (fun _ _ _ _ _ => dts_nil) (fun _ _ _ _ _ => (de_cmp (dop_notin (lu65 hu)) (de_var 7) (de_ix (de_var 0) de_int) (by first | exact nobehind _ (by decide) (by decide) | rfl | with_unfolding_all rfl)))) da_nil)))))) (dss_cons (ds_ret de_bl)
    dss_nil) dss_nil)
    dss_nil))
    (dss_cons (ds_ret (de_cmp dop_le (de_fn (fn_most_at_once T) hgu (hr.mono (by decide)) (by rfl) (da_cons (de_var 1) da_nil)) (de_ix (de_var 0) de_int) (by first | exact nobehind _ (by decide) (by decide) | rfl | with_unfolding_all rfl)))
    dss_nil)))
abbrev N_places_in : List Str := ["number", "found", "place"]
theorem sc_places_in : FnScope N_places_in ["number"] (defScope s_places_in) := ⟨rfl, rfl, rfl, by decide +kernel, rfl, by decide +kernel, by decide +kernel⟩
noncomputable def q_places_in_1 : SM := (sIf (tVal (eBin gEq (eBin gAnd (eBin gShr (eVar 0) (eVar 2)) (eK (.int 1))) (eK (.int 1)))) (sSeq (sExpr (eMeth opAppend 1 (aCons (eVar 2) aNil)))
    sNil) sNil)
noncomputable def l_places_in_2 : SM := (sSeq q_places_in_1
    (sSeq (sSet 2 (eBin gAdd (eVar 2) (eK (.int 1))))
    sNil))
noncomputable def b_places_in : SM := (sSeq (sPar 1 2 (eApp gLst aNil) (eK (.int 0)))
    (sSeq (sWhile (tVal (eBin gGt (eBin gShr (eVar 0) (eVar 2)) (eK (.int 0)))) l_places_in_2)
    (sSeq (sRet (eMove 1))
    sNil)))
noncomputable def m_places_in : GM := ofBody 1 2 b_places_in
theorem fn_places_in (T : Top K mg) : Callee P w K mg base 1 "places_in" s_places_in ["number"] 1 m_places_in :=
  callee T.d_places_in sc_places_in rfl fun f cdv A outer s H E hgu hr hu =>
    (dss_cons (ds_par rfl sc_places_in.nd rfl rfl (by decide) rfl rfl (de_lst da_nil) de_int)
    (dss_cons (ds_while PassesOwn.never (dt_cmp dop_gt (de_op dop_shr (de_var 0) (de_var 2)) de_int (by first | exact nobehind _ (by decide) (by decide) | rfl | with_unfolding_all rfl)) (dss_cons (ds_if (dt_cmp (dop_eq (lu64 hu)) (de_op dop_and (de_op dop_shr (de_var 0) (de_var 2)) de_int) de_int (by first | exact nobehind _ (by decide) (by decide) | rfl | with_unfolding_all rfl)) (dss_cons (ds_expr (de_append (pv 1) (da_cons (de_var 2) da_nil)))
    dss_nil) dss_nil)
    (dss_cons (ds_set sc_places_in.nd rfl (Or.inl rfl) (de_op dop_add (de_var 2) de_int))
    dss_nil)))
    (dss_cons (ds_ret (de_move 1))
    dss_nil)))
abbrev N_first_in : List Str := ["passages", "number", "place"]
theorem sc_first_in : FnScope N_first_in ["passages", "number"] (defScope s_first_in) := ⟨rfl, rfl, rfl, by decide +kernel, rfl, by decide +kernel, by decide +kernel⟩
noncomputable def q_first_in_1 : SM := (sRet (eBin gIx (eApp gMin (aCons (eComp [2] (iSeq (eCall 1 m_places_in (aCons (eVar 1) aNil))) (gdName 2) tAll (eApp gTup (aCons (eBin gIx (eBin gIx (eVar 0) (eVar 2)) (eK (.int 0))) (aCons (eVar 2) aNil)))) aNil)) (eK (.int 1))))
noncomputable def b_first_in : SM := (sSeq q_first_in_1
    sNil)
noncomputable def m_first_in : GM := ofBody 2 1 b_first_in
theorem fn_first_in (T : Top K mg) : Callee P w K mg base 2 "first_in" s_first_in ["passages", "number"] 2 m_first_in :=
  callee T.d_first_in sc_first_in rfl fun f cdv A outer s H E hgu hr hu =>
    (dss_cons (ds_ret (de_ix (de_callB (dc_min rfl (lu64 hu)) (by rfl) T.z_min bb_min (da_cons (de_comp rfl sc_first_in.nd (di_seq (de_fn (fn_places_in T) hgu (hr.mono (by decide)) (by rfl) (da_cons (de_var 1) da_nil))) (blkOk_by (N := N_first_in) (sc := (defScope s_first_in)) (own := [("place", 2)]) (by decide +kernel)) rfl (fun _ _ _ _ _ => (dg_name sc_first_in.nd rfl (Or.inl rfl))) (fun _ _ _ _ _ => dts_nil) (fun _ _ _ _ _ => (de_tup (da_cons (de_ix (de_ix (de_var 0) (de_var 2)) de_int) (da_cons (de_var 2) da_nil))))) da_nil)) de_int))
    dss_nil)
abbrev N_kinds_that_cover : List Str := ["tickets", "passages", "number", "here", "place", "kind", "ticket"]
theorem sc_kinds_that_cover : FnScope N_kinds_that_cover ["tickets", "passages", "number"] (defScope s_kinds_that_cover) := ⟨rfl, rfl, rfl, by decide +kernel, rfl, by decide +kernel, by decide +kernel⟩
noncomputable def q_kinds_that_cover_1 : SM := (sRet (eComp [5, 6] (iApp enum1D (aCons (eVar 0) aNil)) (gdTup 2 (gdCons (gdName 5) (gdCons (gdName 6) gdNil))) (tVal (eCall 2 m_does_cover (aCons (eVar 6) (aCons (eVar 3) aNil)))) (eVar 5)))
noncomputable def b_kinds_that_cover : SM := (sSeq (sSet 3 (eComp [4] (iSeq (eCall 1 m_places_in (aCons (eVar 2) aNil))) (gdName 4) tAll (eBin gIx (eVar 1) (eVar 4))))
    (sSeq q_kinds_that_cover_1
    sNil))
noncomputable def m_kinds_that_cover : GM := ofBody 3 4 b_kinds_that_cover
theorem fn_kinds_that_cover (T : Top K mg) : Callee P w K mg base 3 "kinds_that_cover" s_kinds_that_cover ["tickets", "passages", "number"] 3 m_kinds_that_cover :=
  callee T.d_kinds_that_cover sc_kinds_that_cover rfl fun f cdv A outer s H E hgu hr hu =>
    (dss_cons (ds_set sc_kinds_that_cover.nd rfl (Or.inr rfl) (de_comp rfl sc_kinds_that_cover.nd (di_seq (de_fn (fn_places_in T) hgu (hr.mono (by decide)) (by rfl) (da_cons (de_var 2) da_nil))) (blkOk_by (N := N_kinds_that_cover) (sc := (defScope s_kinds_that_cover)) (own := [("place", 4)]) (by decide +kernel)) rfl (fun _ _ _ _ _ => (dg_name sc_kinds_that_cover.nd rfl (Or.inl rfl))) (fun _ _ _ _ _ => dts_nil) (fun _ _ _ _ _ => (de_ix (de_var 1) (de_var 4)))))
    (dss_cons (ds_ret (de_comp rfl sc_kinds_that_cover.nd (di_enum (by rfl) T.z_enumerate (da_cons (de_var 0) da_nil)) (blkOk_by (N := N_kinds_that_cover) (sc := (defScope s_kinds_that_cover)) (own := [("kind", 5), ("ticket", 6)]) (by decide +kernel)) rfl (fun _ _ _ _ _ => (dg_tup rfl (dgs_cons (dg_name sc_kinds_that_cover.nd rfl (Or.inl rfl)) (dgs_cons (dg_name sc_kinds_that_cover.nd rfl (Or.inl rfl)) dgs_nil)))) (fun _ _ _ _ _ => (dts_one (dt_val (de_fn (fn_does_cover T) hgu (hr.mono (by decide)) (by rfl) (da_cons (de_var 6) (da_cons (de_var 3) da_nil)))))) (fun _ _ _ _ _ => (de_var 5))))
    dss_nil))
abbrev N_parts_with : List Str := ["number", "place", "rest", "found", "part"]
theorem sc_parts_with : FnScope N_parts_with ["number", "place"] (defScope s_parts_with) := ⟨rfl, rfl, rfl, by decide +kernel, rfl, by decide +kernel, by decide +kernel⟩
noncomputable def l_parts_with_1 : SM := (sSeq (sExpr (eMeth opAppend 3 (aCons (eBin gAdd (eVar 4) (eBin gShl (eK (.int 1)) (eVar 1))) aNil)))
    (sSeq (sSet 4 (eBin gAnd (eBin gSub (eVar 4) (eK (.int 1))) (eVar 2)))
    sNil))
noncomputable def b_parts_with : SM := (sSeq (sPar 2 3 (eBin gSub (eVar 0) (eBin gShl (eK (.int 1)) (eVar 1))) (eApp gLst aNil))
    (sSeq (sSet 4 (eVar 2))
    (sSeq (sWhile (tVal (eBin gGt (eVar 4) (eK (.int 0)))) l_parts_with_1)
    (sSeq (sRet (eBin gAdd (eVar 3) (eApp gLst (aCons (eBin gShl (eK (.int 1)) (eVar 1)) aNil))))
    sNil))))
noncomputable def m_parts_with : GM := ofBody 2 3 b_parts_with
theorem fn_parts_with (T : Top K mg) : Callee P w K mg base 1 "parts_with" s_parts_with ["number", "place"] 2 m_parts_with :=
  callee T.d_parts_with sc_parts_with rfl fun f cdv A outer s H E hgu hr hu =>
    (dss_cons (ds_par rfl sc_parts_with.nd rfl rfl (by decide) rfl rfl (de_op dop_sub (de_var 0) (de_op dop_shl de_int (de_var 1))) (de_lst da_nil))
    (dss_cons (ds_set sc_parts_with.nd rfl (Or.inl rfl) (de_var 2))
    (dss_cons (ds_while PassesOwn.never (dt_cmp dop_gt (de_var 4) de_int (by first | exact nobehind _ (by decide) (by decide) | rfl | with_unfolding_all rfl)) (dss_cons (ds_expr (de_append (pv 3) (da_cons (de_op dop_add (de_var 4) (de_op dop_shl de_int (de_var 1))) da_nil)))
    (dss_cons (ds_set sc_parts_with.nd rfl (Or.inl rfl) (de_op dop_and (de_op dop_sub (de_var 4) de_int) (de_var 2)))
    dss_nil)))
    (dss_cons (ds_ret (de_op dop_add (de_var 3) (de_lst (da_cons (de_op dop_shl de_int (de_var 1)) da_nil))))
    dss_nil))))
abbrev N_least_kinds : List Str := ["tickets", "passages", "found", "number", "kinds", "kind"]
theorem sc_least_kinds : FnScope N_least_kinds ["tickets", "passages"] (defScope s_least_kinds) := ⟨rfl, rfl, rfl, by decide +kernel, rfl, by decide +kernel, by decide +kernel⟩
noncomputable def q_least_kinds_1 : SM := (sExpr (eMeth opAppend 2 (aCons (eIf (tVal (eBin gNe (eVar 4) (eApp gLst aNil))) (eApp gMin (aCons (eComp [5] (iSeq (eVar 4)) (gdName 5) tAll (eApp gTup (aCons (eBin gIx (eBin gIx (eVar 0) (eVar 5)) (eK (.int 1))) (aCons (eVar 5) aNil)))) aNil)) (eK .none)) aNil)))
noncomputable def l_least_kinds_2 : SM := (sSeq (sSet 4 (eCall 3 m_kinds_that_cover (aCons (eVar 0) (aCons (eVar 1) (aCons (eVar 3) aNil)))))
    (sSeq q_least_kinds_1
    sNil))
noncomputable def b_least_kinds : SM := (sSeq (sSet 2 (eApp gLst (aCons (eK .none) aNil)))
    (sSeq (sFor (iApp range2D (aCons (eK (.int 1)) (aCons (eBin gShl (eK (.int 1)) (eApp gLen (aCons (eVar 1) aNil))) aNil))) (gdName 3) l_least_kinds_2)
    (sSeq (sRet (eMove 2))
    sNil)))
noncomputable def m_least_kinds : GM := ofBody 2 4 b_least_kinds
theorem fn_least_kinds (T : Top K mg) : Callee P w K mg base 4 "least_kinds" s_least_kinds ["tickets", "passages"] 2 m_least_kinds :=
  callee T.d_least_kinds sc_least_kinds rfl fun f cdv A outer s H E hgu hr hu =>
    (dss_cons (ds_set sc_least_kinds.nd rfl (Or.inl rfl) (de_lst (da_cons de_non da_nil)))
    (dss_cons (ds_for PassesOwn.never rfl (di_range2 (by rfl) T.z_range (da_cons de_int (da_cons (de_op dop_shl de_int (de_callB dc_len (by rfl) T.z_len bb_len (da_cons (de_var 1) da_nil))) da_nil))) (dg_name sc_least_kinds.nd rfl (Or.inl rfl)) (dss_cons (ds_set sc_least_kinds.nd rfl (Or.inl rfl) (de_fn (fn_kinds_that_cover T) hgu (hr.mono (by decide)) (by rfl) (da_cons (de_var 0) (da_cons (de_var 1) (da_cons (de_var 3) da_nil)))))
    (dss_cons (ds_expr (de_append (pv 2) (da_cons (de_if (dt_cmp (dop_ne (lu64 hu)) (de_var 4) (de_lst da_nil) (by first | exact nobehind _ (by decide) (by decide) | rfl | with_unfolding_all rfl)) (de_callB (dc_min rfl (lu64 hu)) (by rfl) T.z_min bb_min (da_cons (de_comp rfl sc_least_kinds.nd (di_seq (de_var 4)) (blkOk_by (N := N_least_kinds) (sc := (defScope s_least_kinds)) (own := [("kind", 5)]) (by decide +kernel)) rfl (fun _ _ _ _ _ => (dg_name sc_least_kinds.nd rfl (Or.inl rfl))) (fun _ _ _ _ _ => dts_nil) (fun _ _ _ _ _ => (de_tup (da_cons (de_ix (de_ix (de_var 0) (de_var 5)) de_int) (da_cons (de_var 5) da_nil))))) da_nil)) de_non) da_nil)))
    dss_nil)))
    (dss_cons (ds_ret (de_move 2))
    dss_nil)))
abbrev N_least_rows : List Str := ["tickets", "passages", "singles", "found", "number", "least", "part", "rest", "price", "kind", "row"]
theorem sc_least_rows : FnScope N_least_rows ["tickets", "passages"] (defScope s_least_rows) := ⟨rfl, rfl, rfl, by decide +kernel, rfl, by decide +kernel, by decide +kernel⟩
noncomputable def q_least_rows_1 : SM := (sIf (tAnd2 (tVal (eBin (gIsB true) (eBin gIx (eVar 2) (eVar 6)) (eK .none))) (tVal (eBin (gIsB true) (eVar 7) (eK .none)))) (sSeq (sAsgD (gdTup 2 (gdCons (gdName 8) (gdCons (gdName 9) gdNil))) (eBin gIx (eVar 2) (eVar 6)))
    (sSeq (sSet 10 (eApp gTup (aCons (eBin gAdd (eVar 8) (eBin gIx (eVar 7) (eK (.int 0)))) (aCons (eVar 9) (aCons (eVar 6) aNil)))))
    (sSeq (sSet 5 (eIf (tOr2 (tVal (eBin (gIsB false) (eVar 5) (eK .none))) (tVal (eBin gLt (eVar 10) (eVar 5)))) (eVar 10) (eVar 5)))
    sNil))) sNil)
noncomputable def l_least_rows_2 : SM := (sSeq (sSet 7 (eIxN 3 (eBin gSub (eVar 4) (eVar 6))))
    (sSeq q_least_rows_1
    sNil))
noncomputable def q_least_rows_3 : SM := (sFor (iSeq (eCall 2 m_parts_with (aCons (eVar 4) (aCons (eCall 2 m_first_in (aCons (eVar 1) (aCons (eVar 4) aNil))) aNil)))) (gdName 6) l_least_rows_2)
noncomputable def l_least_rows_4 : SM := (sSeq (sSet 5 (eK .none))
    (sSeq q_least_rows_3
    (sSeq (sExpr (eMeth opAppend 3 (aCons (eVar 5) aNil)))
    sNil)))
noncomputable def q_least_rows_5 : SM := (sPar 2 3 (eCall 2 m_least_kinds (aCons (eVar 0) (aCons (eVar 1) aNil))) (eApp gLst (aCons (eApp gTup (aCons (eK (.int 0)) (aCons (eK (.int 0)) (aCons (eK (.int 0)) aNil)))) aNil)))
noncomputable def b_least_rows : SM := (sSeq q_least_rows_5
    (sSeq (sFor (iApp range2D (aCons (eK (.int 1)) (aCons (eBin gShl (eK (.int 1)) (eApp gLen (aCons (eVar 1) aNil))) aNil))) (gdName 4) l_least_rows_4)
    (sSeq (sRet (eMove 3))
    sNil)))
noncomputable def m_least_rows : GM := ofBody 2 9 b_least_rows
theorem fn_least_rows (T : Top K mg) : Callee P w K mg base 5 "least_rows" s_least_rows ["tickets", "passages"] 2 m_least_rows :=
  callee T.d_least_rows sc_least_rows rfl fun f cdv A outer s H E hgu hr hu =>
    (dss_cons (ds_par rfl sc_least_rows.nd rfl rfl (by decide) rfl rfl (de_fn (fn_least_kinds T) hgu (hr.mono (by decide)) (by rfl) (da_cons (de_var 0) (da_cons (de_var 1) da_nil))) (de_lst (da_cons (de_tup (da_cons de_int (da_cons de_int (da_cons de_int da_nil)))) da_nil)))
    (dss_cons (ds_for PassesOwn.never rfl (di_range2 (by rfl) T.z_range (da_cons de_int (da_cons (de_op dop_shl de_int (de_callB dc_len (by rfl) T.z_len bb_len (da_cons (de_var 1) da_nil))) da_nil))) (dg_name sc_least_rows.nd rfl (Or.inl rfl)) (dss_cons (ds_set sc_least_rows.nd rfl (Or.inl rfl) de_non)
    (dss_cons (ds_for PassesOwn.never rfl (di_seq (de_fn (fn_parts_with T) hgu (hr.mono (by decide)) (by rfl) (da_cons (de_var 4) (da_cons (de_fn (fn_first_in T) hgu (hr.mono (by decide)) (by rfl) (da_cons (de_var 1) (da_cons (de_var 4) da_nil))) da_nil)))) (dg_name sc_least_rows.nd rfl (Or.inl rfl)) (dss_cons (ds_set sc_least_rows.nd rfl (Or.inl rfl) (de_ixN (pv 3) (de_op dop_sub (de_var 4) (de_var 6))))
    (dss_cons (ds_if (PW.pt (dw_and (dt_cmp dop_isnotB (de_ix (de_var 2) (de_var 6)) de_non (by first | exact nobehind _ (by decide) (by decide) | rfl | with_unfolding_all rfl)) (dw_and1 (dt_cmp dop_isnotB (de_var 7) de_non (by first | exact nobehind _ (by decide) (by decide) | rfl | with_unfolding_all rfl))))) (dss_cons (ds_asgD (de_ix (de_var 2) (de_var 6)) (dg_tup rfl (dgs_cons (dg_name sc_least_rows.nd rfl (Or.inl rfl)) (dgs_cons (dg_name sc_least_rows.nd rfl (Or.inl rfl)) dgs_nil))))
    (dss_cons (ds_set sc_least_rows.nd rfl (Or.inl rfl) (de_tup (da_cons (de_op dop_add (de_var 8) (de_ix (de_var 7) de_int)) (da_cons (de_var 9) (da_cons (de_var 6) da_nil)))))
    (dss_cons (ds_set sc_least_rows.nd rfl (Or.inl rfl) (de_if (PW.pt (dw_or (dt_cmp dop_isB (de_var 5) de_non (by first | exact nobehind _ (by decide) (by decide) | rfl | with_unfolding_all rfl)) (dw_or1 (dt_cmp (dop_lt (lu0 hu)) (de_var 10) (de_var 5) (by first | exact nobehind _ (by decide) (by decide) | rfl | with_unfolding_all rfl))))) (de_var 10) (de_var 5)))
    dss_nil))) dss_nil)
    dss_nil)))
    (dss_cons (ds_expr (de_append (pv 3) (da_cons (de_var 5) da_nil)))
    dss_nil))))
    (dss_cons (ds_ret (de_move 3))
    dss_nil)))
abbrev N_least_prices : List Str := ["tickets", "passages", "row"]
theorem sc_least_prices : FnScope N_least_prices ["tickets", "passages"] (defScope s_least_prices) := ⟨rfl, rfl, rfl, by decide +kernel, rfl, by decide +kernel, by decide +kernel⟩
noncomputable def q_least_prices_1 : SM := (sRet (eComp [2] (iSeq (eCall 2 m_least_rows (aCons (eVar 0) (aCons (eVar 1) aNil)))) (gdName 2) tAll (eIf (tVal (eBin (gIsB true) (eVar 2) (eK .none))) (eBin gIx (eVar 2) (eK (.int 0))) (eK .none))))
noncomputable def b_least_prices : SM := (sSeq q_least_prices_1
    sNil)
noncomputable def m_least_prices : GM := ofBody 2 1 b_least_prices
theorem fn_least_prices (T : Top K mg) : Callee P w K mg base 6 "least_prices" s_least_prices ["tickets", "passages"] 2 m_least_prices :=
  callee T.d_least_prices sc_least_prices rfl fun f cdv A outer s H E hgu hr hu =>
    (dss_cons (ds_ret (de_comp rfl sc_least_prices.nd (di_seq (de_fn (fn_least_rows T) hgu (hr.mono (by decide)) (by rfl) (da_cons (de_var 0) (da_cons (de_var 1) da_nil)))) (blkOk_by (N := N_least_prices) (sc := (defScope s_least_prices)) (own := [("row", 2)]) (by decide +kernel)) rfl (fun _ _ _ _ _ => (dg_name sc_least_prices.nd rfl (Or.inl rfl))) (fun _ _ _ _ _ => dts_nil) (fun _ _ _ _ _ => (de_if (dt_cmp dop_isnotB (de_var 2) de_non (by first | exact nobehind _ (by decide) (by decide) | rfl | with_unfolding_all rfl)) (de_ix (de_var 2) de_int) de_non))))
    dss_nil)
abbrev N_cheapest_of : List Str := ["tickets", "passages"]
theorem sc_cheapest_of : FnScope N_cheapest_of ["tickets", "passages"] (defScope s_cheapest_of) := ⟨rfl, rfl, rfl, by decide +kernel, rfl, by decide +kernel, by decide +kernel⟩
noncomputable def b_cheapest_of : SM := (sSeq (sRet (eBin gIx (eCall 2 m_least_prices (aCons (eVar 0) (aCons (eVar 1) aNil))) (eNeg (eK (.int 1)))))
    sNil)
noncomputable def m_cheapest_of : GM := ofBody 2 0 b_cheapest_of
theorem fn_cheapest_of (T : Top K mg) : Callee P w K mg base 7 "cheapest_of" s_cheapest_of ["tickets", "passages"] 2 m_cheapest_of :=
  callee T.d_cheapest_of sc_cheapest_of rfl fun f cdv A outer s H E hgu hr hu =>
    (dss_cons (ds_ret (de_ix (de_fn (fn_least_prices T) hgu (hr.mono (by decide)) (by rfl) (da_cons (de_var 0) (da_cons (de_var 1) da_nil))) (de_neg de_int)))
    dss_nil)
abbrev N_cover_by : List Str := ["rows", "number", "found", "price", "kind", "part"]
theorem sc_cover_by : FnScope N_cover_by ["rows"] (defScope s_cover_by) := ⟨rfl, rfl, rfl, by decide +kernel, rfl, by decide +kernel, by decide +kernel⟩
noncomputable def q_cover_by_1 : SM := (sExpr (eMeth opAppend 2 (aCons (eApp gTup (aCons (eVar 4) (aCons (eApp gTuple (aCons (eCall 1 m_places_in (aCons (eVar 5) aNil)) aNil)) aNil))) aNil)))
noncomputable def l_cover_by_2 : SM := (sSeq (sAsgD (gdTup 3 (gdCons (gdName 3) (gdCons (gdName 4) (gdCons (gdName 5) gdNil)))) (eBin gIx (eVar 0) (eVar 1)))
    (sSeq q_cover_by_1
    (sSeq (sSet 1 (eBin gSub (eVar 1) (eVar 5)))
    sNil)))
noncomputable def b_cover_by : SM := (sSeq (sPar 1 2 (eBin gSub (eApp gLen (aCons (eVar 0) aNil)) (eK (.int 1))) (eApp gLst aNil))
    (sSeq (sWhile (tVal (eBin gGt (eVar 1) (eK (.int 0)))) l_cover_by_2)
    (sSeq (sRet (eMove 2))
    sNil)))
noncomputable def m_cover_by : GM := ofBody 1 5 b_cover_by
theorem fn_cover_by (T : Top K mg) : Callee P w K mg base 2 "cover_by" s_cover_by ["rows"] 1 m_cover_by :=
  callee T.d_cover_by sc_cover_by rfl fun f cdv A outer s H E hgu hr hu =>
    (dss_cons (ds_par rfl sc_cover_by.nd rfl rfl (by decide) rfl rfl (de_op dop_sub (de_callB dc_len (by rfl) T.z_len bb_len (da_cons (de_var 0) da_nil)) de_int) (de_lst da_nil))
    (dss_cons (ds_while PassesOwn.never (dt_cmp dop_gt (de_var 1) de_int (by first | exact nobehind _ (by decide) (by decide) | rfl | with_unfolding_all rfl)) (dss_cons (ds_asgD (de_ix (de_var 0) (de_var 1)) (dg_tup rfl (dgs_cons (dg_name sc_cover_by.nd rfl (Or.inl rfl)) (dgs_cons (dg_name sc_cover_by.nd rfl (Or.inl rfl)) (dgs_cons (dg_name sc_cover_by.nd rfl (Or.inl rfl)) dgs_nil)))))
    (dss_cons (ds_expr (de_append (pv 2) (da_cons (de_tup (da_cons (de_var 4) (da_cons (de_callTy dc_tuple (by rfl) T.z_tuple bb_tuple (da_cons (de_fn (fn_places_in T) hgu (hr.mono (by decide)) (by rfl) (da_cons (de_var 5) da_nil)) da_nil)) da_nil))) da_nil)))
    (dss_cons (ds_set sc_cover_by.nd rfl (Or.inl rfl) (de_op dop_sub (de_var 1) (de_var 5)))
    dss_nil))))
    (dss_cons (ds_ret (de_move 2))
    dss_nil)))
abbrev N_is_lot : List Str := ["value", "many", "place"]
theorem sc_is_lot : FnScope N_is_lot ["value", "many"] (defScope s_is_lot) := ⟨rfl, rfl, rfl, by decide +kernel, rfl, by decide +kernel, by decide +kernel⟩
noncomputable def q_is_lot_1 : SM := (sRet (eAnd (eApp gAll (aCons (eComp [2] (iSeq (eVar 0)) (gdName 2) tAll (eCall 3 m_is_between (aCons (eVar 2) (aCons (eK (.int 0)) (aCons (eBin gSub (eVar 1) (eK (.int 1))) aNil))))) aNil)) (eCall 1 m_are_rising (aCons (eVar 0) aNil))))
noncomputable def q_is_lot_2 : SM := (sIf (tOr2 (tNot2 (tVal (eIsi "tuple" (eVar 0)))) (tVal (eBin gEq (eApp gLen (aCons (eVar 0) aNil)) (eK (.int 0))))) (sSeq (sRet (eK (.bool false)))
    sNil) sNil)
noncomputable def b_is_lot : SM := (sSeq q_is_lot_2
    (sSeq q_is_lot_1
    sNil))
noncomputable def m_is_lot : GM := ofBody 2 1 b_is_lot
theorem fn_is_lot (T : Top K mg) : Callee P w K mg base 3 "is_lot" s_is_lot ["value", "many"] 2 m_is_lot :=
  callee T.d_is_lot sc_is_lot rfl fun f cdv A outer s H E hgu hr hu =>
    (dss_cons (ds_if (PW.pt (dw_or (dt_not (dt_val (de_isi "tuple" (de_var 0) (by rfl) T.z_isinstance bb_isinstance (by rfl) T.z_tuple bb_tuple))) (dw_or1 (dt_cmp (dop_eq (lu64 hu)) (de_callB dc_len (by rfl) T.z_len bb_len (da_cons (de_var 0) da_nil)) de_int (by first | exact nobehind _ (by decide) (by decide) | rfl | with_unfolding_all rfl))))) (dss_cons (ds_ret de_bl)
    dss_nil) dss_nil)
    (dss_cons (ds_ret (de_and (de_callB (dc_all rfl) (by rfl) T.z_all bb_all (da_cons (de_comp rfl sc_is_lot.nd (di_seq (de_var 0)) (blkOk_by (N := N_is_lot) (sc := (defScope s_is_lot)) (own := [("place", 2)]) (by decide +kernel)) rfl (fun _ _ _ _ _ => (dg_name sc_is_lot.nd rfl (Or.inl rfl))) (fun _ _ _ _ _ => dts_nil) (fun _ _ _ _ _ => (de_fn (fn_is_between T) hgu (hr.mono (by decide)) (by rfl) (da_cons (de_var 2) (da_cons de_int (da_cons (de_op dop_sub (de_var 1) de_int) da_nil)))))) da_nil)) (de_one (de_fn (fn_are_rising T) hgu (hr.mono (by decide)) (by rfl) (da_cons (de_var 0) da_nil)))))
    dss_nil))
abbrev N_is_bought : List Str := ["tickets", "passages", "value", "place"]
theorem sc_is_bought : FnScope N_is_bought ["tickets", "passages", "value"] (defScope s_is_bought) := ⟨rfl, rfl, rfl, by decide +kernel, rfl, by decide +kernel, by decide +kernel⟩
noncomputable def q_is_bought_1 : SM := (sRet (eCall 2 m_does_cover (aCons (eBin gIx (eVar 0) (eBin gIx (eVar 2) (eK (.int 0)))) (aCons (eComp [3] (iSeq (eBin gIx (eVar 2) (eK (.int 1)))) (gdName 3) tAll (eBin gIx (eVar 1) (eVar 3))) aNil))))
noncomputable def q_is_bought_2 : SM := (sIf (tNot2 (tVal (eCall 2 m_is_lot (aCons (eBin gIx (eVar 2) (eK (.int 1))) (aCons (eApp gLen (aCons (eVar 1) aNil)) aNil))))) (sSeq (sRet (eK (.bool false)))
    sNil) sNil)
noncomputable def q_is_bought_3 : SM := (sIf (tOr2 (tNot2 (tVal (eIsi "tuple" (eVar 2)))) (tOr2 (tVal (eBin gNe (eApp gLen (aCons (eVar 2) aNil)) (eK (.int 2)))) (tNot2 (tVal (eCall 3 m_is_between (aCons (eBin gIx (eVar 2) (eK (.int 0))) (aCons (eK (.int 0)) (aCons (eBin gSub (eApp gLen (aCons (eVar 0) aNil)) (eK (.int 1))) aNil)))))))) (sSeq (sRet (eK (.bool false)))
    sNil) sNil)
noncomputable def b_is_bought : SM := (sSeq q_is_bought_3
    (sSeq q_is_bought_2
    (sSeq q_is_bought_1
    sNil)))
noncomputable def m_is_bought : GM := ofBody 3 1 b_is_bought
theorem fn_is_bought (T : Top K mg) : Callee P w K mg base 4 "is_bought" s_is_bought ["tickets", "passages", "value"] 3 m_is_bought :=
  callee T.d_is_bought sc_is_bought rfl fun f cdv A outer s H E hgu hr hu =>
    (dss_cons (ds_if (PW.pt (dw_or (dt_not (dt_val (de_isi "tuple" (de_var 2) (by rfl) T.z_isinstance bb_isinstance (by rfl) T.z_tuple bb_tuple))) (dw_or (dt_cmp (dop_ne (lu64 hu)) (de_callB dc_len (by rfl) T.z_len bb_len (da_cons (de_var 2) da_nil)) de_int (by first | exact nobehind _ (by decide) (by decide) | rfl | with_unfolding_all rfl)) (dw_or1 (dt_not (dt_val (de_fn (fn_is_between T) hgu (hr.mono (by decide)) (by rfl) (da_cons (de_ix (de_var 2) de_int) (da_cons de_int (da_cons (de_op dop_sub (de_callB dc_len (by rfl) T.z_len bb_len (da_cons (de_var 0) da_nil)) de_int) da_nil)))))))))) (dss_cons (ds_ret de_bl)
    dss_nil) dss_nil)
    (dss_cons (ds_if (dt_not (dt_val (de_fn (fn_is_lot T) hgu (hr.mono (by decide)) (by rfl) (da_cons (de_ix (de_var 2) de_int) (da_cons (de_callB dc_len (by rfl) T.z_len bb_len (da_cons (de_var 1) da_nil)) da_nil))))) (dss_cons (ds_ret de_bl)
    dss_nil) dss_nil)
    (dss_cons (ds_ret (de_fn (fn_does_cover T) hgu (hr.mono (by decide)) (by rfl) (da_cons (de_ix (de_var 0) (de_ix (de_var 2) de_int)) (da_cons (de_comp rfl sc_is_bought.nd (di_seq (de_ix (de_var 2) de_int)) (blkOk_by (N := N_is_bought) (sc := (defScope s_is_bought)) (own := [("place", 3)]) (by decide +kernel)) rfl (fun _ _ _ _ _ => (dg_name sc_is_bought.nd rfl (Or.inl rfl))) (fun _ _ _ _ _ => dts_nil) (fun _ _ _ _ _ => (de_ix (de_var 1) (de_var 3)))) da_nil))))
    dss_nil)))
abbrev N_covers : List Str := ["tickets", "passages", "value", "places", "kind", "lot", "one"]
theorem sc_covers : FnScope N_covers ["tickets", "passages", "value"] (defScope s_covers) := ⟨rfl, rfl, rfl, by decide +kernel, rfl, by decide +kernel, by decide +kernel⟩
noncomputable def l_covers_1 : SM := (sSeq (sExpr (eMeth opExtend 3 (aCons (eVar 5) aNil)))
    sNil)
noncomputable def q_covers_2 : SM := (sIf (tOr2 (tNot2 (tVal (eIsi2 "list" "tuple" (eVar 2)))) (tNot2 (tVal (eApp gAll (aCons (eComp [6] (iSeq (eVar 2)) (gdName 6) tAll (eCall 3 m_is_bought (aCons (eVar 0) (aCons (eVar 1) (aCons (eVar 6) aNil))))) aNil))))) (sSeq (sRet (eK (.bool false)))
    sNil) sNil)
noncomputable def b_covers : SM := (sSeq q_covers_2
    (sSeq (sSet 3 (eApp gLst aNil))
    (sSeq (sFor (iSeq (eVar 2)) (gdTup 2 (gdCons (gdName 4) (gdCons (gdName 5) gdNil))) l_covers_1)
    (sSeq (sRet (eBin gEq (eApp gSorted (aCons (eVar 3) aNil)) (eListR1 (eApp gLen (aCons (eVar 1) aNil)))))
    sNil))))
noncomputable def m_covers : GM := ofBody 3 4 b_covers
theorem fn_covers (T : Top K mg) : Callee P w K mg base 5 "covers" s_covers ["tickets", "passages", "value"] 3 m_covers :=
  callee T.d_covers sc_covers rfl fun f cdv A outer s H E hgu hr hu =>
    (dss_cons (ds_if (PW.pt (dw_or (dt_not (dt_val (de_isi2 "list" "tuple" (de_var 2) (by rfl) T.z_isinstance bb_isinstance (by rfl) T.z_list bb_list (by rfl) T.z_tuple bb_tuple))) (dw_or1 (dt_not (dt_val (de_callB (dc_all rfl) (by rfl) T.z_all bb_all (da_cons (de_comp rfl sc_covers.nd (di_seq (de_var 2)) (blkOk_by (N := N_covers) (sc := (defScope s_covers)) (own := [("one", 6)]) (by decide +kernel)) rfl (fun _ _ _ _ _ => (dg_name sc_covers.nd rfl (Or.inl rfl))) (fun _ _ _ _ _ => dts_nil) (fun _ _ _ _ _ => (de_fn (fn_is_bought T) hgu (hr.mono (by decide)) (by rfl) (da_cons (de_var 0) (da_cons (de_var 1) (da_cons (de_var 6) da_nil)))))) da_nil))))))) (dss_cons (ds_ret de_bl)
    dss_nil) dss_nil)
    (dss_cons (ds_set sc_covers.nd rfl (Or.inl rfl) (de_lst da_nil))
    (dss_cons (ds_for PassesOwn.never rfl (di_seq (de_var 2)) (dg_tup rfl (dgs_cons (dg_name sc_covers.nd rfl (Or.inl rfl)) (dgs_cons (dg_name sc_covers.nd rfl (Or.inl rfl)) dgs_nil))) (dss_cons (ds_expr (de_extend (pv 3) (da_cons (de_var 5) da_nil)))
    dss_nil))
    (dss_cons (ds_ret (de_cmp (dop_eq (lu64 hu)) (de_callB dc_sorted (by rfl) T.z_sorted bb_sorted (da_cons (de_var 3) da_nil)) (de_listR1 rfl (by rfl) T.z_list (by rfl) T.z_range (de_callB dc_len (by rfl) T.z_len bb_len (da_cons (de_var 1) da_nil))) (by first | exact nobehind _ (by decide) (by decide) | rfl | with_unfolding_all rfl)))
    dss_nil))))
abbrev N_is_cover : List Str := ["tickets", "passages", "value"]
theorem sc_is_cover : FnScope N_is_cover ["tickets", "passages", "value"] (defScope s_is_cover) := ⟨rfl, rfl, rfl, by decide +kernel, rfl, by decide +kernel, by decide +kernel⟩
noncomputable def b_is_cover : SM := (sSeq (sExpr (eCall 1 m_want_tickets (aCons (eVar 0) aNil)))
    (sSeq (sRet (eCall 3 m_covers (aCons (eVar 0) (aCons (eCall 1 m_want_passages (aCons (eVar 1) aNil)) (aCons (eVar 2) aNil)))))
    sNil))
noncomputable def m_is_cover : GM := ofBody 3 0 b_is_cover
theorem fn_is_cover (T : Top K mg) : Callee P w K mg base 7 "is_cover" s_is_cover ["tickets", "passages", "value"] 3 m_is_cover :=
  callee T.d_is_cover sc_is_cover rfl fun f cdv A outer s H E hgu hr hu =>
    (dss_cons (ds_expr (de_fn (fn_want_tickets T) hgu (hr.mono (by decide)) (by rfl) (da_cons (de_var 0) da_nil)))
    (dss_cons (ds_ret (de_fn (fn_covers T) hgu (hr.mono (by decide)) (by rfl) (da_cons (de_var 0) (da_cons (de_fn (fn_want_passages T) hgu (hr.mono (by decide)) (by rfl) (da_cons (de_var 1) da_nil)) (da_cons (de_var 2) da_nil)))))
    dss_nil))
abbrev N_cheapest : List Str := ["tickets", "passages"]
theorem sc_cheapest : FnScope N_cheapest ["tickets", "passages"] (defScope s_cheapest) := ⟨rfl, rfl, rfl, by decide +kernel, rfl, by decide +kernel, by decide +kernel⟩
noncomputable def b_cheapest : SM := (sSeq (sExpr (eCall 1 m_want_tickets (aCons (eVar 0) aNil)))
    (sSeq (sRet (eCall 2 m_cheapest_of (aCons (eVar 0) (aCons (eCall 1 m_want_passages (aCons (eVar 1) aNil)) aNil))))
    sNil))
noncomputable def m_cheapest : GM := ofBody 2 0 b_cheapest
theorem fn_cheapest (T : Top K mg) : Callee P w K mg base 8 "cheapest" s_cheapest ["tickets", "passages"] 2 m_cheapest :=
  callee T.d_cheapest sc_cheapest rfl fun f cdv A outer s H E hgu hr hu =>
    (dss_cons (ds_expr (de_fn (fn_want_tickets T) hgu (hr.mono (by decide)) (by rfl) (da_cons (de_var 0) da_nil)))
    (dss_cons (ds_ret (de_fn (fn_cheapest_of T) hgu (hr.mono (by decide)) (by rfl) (da_cons (de_var 0) (da_cons (de_fn (fn_want_passages T) hgu (hr.mono (by decide)) (by rfl) (da_cons (de_var 1) da_nil)) da_nil))))
    dss_nil))
abbrev N_cheapest_cover : List Str := ["tickets", "passages", "rows"]
theorem sc_cheapest_cover : FnScope N_cheapest_cover ["tickets", "passages"] (defScope s_cheapest_cover) := ⟨rfl, rfl, rfl, by decide +kernel, rfl, by decide +kernel, by decide +kernel⟩
noncomputable def b_cheapest_cover : SM := (sSeq (sExpr (eCall 1 m_want_tickets (aCons (eVar 0) aNil)))
    (sSeq (sSet 2 (eCall 2 m_least_rows (aCons (eVar 0) (aCons (eCall 1 m_want_passages (aCons (eVar 1) aNil)) aNil))))
    (sSeq (sRet (eIf (tVal (eBin (gIsB true) (eBin gIx (eVar 2) (eNeg (eK (.int 1)))) (eK .none))) (eCall 1 m_cover_by (aCons (eVar 2) aNil)) (eK .none)))
    sNil)))
noncomputable def m_cheapest_cover : GM := ofBody 2 1 b_cheapest_cover
theorem fn_cheapest_cover (T : Top K mg) : Callee P w K mg base 7 "cheapest_cover" s_cheapest_cover ["tickets", "passages"] 2 m_cheapest_cover :=
  callee T.d_cheapest_cover sc_cheapest_cover rfl fun f cdv A outer s H E hgu hr hu =>
    (dss_cons (ds_expr (de_fn (fn_want_tickets T) hgu (hr.mono (by decide)) (by rfl) (da_cons (de_var 0) da_nil)))
    (dss_cons (ds_set sc_cheapest_cover.nd rfl (Or.inl rfl) (de_fn (fn_least_rows T) hgu (hr.mono (by decide)) (by rfl) (da_cons (de_var 0) (da_cons (de_fn (fn_want_passages T) hgu (hr.mono (by decide)) (by rfl) (da_cons (de_var 1) da_nil)) da_nil))))
    (dss_cons (ds_ret (de_if (dt_cmp dop_isnotB (de_ix (de_var 2) (de_neg de_int)) de_non (by first | exact nobehind _ (by decide) (by decide) | rfl | with_unfolding_all rfl)) (de_fn (fn_cover_by T) hgu (hr.mono (by decide)) (by rfl) (da_cons (de_var 2) da_nil)) de_non))
    dss_nil)))
abbrev N__law_draw : List Str := ["pot", "many", "digit"]
theorem sc__law_draw : FnScope N__law_draw ["pot", "many"] (defScope s__law_draw) := ⟨rfl, rfl, rfl, by decide +kernel, rfl, by decide +kernel, by decide +kernel⟩
noncomputable def q__law_draw_1 : SM := (sRet (eBin gMod (eApp gInt1 (aCons (eBin gFdiv (eBin gMod (eApp gInt1 (aCons (eBin gMul (eIxN 0 (eK (.int 1))) (eIxN 0 (eK (.int 1)))) aNil)) (eK (.int 2147483549))) (eK (.int 19))) aNil)) (eVar 1)))
noncomputable def q__law_draw_2 : SM := (sAsgD (gdIx 0 (eK (.int 1))) (eBin gMod (eApp gInt1 (aCons (eBin gAdd (eBin gMul (eIxN 0 (eK (.int 1))) (eK (.int 39373))) (eK (.int 1511))) aNil)) (eK (.int 2147483587))))
noncomputable def q__law_draw_3 : SM := (sIf (tVal (eBin gGt (eIxN 0 (eK (.int 0))) (eK (.int 0)))) (sSeq (sAsgD (gdTup 2 (gdCons (gdIx 0 (eK (.int 0))) (gdCons (gdName 2) gdNil))) (eApp gDivmod (aCons (eIxN 0 (eK (.int 0))) (aCons (eVar 1) aNil))))
    (sSeq (sRet (eMove 2))
    sNil)) sNil)
noncomputable def b__law_draw : SM := (sSeq q__law_draw_3
    (sSeq q__law_draw_2
    (sSeq q__law_draw_1
    sNil)))
noncomputable def m__law_draw : GM := ofBody 2 1 b__law_draw
theorem fn__law_draw (T : Top K mg) : Callee P w K mg base 1 "_law_draw" s__law_draw ["pot", "many"] 2 m__law_draw :=
  callee T.d__law_draw sc__law_draw rfl fun f cdv A outer s H E hgu hr hu =>
    (dss_cons (ds_if (dt_cmp dop_gt (de_ixN (pv 0) de_int) de_int (by first | exact nobehind _ (by decide) (by decide) | rfl | with_unfolding_all rfl)) (dss_cons (ds_asgD (de_callB dc_divmod (by rfl) T.z_divmod bb_divmod (da_cons (de_ixN (pv 0) de_int) (da_cons (de_var 1) da_nil))) (dg_tup rfl (dgs_cons (dg_ix (pv 0) de_int) (dgs_cons (dg_name sc__law_draw.nd rfl (Or.inl rfl)) dgs_nil))))
    (dss_cons (ds_ret (de_move 2))
    dss_nil)) dss_nil)
    (dss_cons (ds_asgD (de_op dop_mod (de_callTy dc_int (by rfl) T.z_int bb_int (da_cons (de_op dop_add (de_op dop_mul (de_ixN (pv 0) de_int) de_int) de_int) da_nil)) de_int) (dg_ix (pv 0) de_int))
    (dss_cons (ds_ret (de_op dop_mod (de_callTy dc_int (by rfl) T.z_int bb_int (da_cons (de_op dop_fdiv (de_op dop_mod (de_callTy dc_int (by rfl) T.z_int bb_int (da_cons (de_op dop_mul (de_ixN (pv 0) de_int) (de_ixN (pv 0) de_int)) da_nil)) de_int) de_int) da_nil)) (de_var 1)))
    dss_nil)))
abbrev N__law_pick : List Str := ["pot", "some"]
theorem sc__law_pick : FnScope N__law_pick ["pot", "some"] (defScope s__law_pick) := ⟨rfl, rfl, rfl, by decide +kernel, rfl, by decide +kernel, by decide +kernel⟩
noncomputable def b__law_pick : SM := (sSeq (sRet (eIxA 1 (eCallP 2 m__law_draw 0 (aCons (look (eApp gLen (aCons (eVar 1) aNil))) aNil))))
    sNil)
noncomputable def m__law_pick : GM := ofBody 2 0 b__law_pick
theorem fn__law_pick (T : Top K mg) : Callee P w K mg base 2 "_law_pick" s__law_pick ["pot", "some"] 2 m__law_pick :=
  callee T.d__law_pick sc__law_pick rfl fun f cdv A outer s H E hgu hr hu =>
    (dss_cons (ds_ret (de_ixA (de_var 1) (pv 1) (de_fnP (fn__law_draw T) hgu (hr.mono (by decide)) (by rfl) (pv 0) (da_cons (de_look (de_callB dc_len (by rfl) T.z_len bb_len (da_cons (de_var 1) da_nil))) da_nil))))
    dss_nil)
abbrev N__law_zones : List Str := ["pot"]
theorem sc__law_zones : FnScope N__law_zones ["pot"] (defScope s__law_zones) := ⟨rfl, rfl, rfl, by decide +kernel, rfl, by decide +kernel, by decide +kernel⟩
noncomputable def q__law_zones_1 : SM := (sRet (eCallP 2 m__law_pick 0 (aCons (eApp gLst (aCons (eApp gTup (aCons (eK (.int 1)) aNil)) (aCons (eApp gTup (aCons (eK (.int 2)) aNil)) (aCons (eApp gTup (aCons (eK (.int 1)) (aCons (eK (.int 2)) aNil))) (aCons (eApp gTup (aCons (eK (.int 2)) (aCons (eK (.int 3)) aNil))) (aCons (eApp gTup (aCons (eK (.int 1)) (aCons (eK (.int 2)) (aCons (eK (.int 3)) aNil)))) (aCons (eApp gTup (aCons (eK (.int 3)) (aCons (eK (.int 4)) aNil))) (aCons (eApp gTup (aCons (eK (.int 1)) (aCons (eK (.int 2)) (aCons (eK (.int 3)) (aCons (eK (.int 4)) aNil))))) (aCons (eApp gTup (aCons (eK (.int 1)) (aCons (eK (.int 2)) aNil))) aNil))))))))) aNil)))
noncomputable def b__law_zones : SM := (sSeq q__law_zones_1
    sNil)
noncomputable def m__law_zones : GM := ofBody 1 0 b__law_zones
theorem fn__law_zones (T : Top K mg) : Callee P w K mg base 3 "_law_zones" s__law_zones ["pot"] 1 m__law_zones :=
  callee T.d__law_zones sc__law_zones rfl fun f cdv A outer s H E hgu hr hu =>
    (dss_cons (ds_ret (de_fnP (fn__law_pick T) hgu (hr.mono (by decide)) (by rfl) (pv 0) (da_cons (de_lst (da_cons (de_tup (da_cons de_int da_nil)) (da_cons (de_tup (da_cons de_int da_nil)) (da_cons (de_tup (da_cons de_int (da_cons de_int da_nil))) (da_cons (de_tup (da_cons de_int (da_cons de_int da_nil))) (da_cons (de_tup (da_cons de_int (da_cons de_int (da_cons de_int da_nil)))) (da_cons (de_tup (da_cons de_int (da_cons de_int da_nil))) (da_cons (de_tup (da_cons de_int (da_cons de_int (da_cons de_int (da_cons de_int da_nil))))) (da_cons (de_tup (da_cons de_int (da_cons de_int da_nil))) da_nil))))))))) da_nil)))
    dss_nil)
abbrev N__law_ticket : List Str := ["pot", "price", "minutes"]
theorem sc__law_ticket : FnScope N__law_ticket ["pot"] (defScope s__law_ticket) := ⟨rfl, rfl, rfl, by decide +kernel, rfl, by decide +kernel, by decide +kernel⟩
noncomputable def q__law_ticket_1 : SM := (sRet (eApp gTup (aCons (eK (.str "ticket")) (aCons (eVar 1) (aCons (eVar 2) (aCons (eCallP 1 m__law_zones 0 aNil) (aCons (eCallP 2 m__law_pick 0 (aCons (eApp gLst (aCons (eK (.int 1)) (aCons (eK (.int 1)) (aCons (eK (.int 2)) (aCons (eK (.int 3)) (aCons (eK (.int 5)) aNil)))))) aNil)) aNil)))))))
noncomputable def q__law_ticket_2 : SM := (sPar 1 2 (eCallP 2 m__law_pick 0 (aCons (eApp gLst (aCons (eBin gAdd (eK (.int 1)) (eCallP 2 m__law_draw 0 (aCons (eK (.int 30)) aNil))) (aCons (eBin gMul (eK (.int 100)) (eBin gAdd (eK (.int 1)) (eCallP 2 m__law_draw 0 (aCons (eK (.int 9)) aNil)))) (aCons (eK (.int 9999)) aNil)))) aNil)) (eCallP 2 m__law_pick 0 (aCons (eApp gLst (aCons (eK (.int 1)) (aCons (eK (.int 2)) (aCons (eK (.int 10)) (aCons (eK (.int 30)) (aCons (eK (.int 60)) (aCons (eK (.int 61)) (aCons (eK (.int 90)) (aCons (eK (.int 11000)) aNil))))))))) aNil)))
noncomputable def b__law_ticket : SM := (sSeq q__law_ticket_2
    (sSeq q__law_ticket_1
    sNil))
noncomputable def m__law_ticket : GM := ofBody 1 2 b__law_ticket
theorem fn__law_ticket (T : Top K mg) : Callee P w K mg base 4 "_law_ticket" s__law_ticket ["pot"] 1 m__law_ticket :=
  callee T.d__law_ticket sc__law_ticket rfl fun f cdv A outer s H E hgu hr hu =>
    (dss_cons (ds_par rfl sc__law_ticket.nd rfl rfl (by decide) rfl rfl (de_fnP (fn__law_pick T) hgu (hr.mono (by decide)) (by rfl) (pv 0) (da_cons (de_lst (da_cons (de_op dop_add de_int (de_fnP (fn__law_draw T) hgu (hr.mono (by decide)) (by rfl) (pv 0) (da_cons de_int da_nil))) (da_cons (de_op dop_mul de_int (de_op dop_add de_int (de_fnP (fn__law_draw T) hgu (hr.mono (by decide)) (by rfl) (pv 0) (da_cons de_int da_nil)))) (da_cons de_int da_nil)))) da_nil)) (de_fnP (fn__law_pick T) hgu (hr.mono (by decide)) (by rfl) (pv 0) (da_cons (de_lst (da_cons de_int (da_cons de_int (da_cons de_int (da_cons de_int (da_cons de_int (da_cons de_int (da_cons de_int (da_cons de_int da_nil))))))))) da_nil)))
    (dss_cons (ds_ret (de_tup (da_cons de_str (da_cons (de_var 1) (da_cons (de_var 2) (da_cons (de_fnP (fn__law_zones T) hgu (hr.mono (by decide)) (by rfl) (pv 0) da_nil) (da_cons (de_fnP (fn__law_pick T) hgu (hr.mono (by decide)) (by rfl) (pv 0) (da_cons (de_lst (da_cons de_int (da_cons de_int (da_cons de_int (da_cons de_int (da_cons de_int da_nil)))))) da_nil)) da_nil)))))))
    dss_nil))
abbrev N__law_tickets : List Str := ["pot", "turn"]
theorem sc__law_tickets : FnScope N__law_tickets ["pot"] (defScope s__law_tickets) := ⟨rfl, rfl, rfl, by decide +kernel, rfl, by decide +kernel, by decide +kernel⟩
noncomputable def q__law_tickets_1 : SM := (sRet (eComp [1] (iApp range1D (aCons (eCallP 2 m__law_pick 0 (aCons (eApp gLst (aCons (eK (.int 1)) (aCons (eK (.int 2)) (aCons (eK (.int 3)) (aCons (eK (.int 4)) (aCons (eK (.int 8)) aNil)))))) aNil)) aNil)) (gdName 1) tAll (eCallP 1 m__law_ticket 0 aNil)))
noncomputable def b__law_tickets : SM := (sSeq q__law_tickets_1
    sNil)
noncomputable def m__law_tickets : GM := ofBody 1 1 b__law_tickets
theorem fn__law_tickets (T : Top K mg) : Callee P w K mg base 5 "_law_tickets" s__law_tickets ["pot"] 1 m__law_tickets :=
  callee T.d__law_tickets sc__law_tickets rfl fun f cdv A outer s H E hgu hr hu =>
    (dss_cons (ds_ret (de_comp rfl sc__law_tickets.nd (di_range1 (by rfl) T.z_range (da_cons (de_fnP (fn__law_pick T) hgu (hr.mono (by decide)) (by rfl) (pv 0) (da_cons (de_lst (da_cons de_int (da_cons de_int (da_cons de_int (da_cons de_int (da_cons de_int da_nil)))))) da_nil)) da_nil)) (blkOk_by (N := N__law_tickets) (sc := (defScope s__law_tickets)) (own := [("turn", 1)]) (by decide +kernel)) rfl (fun _ _ _ _ _ => (dg_name sc__law_tickets.nd rfl (Or.inl rfl))) (fun _ _ _ _ _ => dts_nil) (fun _ _ _ _ _ => (de_fnP (fn__law_ticket T) hgu (hr.mono (by decide)) (by rfl) (pv 0) da_nil))))
    dss_nil)
abbrev N__law_passage : List Str := ["pot", "begin"]
theorem sc__law_passage : FnScope N__law_passage ["pot"] (defScope s__law_passage) := ⟨rfl, rfl, rfl, by decide +kernel, rfl, by decide +kernel, by decide +kernel⟩
noncomputable def q__law_passage_1 : SM := (sRet (eApp gTup (aCons (eVar 1) (aCons (eApp gMin (aCons (eK (.int 9999)) (aCons (eBin gAdd (eVar 1) (eCallP 2 m__law_pick 0 (aCons (eApp gLst (aCons (eK (.int 1)) (aCons (eK (.int 30)) (aCons (eBin gAdd (eK (.int 1)) (eCallP 2 m__law_draw 0 (aCons (eK (.int 40)) aNil))) (aCons (eK (.int 9)) aNil))))) aNil))) aNil))) (aCons (eCallP 2 m__law_pick 0 (aCons (eApp gLst (aCons (eApp gTup (aCons (eK (.int 1)) aNil)) (aCons (eApp gTup (aCons (eK (.int 2)) aNil)) (aCons (eApp gTup (aCons (eK (.int 1)) (aCons (eK (.int 2)) aNil))) (aCons (eApp gTup (aCons (eK (.int 1)) aNil)) (aCons (eCallP 1 m__law_zones 0 aNil) aNil)))))) aNil)) aNil)))))
noncomputable def q__law_passage_2 : SM := (sSet 1 (eCallP 2 m__law_pick 0 (aCons (eApp gLst (aCons (eK (.int 0)) (aCons (eK (.int 30)) (aCons (eK (.int 60)) (aCons (eCallP 2 m__law_draw 0 (aCons (eK (.int 100)) aNil)) (aCons (eK (.int 9990)) aNil)))))) aNil)))
noncomputable def b__law_passage : SM := (sSeq q__law_passage_2
    (sSeq q__law_passage_1
    sNil))
noncomputable def m__law_passage : GM := ofBody 1 1 b__law_passage
theorem fn__law_passage (T : Top K mg) : Callee P w K mg base 4 "_law_passage" s__law_passage ["pot"] 1 m__law_passage :=
  callee T.d__law_passage sc__law_passage rfl fun f cdv A outer s H E hgu hr hu =>
    (dss_cons (ds_set sc__law_passage.nd rfl (Or.inl rfl) (de_fnP (fn__law_pick T) hgu (hr.mono (by decide)) (by rfl) (pv 0) (da_cons (de_lst (da_cons de_int (da_cons de_int (da_cons de_int (da_cons (de_fnP (fn__law_draw T) hgu (hr.mono (by decide)) (by rfl) (pv 0) (da_cons de_int da_nil)) (da_cons de_int da_nil)))))) da_nil)))
    (dss_cons (ds_ret (de_tup (da_cons (de_var 1) (da_cons (de_callB (dc_min rfl (lu64 hu)) (by rfl) T.z_min bb_min (da_cons de_int (da_cons (de_op dop_add (de_var 1) (de_fnP (fn__law_pick T) hgu (hr.mono (by decide)) (by rfl) (pv 0) (da_cons (de_lst (da_cons de_int (da_cons de_int (da_cons (de_op dop_add de_int (de_fnP (fn__law_draw T) hgu (hr.mono (by decide)) (by rfl) (pv 0) (da_cons de_int da_nil))) (da_cons de_int da_nil))))) da_nil))) da_nil))) (da_cons (de_fnP (fn__law_pick T) hgu (hr.mono (by decide)) (by rfl) (pv 0) (da_cons (de_lst (da_cons (de_tup (da_cons de_int da_nil)) (da_cons (de_tup (da_cons de_int da_nil)) (da_cons (de_tup (da_cons de_int (da_cons de_int da_nil))) (da_cons (de_tup (da_cons de_int da_nil)) (da_cons (de_fnP (fn__law_zones T) hgu (hr.mono (by decide)) (by rfl) (pv 0) da_nil) da_nil)))))) da_nil)) da_nil)))))
    dss_nil))
abbrev N__law_passages : List Str := ["pot", "tickets", "many", "found", "turn", "one", "begin", "end", "zones", "over", "late"]
theorem sc__law_passages : FnScope N__law_passages ["pot", "tickets", "many"] (defScope s__law_passages) := ⟨rfl, rfl, rfl, by decide +kernel, rfl, by decide +kernel, by decide +kernel⟩
noncomputable def q__law_passages_1 : SM := (sSet 5 (eApp gTup (aCons (eVar 10) (aCons (eApp gMin (aCons (eK (.int 9999)) (aCons (eBin gAdd (eBin gAdd (eVar 10) (eK (.int 1))) (eCallP 2 m__law_draw 0 (aCons (eK (.int 30)) aNil))) aNil))) (aCons (eCallP 2 m__law_pick 0 (aCons (eApp gLst (aCons (eVar 8) (aCons (eBin gIx (eVar 5) (eK (.int 2))) aNil))) aNil)) aNil)))))
noncomputable def q__law_passages_2 : SM := (sSet 10 (eCallP 2 m__law_pick 0 (aCons (eApp gLst (aCons (eVar 6) (aCons (eVar 7) (aCons (eBin gSub (eVar 7) (eK (.int 1))) (aCons (eVar 9) (aCons (eBin gSub (eVar 9) (eK (.int 1))) aNil)))))) aNil)))
noncomputable def q__law_passages_3 : SM := (sIf (tAnd2 (lookT (tVal (eBin gNe (eVar 3) (eApp gLst aNil)))) (tVal (eBin gGt (eCallP 2 m__law_draw 0 (aCons (eK (.int 3)) aNil)) (eK (.int 0))))) (sSeq (sAsgD (gdTup 3 (gdCons (gdName 6) (gdCons (gdName 7) (gdCons (gdName 8) gdNil)))) (eCallPP 2 m__law_pick 0 3))
    (sSeq (sSet 9 (eBin gAdd (eVar 6) (eBin gIx (eCallP 2 m__law_pick 0 (aCons (eVar 1) aNil)) (eK (.int 2)))))
    (sSeq q__law_passages_2
    (sSeq (sIf (tVal (eBin gLt (eVar 10) (eK (.int 9999)))) (sSeq q__law_passages_1
    sNil) sNil)
    sNil)))) sNil)
noncomputable def l__law_passages_4 : SM := (sSeq (sSet 5 (eCallP 1 m__law_passage 0 aNil))
    (sSeq q__law_passages_3
    (sSeq (sExpr (eMeth opAppend 3 (aCons (eVar 5) aNil)))
    sNil)))
noncomputable def b__law_passages : SM := (sSeq (sSet 3 (eApp gLst aNil))
    (sSeq (sFor (iApp range1D (aCons (eVar 2) aNil)) (gdName 4) l__law_passages_4)
    (sSeq (sRet (eMove 3))
    sNil)))
noncomputable def m__law_passages : GM := ofBody 3 8 b__law_passages
theorem fn__law_passages (T : Top K mg) : Callee P w K mg base 5 "_law_passages" s__law_passages ["pot", "tickets", "many"] 3 m__law_passages :=
  callee T.d__law_passages sc__law_passages rfl fun f cdv A outer s H E hgu hr hu =>
    (dss_cons (ds_set sc__law_passages.nd rfl (Or.inl rfl) (de_lst da_nil))
    (dss_cons (ds_for PassesOwn.never rfl (di_range1 (by rfl) T.z_range (da_cons (de_var 2) da_nil)) (dg_name sc__law_passages.nd rfl (Or.inl rfl)) (dss_cons (ds_set sc__law_passages.nd rfl (Or.inl rfl) (de_fnP (fn__law_passage T) hgu (hr.mono (by decide)) (by rfl) (pv 0) da_nil))
    (dss_cons (ds_if (PW.pt (dw_and (dt_look (dt_cmp (dop_ne (lu64 hu)) (de_var 3) (de_lst da_nil) (by first | exact nobehind _ (by decide) (by decide) | rfl | with_unfolding_all rfl))) (dw_and1 (dt_cmp dop_gt (de_fnP (fn__law_draw T) hgu (hr.mono (by decide)) (by rfl) (pv 0) (da_cons de_int da_nil)) de_int (by first | exact nobehind _ (by decide) (by decide) | rfl | with_unfolding_all rfl))))) (dss_cons (ds_asgD (de_fnPP (fn__law_pick T) hgu (hr.mono (by decide)) (by rfl) (pv 0) (pv 3)) (dg_tup rfl (dgs_cons (dg_name sc__law_passages.nd rfl (Or.inl rfl)) (dgs_cons (dg_name sc__law_passages.nd rfl (Or.inl rfl)) (dgs_cons (dg_name sc__law_passages.nd rfl (Or.inl rfl)) dgs_nil)))))
    (dss_cons (ds_set sc__law_passages.nd rfl (Or.inl rfl) (de_op dop_add (de_var 6) (de_ix (de_fnP (fn__law_pick T) hgu (hr.mono (by decide)) (by rfl) (pv 0) (da_cons (de_var 1) da_nil)) de_int)))
    (dss_cons (ds_set sc__law_passages.nd rfl (Or.inl rfl) (de_fnP (fn__law_pick T) hgu (hr.mono (by decide)) (by rfl) (pv 0) (da_cons (de_lst (da_cons (de_var 6) (da_cons (de_var 7) (da_cons (de_op dop_sub (de_var 7) de_int) (da_cons (de_var 9) (da_cons (de_op dop_sub (de_var 9) de_int) da_nil)))))) da_nil)))
    (dss_cons (ds_if (dt_cmp (dop_lt (lu0 hu)) (de_var 10) de_int (by first | exact nobehind _ (by decide) (by decide) | rfl | with_unfolding_all rfl)) (dss_cons (ds_set sc__law_passages.nd rfl (Or.inl rfl) (de_tup (da_cons (de_var 10) (da_cons (de_callB (dc_min rfl (lu64 hu)) (by rfl) T.z_min bb_min (da_cons de_int (da_cons (de_op dop_add (de_op dop_add (de_var 10) de_int) (de_fnP (fn__law_draw T) hgu (hr.mono (by decide)) (by rfl) (pv 0) (da_cons de_int da_nil))) da_nil))) (da_cons (de_fnP (fn__law_pick T) hgu (hr.mono (by decide)) (by rfl) (pv 0) (da_cons (de_lst (da_cons (de_var 8) (da_cons (de_ix (de_var 5) de_int) da_nil))) da_nil)) da_nil)))))
    dss_nil) dss_nil)
    dss_nil)))) dss_nil)
    (dss_cons (ds_expr (de_append (pv 3) (da_cons (de_var 5) da_nil)))
    dss_nil))))
    (dss_cons (ds_ret (de_move 3))
    dss_nil)))
abbrev N__law_covers : List Str := ["ticket", "some", "word", "price", "minutes", "zones", "persons", "begins", "begin", "end", "here", "zone", "minute"]
theorem sc__law_covers : FnScope N__law_covers ["ticket", "some"] (defScope s__law_covers) := ⟨rfl, rfl, rfl, by decide +kernel, rfl, by decide +kernel, by decide +kernel⟩
noncomputable def q__law_covers_1 : SM := (sIf (tOr2 (tVal (eBin gGe (eBin gSub (eVar 8) (eApp gMin (aCons (eVar 7) aNil))) (eVar 4))) (tVal (eBin gNe (eComp [11] (iSeq (eVar 10)) (gdName 11) (tVal (eBin (gIn true) (eVar 11) (eVar 5))) (eVar 11)) (eApp gLst aNil)))) (sSeq (sRet (eK (.bool false)))
    sNil) sNil)
noncomputable def l__law_covers_2 : SM := (sSeq q__law_covers_1
    sNil)
noncomputable def q__law_covers_3 : SM := (sRet (eApp gAll (aCons (eComp [12] (iSeq (eVar 7)) (gdName 12) tAll (eBin gLe (eApp gLen (aCons (eComp [8, 9, 10] (iSeq (eVar 1)) (gdTup 3 (gdCons (gdName 8) (gdCons (gdName 9) (gdCons (gdName 10) gdNil)))) (tVal (eChain gLe gLt (eVar 8) (eVar 12) (eVar 9))) (eK (.int 1))) aNil)) (eVar 6))) aNil)))
noncomputable def b__law_covers : SM := (sSeq (sAsgD (gdTup 5 (gdCons (gdName 2) (gdCons (gdName 3) (gdCons (gdName 4) (gdCons (gdName 5) (gdCons (gdName 6) gdNil)))))) (eVar 0))
    (sSeq (sSet 7 (eComp [8, 9, 10] (iSeq (eVar 1)) (gdTup 3 (gdCons (gdName 8) (gdCons (gdName 9) (gdCons (gdName 10) gdNil)))) tAll (eVar 8)))
    (sSeq (sFor (iSeq (eVar 1)) (gdTup 3 (gdCons (gdName 8) (gdCons (gdName 9) (gdCons (gdName 10) gdNil)))) l__law_covers_2)
    (sSeq q__law_covers_3
    sNil))))
noncomputable def m__law_covers : GM := ofBody 2 11 b__law_covers
theorem fn__law_covers (T : Top K mg) : Callee P w K mg base 1 "_law_covers" s__law_covers ["ticket", "some"] 2 m__law_covers :=
  callee T.d__law_covers sc__law_covers rfl fun f cdv A outer s H E hgu hr hu =>
    (dss_cons (ds_asgD (de_var 0) (dg_tup rfl (dgs_cons (dg_name sc__law_covers.nd rfl (Or.inl rfl)) (dgs_cons (dg_name sc__law_covers.nd rfl (Or.inl rfl)) (dgs_cons (dg_name sc__law_covers.nd rfl (Or.inl rfl)) (dgs_cons (dg_name sc__law_covers.nd rfl (Or.inr rfl)) (dgs_cons (dg_name sc__law_covers.nd rfl (Or.inr rfl)) dgs_nil)))))))
    (dss_cons (ds_setComp rfl sc__law_covers.nd rfl rfl (sw_true rfl rfl rfl (by decide +kernel)) (di_seq (de_var 1)) (blkOk_by (N := N__law_covers) (sc := (defScope s__law_covers)) (own := [("begin", 8), ("end", 9), ("here", 10)]) (by decide +kernel)) rfl (fun _ _ _ _ _ => (dg_tup rfl (dgs_cons (dg_name sc__law_covers.nd rfl (Or.inl rfl)) (dgs_cons (dg_name sc__law_covers.nd rfl (Or.inl rfl)) (dgs_cons (dg_name sc__law_covers.nd rfl (Or.inl rfl)) dgs_nil))))) (fun _ _ _ _ _ => dts_nil) (fun _ _ _ _ _ => (de_var 8)))
    (dss_cons (ds_for PassesOwn.never rfl (di_seq (de_var 1)) (dg_tup rfl (dgs_cons (dg_name sc__law_covers.nd rfl (Or.inl rfl)) (dgs_cons (dg_name sc__law_covers.nd rfl (Or.inl rfl)) (dgs_cons (dg_name sc__law_covers.nd rfl (Or.inl rfl)) dgs_nil)))) (dss_cons (ds_if (PW.pt (dw_or (dt_cmp dop_ge (de_op dop_sub (de_var 8) (de_callB (dc_min rfl (lu64 hu)) (by rfl) T.z_min bb_min (da_cons (de_var 7) da_nil))) (de_var 4) (by first | exact nobehind _ (by decide) (by decide) | rfl | with_unfolding_all rfl)) (dw_or1 (dt_cmp (dop_ne (lu64 hu)) (de_comp rfl sc__law_covers.nd (di_seq (de_var 10)) (blkOk_by (N := N__law_covers) (sc := (defScope s__law_covers)) (own := [("zone", 11)]) (by decide +kernel)) rfl (fun _ _ _ _ _ => (dg_name sc__law_covers.nd rfl (Or.inl rfl))) (fun _ _ _ _ _ => (dts_one (dt_cmp (dop_notin (lu65 hu)) (de_var 11) (de_var 5) (by first | exact nobehind _ (by decide) (by decide) | rfl | with_unfolding_all rfl)))) (fun _ _ _ _ _ => (de_var 11))) (de_lst da_nil) (by first | exact nobehind _ (by decide) (by decide) | rfl | with_unfolding_all rfl))))) (dss_cons (ds_ret de_bl)
    dss_nil) dss_nil)
    dss_nil))
    (dss_cons (ds_ret (de_callB (dc_all rfl) (by rfl) T.z_all bb_all (da_cons (de_comp rfl sc__law_covers.nd (di_seq (de_var 7)) (blkOk_by (N := N__law_covers) (sc := (defScope s__law_covers)) (own := [("minute", 12)]) (by decide +kernel)) rfl (fun _ _ _ _ _ => (dg_name sc__law_covers.nd rfl (Or.inr rfl))) (fun _ _ _ _ _ => dts_nil) (fun _ _ _ _ _ => (de_cmp dop_le (de_callB dc_len (by rfl) T.z_len bb_len (da_cons (de_comp rfl sc__law_covers.nd (di_seq (de_var 1)) (blkOk_by (N := N__law_covers) (sc := ({ kind := .function, names := [(".0", .local), ("minute", .cell), ("len", .globalImplicit), ("persons", .cell), ("some", .cell)], isGenerator := false, isCoroutine := false } : Scope)) (own := [("begin", 8), ("end", 9), ("here", 10)]) (by decide +kernel)) rfl (fun _ _ _ _ _ => (dg_tup rfl (dgs_cons (dg_name sc__law_covers.nd rfl (Or.inl rfl)) (dgs_cons (dg_name sc__law_covers.nd rfl (Or.inl rfl)) (dgs_cons (dg_name sc__law_covers.nd rfl (Or.inl rfl)) dgs_nil))))) (fun _ _ _ _ _ => (dts_one (dt_chain dop_le (dop_lt (lu0 hu)) (de_var 8) (de_var 12) (de_var 9)))) (fun _ _ _ _ _ => de_int)) da_nil)) (de_var 6) (by first | exact nobehind _ (by decide) (by decide) | rfl | with_unfolding_all rfl)))) da_nil)))
    dss_nil))))
abbrev N__law_partings : List Str := ["many", "found", "place", "later", "lots", "at"]
theorem sc__law_partings : FnScope N__law_partings ["many"] (defScope s__law_partings) := ⟨rfl, rfl, rfl, by decide +kernel, rfl, by decide +kernel, by decide +kernel⟩
noncomputable def q__law_partings_1 : SM := (sExpr (eMeth opExtend 3 (aCons (eComp [5] (iApp range1D (aCons (eApp gLen (aCons (eVar 4) aNil)) aNil)) (gdName 5) tAll (eBin gAdd (eBin gAdd (eCut (eVar 4) oNone (oSome (eVar 5))) (eApp gLst (aCons (eBin gAdd (eBin gIx (eVar 4) (eVar 5)) (eApp gLst (aCons (eVar 2) aNil))) aNil))) (eCut (eVar 4) (oSome (eBin gAdd (eVar 5) (eK (.int 1)))) oNone))) aNil)))
noncomputable def l__law_partings_2 : SM := (sSeq (sExpr (eMeth opAppend 3 (aCons (eBin gAdd (eVar 4) (eApp gLst (aCons (eApp gLst (aCons (eVar 2) aNil)) aNil))) aNil)))
    (sSeq q__law_partings_1
    sNil))
noncomputable def l__law_partings_3 : SM := (sSeq (sSet 3 (eApp gLst aNil))
    (sSeq (sFor (iSeq (eVar 1)) (gdName 4) l__law_partings_2)
    (sSeq (sSet 1 (eMove 3))
    sNil)))
noncomputable def b__law_partings : SM := (sSeq (sSet 1 (eApp gLst (aCons (eApp gLst aNil) aNil)))
    (sSeq (sFor (iApp range1D (aCons (eVar 0) aNil)) (gdName 2) l__law_partings_3)
    (sSeq (sRet (eMove 1))
    sNil)))
noncomputable def m__law_partings : GM := ofBody 1 5 b__law_partings
theorem fn__law_partings (T : Top K mg) : Callee P w K mg base 1 "_law_partings" s__law_partings ["many"] 1 m__law_partings :=
  callee T.d__law_partings sc__law_partings rfl fun f cdv A outer s H E hgu hr hu =>
    (dss_cons (ds_set sc__law_partings.nd rfl (Or.inl rfl) (de_lst (da_cons (de_lst da_nil) da_nil)))
    (dss_cons (ds_for PassesOwn.never rfl (di_range1 (by rfl) T.z_range (da_cons (de_var 0) da_nil)) (dg_name sc__law_partings.nd rfl (Or.inr rfl)) (dss_cons (ds_set sc__law_partings.nd rfl (Or.inl rfl) (de_lst da_nil))
    (dss_cons (ds_for PassesOwn.never rfl (di_seq (de_var 1)) (dg_name sc__law_partings.nd rfl (Or.inr rfl)) (dss_cons (ds_expr (de_append (pv 3) (da_cons (de_op dop_add (de_var 4) (de_lst (da_cons (de_lst (da_cons (de_var 2) da_nil)) da_nil))) da_nil)))
    (dss_cons (ds_expr (de_extend (pv 3) (da_cons (de_comp rfl sc__law_partings.nd (di_range1 (by rfl) T.z_range (da_cons (de_callB dc_len (by rfl) T.z_len bb_len (da_cons (de_var 4) da_nil)) da_nil)) (blkOk_by (N := N__law_partings) (sc := (defScope s__law_partings)) (own := [("at", 5)]) (by decide +kernel)) rfl (fun _ _ _ _ _ => (dg_name sc__law_partings.nd rfl (Or.inl rfl))) (fun _ _ _ _ _ => dts_nil) (fun _ _ _ _ _ => (de_op dop_add (de_op dop_add (de_cut (de_var 4) do_none (do_some (de_var 5))) (de_lst (da_cons (de_op dop_add (de_ix (de_var 4) (de_var 5)) (de_lst (da_cons (de_var 2) da_nil))) da_nil))) (de_cut (de_var 4) (do_some (de_op dop_add (de_var 5) de_int)) do_none)))) da_nil)))
    dss_nil)))
    (dss_cons (ds_set sc__law_partings.nd rfl (Or.inl rfl) (de_move 3))
    dss_nil))))
    (dss_cons (ds_ret (de_move 1))
    dss_nil)))
abbrev N__law_single : List Str := ["tickets", "some", "prices", "ticket"]
theorem sc__law_single : FnScope N__law_single ["tickets", "some"] (defScope s__law_single) := ⟨rfl, rfl, rfl, by decide +kernel, rfl, by decide +kernel, by decide +kernel⟩
noncomputable def q__law_single_1 : SM := (sSet 2 (eComp [3] (iSeq (eVar 0)) (gdName 3) (tVal (eCall 2 m__law_covers (aCons (eVar 3) (aCons (eVar 1) aNil)))) (eBin gIx (eVar 3) (eK (.int 1)))))
noncomputable def b__law_single : SM := (sSeq q__law_single_1
    (sSeq (sRet (eIf (tVal (eBin gNe (eVar 2) (eApp gLst aNil))) (eApp gMin (aCons (eVar 2) aNil)) (eK .none)))
    sNil))
noncomputable def m__law_single : GM := ofBody 2 2 b__law_single
theorem fn__law_single (T : Top K mg) : Callee P w K mg base 2 "_law_single" s__law_single ["tickets", "some"] 2 m__law_single :=
  callee T.d__law_single sc__law_single rfl fun f cdv A outer s H E hgu hr hu =>
    (dss_cons (ds_setComp rfl sc__law_single.nd rfl rfl (sw_true rfl rfl rfl (by decide +kernel)) (di_seq (de_var 0)) (blkOk_by (N := N__law_single) (sc := (defScope s__law_single)) (own := [("ticket", 3)]) (by decide +kernel)) rfl (fun _ _ _ _ _ => (dg_name sc__law_single.nd rfl (Or.inl rfl))) (fun _ _ _ _ _ => (dts_one (dt_val (de_fn (fn__law_covers T) hgu (hr.mono (by decide)) (by rfl) (da_cons (de_var 3) (da_cons (de_var 1) da_nil)))))) (fun _ _ _ _ _ => (de_ix (de_var 3) de_int)))
    (dss_cons (ds_ret (de_if (dt_cmp (dop_ne (lu64 hu)) (de_var 2) (de_lst da_nil) (by first | exact nobehind _ (by decide) (by decide) | rfl | with_unfolding_all rfl)) (de_callB (dc_min rfl (lu64 hu)) (by rfl) T.z_min bb_min (da_cons (de_var 2) da_nil)) de_non))
    dss_nil))
abbrev N__law_cheapest : List Str := ["tickets", "passages", "least", "known", "lots", "prices", "lot", "place"]
theorem sc__law_cheapest : FnScope N__law_cheapest ["tickets", "passages"] (defScope s__law_cheapest) := ⟨rfl, rfl, rfl, by decide +kernel, rfl, by decide +kernel, by decide +kernel⟩
noncomputable def q__law_cheapest_1 : SM := (sDPut 3 (eApp gTuple (aCons (eVar 6) aNil)) (eCall 2 m__law_single (aCons (eVar 0) (aCons (eComp [7] (iSeq (eVar 6)) (gdName 7) tAll (eBin gIx (eVar 1) (eVar 7))) aNil))))
noncomputable def l__law_cheapest_2 : SM := (sSeq (sIf (tDNot 3 (eApp gTuple (aCons (eVar 6) aNil))) (sSeq q__law_cheapest_1
    sNil) sNil)
    (sSeq (sExpr (eMeth opAppend 5 (aCons (eDGet 3 (eApp gTuple (aCons (eVar 6) aNil))) aNil)))
    sNil))
noncomputable def q__law_cheapest_3 : SM := (sIf (lookT (tAnd2 (tVal (eBin (gIn true) (eK .none) (eVar 5))) (tOr2 (tVal (eBin (gIsB false) (eVar 2) (eK .none))) (tVal (eBin gLt (eApp gSum (aCons (eVar 5) aNil)) (eVar 2)))))) (sSeq (sSet 2 (look (eApp gSum (aCons (eVar 5) aNil))))
    sNil) sNil)
noncomputable def l__law_cheapest_4 : SM := (sSeq (sSet 5 (eApp gLst aNil))
    (sSeq (sFor (iSeq (eVar 4)) (gdName 6) l__law_cheapest_2)
    (sSeq q__law_cheapest_3
    sNil)))
noncomputable def b__law_cheapest : SM := (sSeq (sParNew 2 3 (eK .none))
    (sSeq (sFor (iSeq (eCall 1 m__law_partings (aCons (eApp gLen (aCons (eVar 1) aNil)) aNil))) (gdName 4) l__law_cheapest_4)
    (sSeq (sRet (eMove 2))
    sNil)))
noncomputable def m__law_cheapest : GM := ofBody 2 6 b__law_cheapest
theorem fn__law_cheapest (T : Top K mg) : Callee P w K mg base 3 "_law_cheapest" s__law_cheapest ["tickets", "passages"] 2 m__law_cheapest :=
  callee T.d__law_cheapest sc__law_cheapest rfl fun f cdv A outer s H E hgu hr hu =>
    (dss_cons (ds_parNew rfl sc__law_cheapest.nd rfl rfl (by decide) rfl rfl de_non)
    (dss_cons (ds_for PassesOwn.never rfl (di_seq (de_fn (fn__law_partings T) hgu (hr.mono (by decide)) (by rfl) (da_cons (de_callB dc_len (by rfl) T.z_len bb_len (da_cons (de_var 1) da_nil)) da_nil))) (dg_name sc__law_cheapest.nd rfl (Or.inl rfl)) (dss_cons (ds_set sc__law_cheapest.nd rfl (Or.inl rfl) (de_lst da_nil))
    (dss_cons (ds_for PassesOwn.never rfl (di_seq (de_var 4)) (dg_name sc__law_cheapest.nd rfl (Or.inl rfl)) (dss_cons (ds_if (dt_dnot (lu64 hu) (de_callTy dc_tuple (by rfl) T.z_tuple bb_tuple (da_cons (de_var 6) da_nil)) (pv 3)) (dss_cons (ds_dput (lu64 hu) (pv 3) (de_callTy dc_tuple (by rfl) T.z_tuple bb_tuple (da_cons (de_var 6) da_nil)) (de_fn (fn__law_single T) hgu (hr.mono (by decide)) (by rfl) (da_cons (de_var 0) (da_cons (de_comp rfl sc__law_cheapest.nd (di_seq (de_var 6)) (blkOk_by (N := N__law_cheapest) (sc := (defScope s__law_cheapest)) (own := [("place", 7)]) (by decide +kernel)) rfl (fun _ _ _ _ _ => (dg_name sc__law_cheapest.nd rfl (Or.inl rfl))) (fun _ _ _ _ _ => dts_nil) (fun _ _ _ _ _ => (de_ix (de_var 1) (de_var 7)))) da_nil))))
    dss_nil) dss_nil)
    (dss_cons (ds_expr (de_append (pv 5) (da_cons (de_dget (lu64 hu) (pv 3) (de_callTy dc_tuple (by rfl) T.z_tuple bb_tuple (da_cons (de_var 6) da_nil))) da_nil)))
    dss_nil)))
    (dss_cons (ds_if (dt_look (PW.pt (dw_and (dt_cmp (dop_notin (lu65 hu)) de_non (de_var 5) (by first | exact nobehind _ (by decide) (by decide) | rfl | with_unfolding_all rfl)) (dw_and1 (PW.pt (dw_or (dt_cmp dop_isB (de_var 2) de_non (by first | exact nobehind _ (by decide) (by decide) | rfl | with_unfolding_all rfl)) (dw_or1 (dt_cmp (dop_lt (lu0 hu)) (de_callB (dc_sum rfl) (by rfl) T.z_sum bb_sum (da_cons (de_var 5) da_nil)) (de_var 2) (by first | exact nobehind _ (by decide) (by decide) | rfl | with_unfolding_all rfl))))))))) (dss_cons (ds_set sc__law_cheapest.nd rfl (Or.inl rfl) (de_look (de_callB (dc_sum rfl) (by rfl) T.z_sum bb_sum (da_cons (de_var 5) da_nil))))
    dss_nil) dss_nil)
    dss_nil))))
    (dss_cons (ds_ret (de_move 2))
    dss_nil)))
abbrev N__law_is_place : List Str := ["value", "many"]
theorem sc__law_is_place : FnScope N__law_is_place ["value", "many"] (defScope s__law_is_place) := ⟨rfl, rfl, rfl, by decide +kernel, rfl, by decide +kernel, by decide +kernel⟩
noncomputable def b__law_is_place : SM := (sSeq (sRet (eAnd (eIsi "int" (eVar 0)) (eAnd (eNot (eIsi "bool" (eVar 0))) (eChain gLe gLt (eK (.int 0)) (eVar 0) (eVar 1)))))
    sNil)
noncomputable def m__law_is_place : GM := ofBody 2 0 b__law_is_place
theorem fn__law_is_place (T : Top K mg) : Callee P w K mg base 1 "_law_is_place" s__law_is_place ["value", "many"] 2 m__law_is_place :=
  callee T.d__law_is_place sc__law_is_place rfl fun f cdv A outer s H E hgu hr hu =>
    (dss_cons (ds_ret (de_and (de_isi "int" (de_var 0) (by rfl) T.z_isinstance bb_isinstance (by rfl) T.z_int bb_int) (de_and (de_not (de_isi "bool" (de_var 0) (by rfl) T.z_isinstance bb_isinstance (by rfl) T.z_bool bb_bool)) (de_one (de_chain dop_le (dop_lt (lu0 hu)) de_int (de_var 0) (de_var 1))))))
    dss_nil)
abbrev N__law_is_cover : List Str := ["tickets", "passages", "value", "met", "one", "place"]
theorem sc__law_is_cover : FnScope N__law_is_cover ["tickets", "passages", "value"] (defScope s__law_is_cover) := ⟨rfl, rfl, rfl, by decide +kernel, rfl, by decide +kernel, by decide +kernel⟩
noncomputable def q__law_is_cover_1 : SM := (sIf (tOr2 (tVal (eBin gNe (eApp gList (aCons (eBin gIx (eVar 4) (eK (.int 1))) aNil)) (eSortSet (eBin gIx (eVar 4) (eK (.int 1)))))) (tNot2 (tVal (eCall 2 m__law_covers (aCons (eBin gIx (eVar 0) (eBin gIx (eVar 4) (eK (.int 0)))) (aCons (eComp [5] (iSeq (eBin gIx (eVar 4) (eK (.int 1)))) (gdName 5) tAll (eBin gIx (eVar 1) (eVar 5))) aNil)))))) (sSeq (sRet (eK (.bool false)))
    sNil) sNil)
noncomputable def q__law_is_cover_2 : SM := (sIf (tOr2 (tNot2 (tVal (eIsi "tuple" (eBin gIx (eVar 4) (eK (.int 1)))))) (tOr2 (tVal (eBin gEq (eBin gIx (eVar 4) (eK (.int 1))) (eApp gTup aNil))) (tNot2 (tVal (eApp gAll (aCons (eComp [5] (iSeq (eBin gIx (eVar 4) (eK (.int 1)))) (gdName 5) tAll (eCall 2 m__law_is_place (aCons (eVar 5) (aCons (eApp gLen (aCons (eVar 1) aNil)) aNil)))) aNil)))))) (sSeq (sRet (eK (.bool false)))
    sNil) sNil)
noncomputable def q__law_is_cover_3 : SM := (sIf (tOr2 (tNot2 (tVal (eIsi "tuple" (eVar 4)))) (tOr2 (tVal (eBin gNe (eApp gLen (aCons (eVar 4) aNil)) (eK (.int 2)))) (tNot2 (tVal (eCall 2 m__law_is_place (aCons (eBin gIx (eVar 4) (eK (.int 0))) (aCons (eApp gLen (aCons (eVar 0) aNil)) aNil))))))) (sSeq (sRet (eK (.bool false)))
    sNil) sNil)
noncomputable def l__law_is_cover_4 : SM := (sSeq q__law_is_cover_3
    (sSeq q__law_is_cover_2
    (sSeq q__law_is_cover_1
    (sSeq (sExpr (eMeth opExtend 3 (aCons (eBin gIx (eVar 4) (eK (.int 1))) aNil)))
    sNil))))
noncomputable def b__law_is_cover : SM := (sSeq (sIf (tNot2 (tVal (eIsi2 "list" "tuple" (eVar 2)))) (sSeq (sRet (eK (.bool false)))
    sNil) sNil)
    (sSeq (sSet 3 (eApp gLst aNil))
    (sSeq (sFor (iSeq (eVar 2)) (gdName 4) l__law_is_cover_4)
    (sSeq (sRet (eBin gEq (eApp gSorted (aCons (eVar 3) aNil)) (eListR1 (eApp gLen (aCons (eVar 1) aNil)))))
    sNil))))
noncomputable def m__law_is_cover : GM := ofBody 3 3 b__law_is_cover
theorem fn__law_is_cover (T : Top K mg) : Callee P w K mg base 2 "_law_is_cover" s__law_is_cover ["tickets", "passages", "value"] 3 m__law_is_cover :=
  callee T.d__law_is_cover sc__law_is_cover rfl fun f cdv A outer s H E hgu hr hu =>
    (dss_cons (ds_if (dt_not (dt_val (de_isi2 "list" "tuple" (de_var 2) (by rfl) T.z_isinstance bb_isinstance (by rfl) T.z_list bb_list (by rfl) T.z_tuple bb_tuple))) (dss_cons (ds_ret de_bl)
    dss_nil) dss_nil)
    (dss_cons (ds_set sc__law_is_cover.nd rfl (Or.inl rfl) (de_lst da_nil))
    (dss_cons (ds_for PassesOwn.never rfl (di_seq (de_var 2)) (dg_name sc__law_is_cover.nd rfl (Or.inl rfl)) (dss_cons (ds_if (PW.pt (dw_or (dt_not (dt_val (de_isi "tuple" (de_var 4) (by rfl) T.z_isinstance bb_isinstance (by rfl) T.z_tuple bb_tuple))) (dw_or (dt_cmp (dop_ne (lu64 hu)) (de_callB dc_len (by rfl) T.z_len bb_len (da_cons (de_var 4) da_nil)) de_int (by first | exact nobehind _ (by decide) (by decide) | rfl | with_unfolding_all rfl)) (dw_or1 (dt_not (dt_val (de_fn (fn__law_is_place T) hgu (hr.mono (by decide)) (by rfl) (da_cons (de_ix (de_var 4) de_int) (da_cons (de_callB dc_len (by rfl) T.z_len bb_len (da_cons (de_var 0) da_nil)) da_nil))))))))) (dss_cons (ds_ret de_bl)
    dss_nil) dss_nil)
    (dss_cons (ds_if (PW.pt (dw_or (dt_not (dt_val (de_isi "tuple" (de_ix (de_var 4) de_int) (by rfl) T.z_isinstance bb_isinstance (by rfl) T.z_tuple bb_tuple))) (dw_or (dt_cmp (dop_eq (lu64 hu)) (de_ix (de_var 4) de_int) (de_tup da_nil) (by first | exact nobehind _ (by decide) (by decide) | rfl | with_unfolding_all rfl)) (dw_or1 (dt_not (dt_val (de_callB (dc_all rfl) (by rfl) T.z_all bb_all (da_cons (de_comp rfl sc__law_is_cover.nd (di_seq (de_ix (de_var 4) de_int)) (blkOk_by (N := N__law_is_cover) (sc := (defScope s__law_is_cover)) (own := [("place", 5)]) (by decide +kernel)) rfl (fun _ _ _ _ _ => (dg_name sc__law_is_cover.nd rfl (Or.inl rfl))) (fun _ _ _ _ _ => dts_nil) (fun _ _ _ _ _ => (de_fn (fn__law_is_place T) hgu (hr.mono (by decide)) (by rfl) (da_cons (de_var 5) (da_cons (de_callB dc_len (by rfl) T.z_len bb_len (da_cons (de_var 1) da_nil)) da_nil))))) da_nil)))))))) (dss_cons (ds_ret de_bl)
    dss_nil) dss_nil)
    (dss_cons (ds_if (PW.pt (dw_or (dt_cmp (dop_ne (lu64 hu)) (de_callTy dc_list (by rfl) T.z_list bb_list (da_cons (de_ix (de_var 4) de_int) da_nil)) (de_sortSet rfl (de_ix (de_var 4) de_int) (by rfl) T.z_sorted bb_sorted (by rfl) T.z_set bb_set) (by first | exact nobehind _ (by decide) (by decide) | rfl | with_unfolding_all rfl)) (dw_or1 (dt_not (dt_val (de_fn (fn__law_covers T) hgu (hr.mono (by decide)) (by rfl) (da_cons (de_ix (de_var 0) (de_ix (de_var 4) de_int)) (da_cons (de_comp rfl sc__law_is_cover.nd (di_seq (de_ix (de_var 4) de_int)) (blkOk_by (N := N__law_is_cover) (sc := (defScope s__law_is_cover)) (own := [("place", 5)]) (by decide +kernel)) rfl (fun _ _ _ _ _ => (dg_name sc__law_is_cover.nd rfl (Or.inl rfl))) (fun _ _ _ _ _ => dts_nil) (fun _ _ _ _ _ => (de_ix (de_var 1) (de_var 5)))) da_nil)))))))) (dss_cons (ds_ret de_bl)
    dss_nil) dss_nil)
    (dss_cons (ds_expr (de_extend (pv 3) (da_cons (de_ix (de_var 4) de_int) da_nil)))
    dss_nil)))))
    (dss_cons (ds_ret (de_cmp (dop_eq (lu64 hu)) (de_callB dc_sorted (by rfl) T.z_sorted bb_sorted (da_cons (de_var 3) da_nil)) (de_listR1 rfl (by rfl) T.z_list (by rfl) T.z_range (de_callB dc_len (by rfl) T.z_len bb_len (da_cons (de_var 1) da_nil))) (by first | exact nobehind _ (by decide) (by decide) | rfl | with_unfolding_all rfl)))
    dss_nil))))
abbrev N__law_bent : List Str := ["pot", "tickets", "passages", "cover", "found", "at", "to", "way", "kind", "lot", "both", "place", "one"]
theorem sc__law_bent : FnScope N__law_bent ["pot", "tickets", "passages", "cover"] (defScope s__law_bent) := ⟨rfl, rfl, rfl, by decide +kernel, rfl, by decide +kernel, by decide +kernel⟩
noncomputable def q__law_bent_1 : SM := (sRet (eCallP 2 m__law_pick 0 (aCons (eApp gLst (aCons (eApp gLst (aCons (eApp gTup (aCons (eK (.int 0)) (aCons (eApp gTup aNil) aNil))) aNil)) (aCons (eK .none) (aCons (eK (.str "")) (aCons (eApp gLst (aCons (eApp gTup aNil) aNil)) (aCons eNod (aCons (eK (.int 0)) (aCons (eApp gTup aNil) (aCons (eApp gLst (aCons (eApp gTup (aCons (eK (.int 0)) (aCons (eApp gTup (aCons (eK (.int 0)) aNil)) aNil))) aNil)) aNil))))))))) aNil)))
noncomputable def q__law_bent_2 : SM := (sAsgD (gdIx 4 (eVar 5)) (eCallP 2 m__law_pick 0 (aCons (eApp gLst (aCons (eApp gTup (aCons (eVar 8) (aCons (eApp gList (aCons (eVar 9) aNil)) aNil))) (aCons (eApp gLst (aCons (eVar 8) (aCons (eVar 9) aNil))) (aCons (eApp gTup (aCons (eVar 8) aNil)) (aCons (eApp gTup (aCons (eVar 8) (aCons (eVar 9) (aCons (eK (.int 0)) aNil)))) (aCons (eApp gTup (aCons (eK (.bool true)) (aCons (eVar 9) aNil))) (aCons (eApp gTup (aCons (eApp gStr1 (aCons (eVar 8) aNil)) (aCons (eVar 9) aNil))) (aCons (eApp gTup (aCons (eApp gLen (aCons (eVar 1) aNil)) (aCons (eVar 9) aNil))) (aCons (eApp gTup (aCons (eNeg (eK (.int 1))) (aCons (eVar 9) aNil))) aNil))))))))) aNil)))
noncomputable def q__law_bent_3 : SM := (sAsgD (gdIx 4 (eVar 5)) (eApp gTup (aCons (eVar 8) (aCons (eBin gAdd (eVar 9) (eApp gTup (aCons (eCallP 2 m__law_draw 0 (aCons (eApp gLen (aCons (eVar 2) aNil)) aNil)) aNil))) aNil))))
noncomputable def q__law_bent_4 : SM := (sSet 4 (eBin gAdd (eComp [11, 12] (iApp enum1D (aCons (eVar 4) aNil)) (gdTup 2 (gdCons (gdName 11) (gdCons (gdName 12) gdNil))) (tVal (eBin (gIn true) (eVar 11) (eApp gTup (aCons (eVar 5) (aCons (eVar 6) aNil))))) (eVar 12)) (eApp gLst (aCons (eApp gTup (aCons (eCallP 2 m__law_draw 0 (aCons (eApp gLen (aCons (eVar 1) aNil)) aNil)) (aCons (eVar 10) aNil))) aNil))))
noncomputable def q__law_bent_5 : SM := (sSet 4 (eBin gAdd (eBin gAdd (eCut (eVar 4) oNone (oSome (eVar 5))) (eApp gLst (aCons (eApp gTup (aCons (eVar 8) (aCons (eCut (eVar 9) oNone (oSome (eK (.int 1)))) aNil))) (aCons (eApp gTup (aCons (eVar 8) (aCons (eCut (eVar 9) (oSome (eK (.int 1))) oNone) aNil))) aNil)))) (eCut (eVar 4) (oSome (eBin gAdd (eVar 5) (eK (.int 1)))) oNone)))
noncomputable def q__law_bent_6 : SM := (sAsgD (gdIx 4 (eVar 5)) (eApp gTup (aCons (eVar 8) (aCons (eApp gTuple (aCons (eComp [11] (iSeq (eVar 9)) (gdName 11) tAll (eCallP 2 m__law_pick 0 (aCons (eApp gLst (aCons (eVar 11) (aCons (eK (.bool true)) (aCons (eK .none) (aCons (eApp gLen (aCons (eVar 2) aNil)) aNil))))) aNil))) aNil)) aNil))))
noncomputable def q__law_bent_7 : SM := (sRet (eBin gAdd (eVar 4) (eApp gLst (aCons (eCallP 2 m__law_pick 0 (aCons (eApp gLst (aCons (eApp gTup (aCons (eK (.int 0)) (aCons (eApp gTup aNil) aNil))) (aCons (eK .none) (aCons (eApp gTup aNil) (aCons (eK (.str "0")) (aCons (eApp gTup (aCons (eK (.int 0)) (aCons (eApp gTup (aCons (eApp gLen (aCons (eVar 2) aNil)) aNil)) aNil))) aNil)))))) aNil)) aNil))))
noncomputable def q__law_bent_8 : SM := (sIf (tVal (eBin gEq (eVar 7) (eK (.int 9)))) (sSeq q__law_bent_6
    sNil) (sSeq (sIf (tVal (eBin gEq (eVar 7) (eK (.int 10)))) (sSeq (sRet (eApp gTuple (aCons (eRevL (eVar 4)) aNil)))
    sNil) (sSeq q__law_bent_7
    sNil))
    sNil))
noncomputable def q__law_bent_9 : SM := (sIf (tAnd2 (tVal (eBin gEq (eVar 7) (eK (.int 8)))) (tVal (eBin gGt (eApp gLen (aCons (eVar 9) aNil)) (eK (.int 1))))) (sSeq q__law_bent_5
    sNil) (sSeq q__law_bent_8
    sNil))
noncomputable def q__law_bent_10 : SM := (sIf (tAnd2 (tVal (eBin gEq (eVar 7) (eK (.int 7)))) (tVal (eBin gNe (eVar 5) (eVar 6)))) (sSeq (sSet 10 (eApp gTuple (aCons (eApp gSorted (aCons (eBin gAdd (eVar 9) (eBin gIx (eIxN 4 (eVar 6)) (eK (.int 1)))) aNil)) aNil)))
    (sSeq q__law_bent_4
    sNil)) (sSeq q__law_bent_9
    sNil))
noncomputable def q__law_bent_11 : SM := (sIf (tVal (eBin gEq (eVar 7) (eK (.int 6)))) (sSeq (sAsgD (gdIx 4 (eVar 5)) (eApp gTup (aCons (eVar 8) (aCons (eCut (eVar 9) (oSome (eK (.int 1))) oNone) aNil))))
    sNil) (sSeq q__law_bent_10
    sNil))
noncomputable def q__law_bent_12 : SM := (sIf (tVal (eBin gEq (eVar 7) (eK (.int 4)))) (sSeq q__law_bent_2
    sNil) (sSeq (sIf (tVal (eBin gEq (eVar 7) (eK (.int 5)))) (sSeq q__law_bent_3
    sNil) (sSeq q__law_bent_11
    sNil))
    sNil))
noncomputable def q__law_bent_13 : SM := (sIf (tVal (eBin gEq (eVar 7) (eK (.int 3)))) (sSeq (sAsgD (gdIx 4 (eVar 5)) (eApp gTup (aCons (eVar 8) (aCons (eRevT (eVar 9)) aNil))))
    sNil) (sSeq q__law_bent_12
    sNil))
noncomputable def q__law_bent_14 : SM := (sIf (tVal (eBin gEq (eVar 7) (eK (.int 2)))) (sSeq (sAsgD (gdIx 4 (eVar 5)) (eApp gTup (aCons (eCallP 2 m__law_draw 0 (aCons (eApp gLen (aCons (eVar 1) aNil)) aNil)) (aCons (eVar 9) aNil))))
    sNil) (sSeq q__law_bent_13
    sNil))
noncomputable def q__law_bent_15 : SM := (sIf (tVal (eBin gEq (eVar 7) (eK (.int 0)))) (sSeq (sRet (eBin gAdd (eCut (eVar 4) oNone (oSome (eVar 5))) (eCut (eVar 4) (oSome (eBin gAdd (eVar 5) (eK (.int 1)))) oNone)))
    sNil) sNil)
noncomputable def q__law_bent_16 : SM := (sAsgD (gdTup 3 (gdCons (gdName 5) (gdCons (gdName 6) (gdCons (gdName 7) gdNil)))) (eApp gTup (aCons (eCallP 2 m__law_draw 0 (aCons (look (eApp gLen (aCons (eVar 4) aNil))) aNil)) (aCons (eCallP 2 m__law_draw 0 (aCons (look (eApp gLen (aCons (eVar 4) aNil))) aNil)) (aCons (eCallP 2 m__law_draw 0 (aCons (eK (.int 12)) aNil)) aNil)))))
noncomputable def b__law_bent : SM := (sSeq (sSet 4 (eApp gList (aCons (eVar 3) aNil)))
    (sSeq (sIf (lookT (tVal (eBin gEq (eVar 4) (eApp gLst aNil)))) (sSeq q__law_bent_1
    sNil) sNil)
    (sSeq q__law_bent_16
    (sSeq (sAsgD (gdTup 2 (gdCons (gdName 8) (gdCons (gdName 9) gdNil))) (eIxN 4 (eVar 5)))
    (sSeq q__law_bent_15
    (sSeq (sIf (tVal (eBin gEq (eVar 7) (eK (.int 1)))) (sSeq (sRet (eBin gAdd (eVar 4) (eApp gLst (aCons (eBin gIx (eVar 4) (eVar 5)) aNil))))
    sNil) sNil)
    (sSeq q__law_bent_14
    (sSeq (sRet (eMove 4))
    sNil))))))))
noncomputable def m__law_bent : GM := ofBody 4 9 b__law_bent
theorem fn__law_bent (T : Top K mg) : Callee P w K mg base 3 "_law_bent" s__law_bent ["pot", "tickets", "passages", "cover"] 4 m__law_bent :=
  callee T.d__law_bent sc__law_bent rfl fun f cdv A outer s H E hgu hr hu =>
    (dss_cons (ds_set sc__law_bent.nd rfl (Or.inl rfl) (de_callTy dc_list (by rfl) T.z_list bb_list (da_cons (de_var 3) da_nil)))
    (dss_cons (ds_if (dt_look (dt_cmp (dop_eq (lu64 hu)) (de_var 4) (de_lst da_nil) (by first | exact nobehind _ (by decide) (by decide) | rfl | with_unfolding_all rfl))) (dss_cons (ds_ret (de_fnP (fn__law_pick T) hgu (hr.mono (by decide)) (by rfl) (pv 0) (da_cons (de_lst (da_cons (de_lst (da_cons (de_tup (da_cons de_int (da_cons (de_tup da_nil) da_nil))) da_nil)) (da_cons de_non (da_cons de_str (da_cons (de_lst (da_cons (de_tup da_nil) da_nil)) (da_cons de_nod (da_cons de_int (da_cons (de_tup da_nil) (da_cons (de_lst (da_cons (de_tup (da_cons de_int (da_cons (de_tup (da_cons de_int da_nil)) da_nil))) da_nil)) da_nil))))))))) da_nil)))
    dss_nil) dss_nil)
    (dss_cons (ds_asgD (de_tup (da_cons (de_fnP (fn__law_draw T) hgu (hr.mono (by decide)) (by rfl) (pv 0) (da_cons (de_look (de_callB dc_len (by rfl) T.z_len bb_len (da_cons (de_var 4) da_nil))) da_nil)) (da_cons (de_fnP (fn__law_draw T) hgu (hr.mono (by decide)) (by rfl) (pv 0) (da_cons (de_look (de_callB dc_len (by rfl) T.z_len bb_len (da_cons (de_var 4) da_nil))) da_nil)) (da_cons (de_fnP (fn__law_draw T) hgu (hr.mono (by decide)) (by rfl) (pv 0) (da_cons de_int da_nil)) da_nil)))) (dg_tup rfl (dgs_cons (dg_name sc__law_bent.nd rfl (Or.inr rfl)) (dgs_cons (dg_name sc__law_bent.nd rfl (Or.inr rfl)) (dgs_cons (dg_name sc__law_bent.nd rfl (Or.inl rfl)) dgs_nil)))))
    (dss_cons (ds_asgD (de_ixN (pv 4) (de_var 5)) (dg_tup rfl (dgs_cons (dg_name sc__law_bent.nd rfl (Or.inl rfl)) (dgs_cons (dg_name sc__law_bent.nd rfl (Or.inl rfl)) dgs_nil))))
    (dss_cons (ds_if (dt_cmp (dop_eq (lu64 hu)) (de_var 7) de_int (by first | exact nobehind _ (by decide) (by decide) | rfl | with_unfolding_all rfl)) (dss_cons (ds_ret (de_op dop_add (de_cut (de_var 4) do_none (do_some (de_var 5))) (de_cut (de_var 4) (do_some (de_op dop_add (de_var 5) de_int)) do_none)))
    dss_nil) dss_nil)
    (dss_cons (ds_if (dt_cmp (dop_eq (lu64 hu)) (de_var 7) de_int (by first | exact nobehind _ (by decide) (by decide) | rfl | with_unfolding_all rfl)) (dss_cons (ds_ret (de_op dop_add (de_var 4) (de_lst (da_cons (de_ix (de_var 4) (de_var 5)) da_nil))))
    dss_nil) dss_nil)
    (dss_cons (ds_if (dt_cmp (dop_eq (lu64 hu)) (de_var 7) de_int (by first | exact nobehind _ (by decide) (by decide) | rfl | with_unfolding_all rfl)) (dss_cons (ds_asgD (de_tup (da_cons (de_fnP (fn__law_draw T) hgu (hr.mono (by decide)) (by rfl) (pv 0) (da_cons (de_callB dc_len (by rfl) T.z_len bb_len (da_cons (de_var 1) da_nil)) da_nil)) (da_cons (de_var 9) da_nil))) (dg_ix (pv 4) (de_var 5)))
    dss_nil) (dss_cons (ds_if (dt_cmp (dop_eq (lu64 hu)) (de_var 7) de_int (by first | exact nobehind _ (by decide) (by decide) | rfl | with_unfolding_all rfl)) (dss_cons (ds_asgD (de_tup (da_cons (de_var 8) (da_cons (de_revT (de_var 9)) da_nil))) (dg_ix (pv 4) (de_var 5)))
    dss_nil) (dss_cons (ds_if (dt_cmp (dop_eq (lu64 hu)) (de_var 7) de_int (by first | exact nobehind _ (by decide) (by decide) | rfl | with_unfolding_all rfl)) (dss_cons (ds_asgD (de_fnP (fn__law_pick T) hgu (hr.mono (by decide)) (by rfl) (pv 0) (da_cons (de_lst (da_cons (de_tup (da_cons (de_var 8) (da_cons (de_callTy dc_list (by rfl) T.z_list bb_list (da_cons (de_var 9) da_nil)) da_nil))) (da_cons (de_lst (da_cons (de_var 8) (da_cons (de_var 9) da_nil))) (da_cons (de_tup (da_cons (de_var 8) da_nil)) (da_cons (de_tup (da_cons (de_var 8) (da_cons (de_var 9) (da_cons de_int da_nil)))) (da_cons (de_tup (da_cons de_bl (da_cons (de_var 9) da_nil))) (da_cons (de_tup (da_cons (de_callTy dc_str (by rfl) T.z_str bb_str (da_cons (de_var 8) da_nil)) (da_cons (de_var 9) da_nil))) (da_cons (de_tup (da_cons (de_callB dc_len (by rfl) T.z_len bb_len (da_cons (de_var 1) da_nil)) (da_cons (de_var 9) da_nil))) (da_cons (de_tup (da_cons (de_neg de_int) (da_cons (de_var 9) da_nil))) da_nil))))))))) da_nil)) (dg_ix (pv 4) (de_var 5)))
    dss_nil) (dss_cons (ds_if (dt_cmp (dop_eq (lu64 hu)) (de_var 7) de_int (by first | exact nobehind _ (by decide) (by decide) | rfl | with_unfolding_all rfl)) (dss_cons (ds_asgD (de_tup (da_cons (de_var 8) (da_cons (de_op dop_add (de_var 9) (de_tup (da_cons (de_fnP (fn__law_draw T) hgu (hr.mono (by decide)) (by rfl) (pv 0) (da_cons (de_callB dc_len (by rfl) T.z_len bb_len (da_cons (de_var 2) da_nil)) da_nil)) da_nil))) da_nil))) (dg_ix (pv 4) (de_var 5)))
    dss_nil) (dss_cons (ds_if (dt_cmp (dop_eq (lu64 hu)) (de_var 7) de_int (by first | exact nobehind _ (by decide) (by decide) | rfl | with_unfolding_all rfl)) (dss_cons (ds_asgD (de_tup (da_cons (de_var 8) (da_cons (de_cut (de_var 9) (do_some de_int) do_none) da_nil))) (dg_ix (pv 4) (de_var 5)))
    dss_nil) (dss_cons (ds_if (PW.pt (dw_and (dt_cmp (dop_eq (lu64 hu)) (de_var 7) de_int (by first | exact nobehind _ (by decide) (by decide) | rfl | with_unfolding_all rfl)) (dw_and1 (dt_cmp (dop_ne (lu64 hu)) (de_var 5) (de_var 6) (by first | exact nobehind _ (by decide) (by decide) | rfl | with_unfolding_all rfl))))) (dss_cons (ds_set sc__law_bent.nd rfl (Or.inl rfl) (de_callTy dc_tuple (by rfl) T.z_tuple bb_tuple (da_cons (de_callB dc_sorted (by rfl) T.z_sorted bb_sorted (da_cons (de_op dop_add (de_var 9) (de_ix (de_ixN (pv 4) (de_var 6)) de_int)) da_nil)) da_nil)))
    (dss_cons (ds_set sc__law_bent.nd rfl (Or.inl rfl) (de_op dop_add (de_comp rfl sc__law_bent.nd (di_enum (by rfl) T.z_enumerate (da_cons (de_var 4) da_nil)) (blkOk_by (N := N__law_bent) (sc := (defScope s__law_bent)) (own := [("place", 11), ("one", 12)]) (by decide +kernel)) rfl (fun _ _ _ _ _ => (dg_tup rfl (dgs_cons (dg_name sc__law_bent.nd rfl (Or.inl rfl)) (dgs_cons (dg_name sc__law_bent.nd rfl (Or.inl rfl)) dgs_nil)))) (fun _ _ _ _ _ => (dts_one (dt_cmp (dop_notin (lu65 hu)) (de_var 11) (de_tup (da_cons (de_var 5) (da_cons (de_var 6) da_nil))) (by first | exact nobehind _ (by decide) (by decide) | rfl | with_unfolding_all rfl)))) (fun _ _ _ _ _ => (de_var 12))) (de_lst (da_cons (de_tup (da_cons (de_fnP (fn__law_draw T) hgu (hr.mono (by decide)) (by rfl) (pv 0) (da_cons (de_callB dc_len (by rfl) T.z_len bb_len (da_cons (de_var 1) da_nil)) da_nil)) (da_cons (de_var 10) da_nil))) da_nil))))
    dss_nil)) (dss_cons (ds_if (PW.pt (dw_and (dt_cmp (dop_eq (lu64 hu)) (de_var 7) de_int (by first | exact nobehind _ (by decide) (by decide) | rfl | with_unfolding_all rfl)) (dw_and1 (dt_cmp dop_gt (de_callB dc_len (by rfl) T.z_len bb_len (da_cons (de_var 9) da_nil)) de_int (by first | exact nobehind _ (by decide) (by decide) | rfl | with_unfolding_all rfl))))) (dss_cons (ds_set sc__law_bent.nd rfl (Or.inl rfl) (de_op dop_add (de_op dop_add (de_cut (de_var 4) do_none (do_some (de_var 5))) (de_lst (da_cons (de_tup (da_cons (de_var 8) (da_cons (de_cut (de_var 9) do_none (do_some de_int)) da_nil))) (da_cons (de_tup (da_cons (de_var 8) (da_cons (de_cut (de_var 9) (do_some de_int) do_none) da_nil))) da_nil)))) (de_cut (de_var 4) (do_some (de_op dop_add (de_var 5) de_int)) do_none)))
    dss_nil) (dss_cons (ds_if (dt_cmp (dop_eq (lu64 hu)) (de_var 7) de_int (by first | exact nobehind _ (by decide) (by decide) | rfl | with_unfolding_all rfl)) (dss_cons (ds_asgD (de_tup (da_cons (de_var 8) (da_cons (de_callTy dc_tuple (by rfl) T.z_tuple bb_tuple (da_cons (de_comp rfl sc__law_bent.nd (di_seq (de_var 9)) (blkOk_by (N := N__law_bent) (sc := (defScope s__law_bent)) (own := [("place", 11)]) (by decide +kernel)) rfl (fun _ _ _ _ _ => (dg_name sc__law_bent.nd rfl (Or.inl rfl))) (fun _ _ _ _ _ => dts_nil) (fun _ _ _ _ _ => (de_fnP (fn__law_pick T) hgu (hr.mono (by decide)) (by rfl) (pv 0) (da_cons (de_lst (da_cons (de_var 11) (da_cons de_bl (da_cons de_non (da_cons (de_callB dc_len (by rfl) T.z_len bb_len (da_cons (de_var 2) da_nil)) da_nil))))) da_nil)))) da_nil)) da_nil))) (dg_ix (pv 4) (de_var 5)))
    dss_nil) (dss_cons (ds_if (dt_cmp (dop_eq (lu64 hu)) (de_var 7) de_int (by first | exact nobehind _ (by decide) (by decide) | rfl | with_unfolding_all rfl)) (dss_cons (ds_ret (de_callTy dc_tuple (by rfl) T.z_tuple bb_tuple (da_cons (de_revL (de_var 4)) da_nil)))
    dss_nil) (dss_cons (ds_ret (de_op dop_add (de_var 4) (de_lst (da_cons (de_fnP (fn__law_pick T) hgu (hr.mono (by decide)) (by rfl) (pv 0) (da_cons (de_lst (da_cons (de_tup (da_cons de_int (da_cons (de_tup da_nil) da_nil))) (da_cons de_non (da_cons (de_tup da_nil) (da_cons de_str (da_cons (de_tup (da_cons de_int (da_cons (de_tup (da_cons (de_callB dc_len (by rfl) T.z_len bb_len (da_cons (de_var 2) da_nil)) da_nil)) da_nil))) da_nil)))))) da_nil)) da_nil))))
    dss_nil))
    dss_nil))
    dss_nil))
    dss_nil))
    dss_nil))
    dss_nil))
    dss_nil))
    dss_nil))
    dss_nil))
    (dss_cons (ds_ret (de_move 4))
    dss_nil))))))))
abbrev N__law_great_right : List Str := ["pot", "many", "one", "two", "day", "tickets", "alike", "behind", "least", "due", "passages", "price", "told", "at", "pairs", "kind", "lot"]
theorem sc__law_great_right : FnScope N__law_great_right ["pot"] (defScope s__law_great_right) := ⟨rfl, rfl, rfl, by decide +kernel, rfl, by decide +kernel, by decide +kernel⟩
noncomputable def q__law_great_right_1 : SM := (sRet (eBin gEq (eApp gRepr (aCons (eApp gSum (aCons (eComp [15, 16] (iSeq (eVar 12)) (gdTup 2 (gdCons (gdName 15) (gdCons (gdName 16) gdNil))) tAll (eBin gIx (eBin gIx (eVar 5) (eVar 15)) (eK (.int 1)))) aNil)) aNil)) (eApp gRepr (aCons (eVar 11) aNil))))
noncomputable def q__law_great_right_2 : SM := (sIf (tOr2 (tNot2 (tVal (eIsi "list" (eVar 12)))) (tOr2 (tNot2 (tVal (eCall 3 m__law_is_cover (aCons (eVar 5) (aCons (eVar 10) (aCons (eVar 12) aNil)))))) (tVal (eBin (gIsB true) (eCall 3 m_is_cover (aCons (eVar 5) (aCons (eVar 10) (aCons (eCut (eVar 12) oNone (oSome (eNeg (eK (.int 1))))) aNil)))) (eK (.bool false)))))) (sSeq (sRet (eK (.bool false)))
    sNil) sNil)
noncomputable def q__law_great_right_3 : SM := (sIf (tVal (eBin gEq (eCallP 2 m__law_draw 0 (aCons (eK (.int 2)) aNil)) (eK (.int 0)))) (sSeq (sRet (eBin gEq (eApp gRepr (aCons (eCall 2 m_cheapest (aCons (eVar 5) (aCons (eVar 10) aNil))) aNil)) (eApp gRepr (aCons (eVar 11) aNil))))
    sNil) sNil)
noncomputable def q__law_great_right_4 : SM := (sAsgD (gdTup 2 (gdCons (gdName 10) (gdCons (gdName 11) gdNil))) (eCallP 2 m__law_pick 0 (aCons (eApp gLst (aCons (eApp gTup (aCons (eVar 6) (aCons (eBin gIx (eVar 9) (eK (.int 0))) aNil))) (aCons (eApp gTup (aCons (eVar 7) (aCons (eBin gIx (eVar 9) (eK (.int 1))) aNil))) aNil))) aNil)))
noncomputable def q__law_great_right_5 : SM := (sSet 9 (eApp gLst (aCons (eApp gMin (aCons (eComp [14] (iApp range1D (aCons (eBin gAdd (eBin gFdiv (eVar 1) (eK (.int 2))) (eK (.int 1))) aNil)) (gdName 14) tAll (eBin gAdd (eBin gMul (eVar 8) (eBin gSub (eVar 1) (eBin gMul (eK (.int 2)) (eVar 14)))) (eBin gMul (eVar 3) (eVar 14)))) aNil)) (aCons (eApp gMin (aCons (eBin gMul (eApp gMin (aCons (eVar 2) (aCons (eVar 3) aNil))) (eVar 1)) (aCons (eVar 4) aNil))) aNil))))
noncomputable def q__law_great_right_6 : SM := (sPar 6 7 (eBin gMul (eApp gLst (aCons (eApp gTup (aCons (eK (.int 5)) (aCons (eK (.int 25)) (aCons (eApp gTup (aCons (eK (.int 1)) aNil)) aNil)))) aNil)) (eVar 1)) (eComp [13] (iApp range1D (aCons (eVar 1) aNil)) (gdName 13) tAll (eApp gTup (aCons (eBin gMul (eK (.int 30)) (eVar 13)) (aCons (eBin gAdd (eBin gMul (eK (.int 30)) (eVar 13)) (eK (.int 20))) (aCons (eApp gTup (aCons (eK (.int 1)) aNil)) aNil))))))
noncomputable def q__law_great_right_7 : SM := (sSet 5 (eApp gLst (aCons (eApp gTup (aCons (eK (.str "ticket")) (aCons (eVar 2) (aCons (eK (.int 9)) (aCons (eApp gTup (aCons (eK (.int 1)) aNil)) (aCons (eK (.int 1)) aNil)))))) (aCons (eApp gTup (aCons (eK (.str "ticket")) (aCons (eVar 3) (aCons (eK (.int 9)) (aCons (eApp gTup (aCons (eK (.int 1)) aNil)) (aCons (eK (.int 2)) aNil)))))) (aCons (eApp gTup (aCons (eK (.str "ticket")) (aCons (eVar 4) (aCons (eK (.int 1440)) (aCons (eApp gTup (aCons (eK (.int 1)) aNil)) (aCons (eK (.int 1)) aNil)))))) aNil)))))
noncomputable def q__law_great_right_8 : SM := (sAsgD (gdTup 4 (gdCons (gdName 1) (gdCons (gdName 2) (gdCons (gdName 3) (gdCons (gdName 4) gdNil))))) (eApp gTup (aCons (eCallP 2 m__law_pick 0 (aCons (eApp gLst (aCons (eK (.int 6)) (aCons (eK (.int 6)) (aCons (eK (.int 7)) (aCons (eK (.int 7)) (aCons (eK (.int 8)) (aCons (eK (.int 8)) (aCons (eK (.int 8)) (aCons (eK (.int 10)) aNil))))))))) aNil)) (aCons (eBin gAdd (eK (.int 1)) (eCallP 2 m__law_draw 0 (aCons (eK (.int 400)) aNil))) (aCons (eBin gAdd (eK (.int 1)) (eCallP 2 m__law_draw 0 (aCons (eK (.int 900)) aNil))) (aCons (eBin gAdd (eK (.int 1)) (eCallP 2 m__law_draw 0 (aCons (eK (.int 4000)) aNil))) aNil))))))
noncomputable def b__law_great_right : SM := (sSeq q__law_great_right_8
    (sSeq q__law_great_right_7
    (sSeq q__law_great_right_6
    (sSeq (sSet 8 (eApp gMin (aCons (eVar 2) (aCons (eVar 3) (aCons (eVar 4) aNil)))))
    (sSeq q__law_great_right_5
    (sSeq q__law_great_right_4
    (sSeq q__law_great_right_3
    (sSeq (sSet 12 (eCall 2 m_cheapest_cover (aCons (eVar 5) (aCons (eVar 10) aNil))))
    (sSeq q__law_great_right_2
    (sSeq q__law_great_right_1
    sNil))))))))))
noncomputable def m__law_great_right : GM := ofBody 1 16 b__law_great_right
theorem fn__law_great_right (T : Top K mg) : Callee P w K mg base 9 "_law_great_right" s__law_great_right ["pot"] 1 m__law_great_right :=
  callee T.d__law_great_right sc__law_great_right rfl fun f cdv A outer s H E hgu hr hu =>
    (dss_cons (ds_asgD (de_tup (da_cons (de_fnP (fn__law_pick T) hgu (hr.mono (by decide)) (by rfl) (pv 0) (da_cons (de_lst (da_cons de_int (da_cons de_int (da_cons de_int (da_cons de_int (da_cons de_int (da_cons de_int (da_cons de_int (da_cons de_int da_nil))))))))) da_nil)) (da_cons (de_op dop_add de_int (de_fnP (fn__law_draw T) hgu (hr.mono (by decide)) (by rfl) (pv 0) (da_cons de_int da_nil))) (da_cons (de_op dop_add de_int (de_fnP (fn__law_draw T) hgu (hr.mono (by decide)) (by rfl) (pv 0) (da_cons de_int da_nil))) (da_cons (de_op dop_add de_int (de_fnP (fn__law_draw T) hgu (hr.mono (by decide)) (by rfl) (pv 0) (da_cons de_int da_nil))) da_nil))))) (dg_tup rfl (dgs_cons (dg_name sc__law_great_right.nd rfl (Or.inr rfl)) (dgs_cons (dg_name sc__law_great_right.nd rfl (Or.inl rfl)) (dgs_cons (dg_name sc__law_great_right.nd rfl (Or.inr rfl)) (dgs_cons (dg_name sc__law_great_right.nd rfl (Or.inl rfl)) dgs_nil))))))
    (dss_cons (ds_set sc__law_great_right.nd rfl (Or.inr rfl) (de_lst (da_cons (de_tup (da_cons de_str (da_cons (de_var 2) (da_cons de_int (da_cons (de_tup (da_cons de_int da_nil)) (da_cons de_int da_nil)))))) (da_cons (de_tup (da_cons de_str (da_cons (de_var 3) (da_cons de_int (da_cons (de_tup (da_cons de_int da_nil)) (da_cons de_int da_nil)))))) (da_cons (de_tup (da_cons de_str (da_cons (de_var 4) (da_cons de_int (da_cons (de_tup (da_cons de_int da_nil)) (da_cons de_int da_nil)))))) da_nil)))))
    (dss_cons (ds_par rfl sc__law_great_right.nd rfl rfl (by decide) rfl rfl (de_op dop_mul (de_lst (da_cons (de_tup (da_cons de_int (da_cons de_int (da_cons (de_tup (da_cons de_int da_nil)) da_nil)))) da_nil)) (de_var 1)) (de_comp rfl sc__law_great_right.nd (di_range1 (by rfl) T.z_range (da_cons (de_var 1) da_nil)) (blkOk_by (N := N__law_great_right) (sc := (defScope s__law_great_right)) (own := [("at", 13)]) (by decide +kernel)) rfl (fun _ _ _ _ _ => (dg_name sc__law_great_right.nd rfl (Or.inl rfl))) (fun _ _ _ _ _ => dts_nil) (fun _ _ _ _ _ => (de_tup (da_cons (de_op dop_mul de_int (de_var 13)) (da_cons (de_op dop_add (de_op dop_mul de_int (de_var 13)) de_int) (da_cons (de_tup (da_cons de_int da_nil)) da_nil)))))))
    (dss_cons (ds_set sc__law_great_right.nd rfl (Or.inr rfl) (de_callB (dc_min rfl (lu64 hu)) (by rfl) T.z_min bb_min (da_cons (de_var 2) (da_cons (de_var 3) (da_cons (de_var 4) da_nil)))))
    (dss_cons (ds_set sc__law_great_right.nd rfl (Or.inl rfl) (de_lst (da_cons (de_callB (dc_min rfl (lu64 hu)) (by rfl) T.z_min bb_min (da_cons (de_comp rfl sc__law_great_right.nd (di_range1 (by rfl) T.z_range (da_cons (de_op dop_add (de_op dop_fdiv (de_var 1) de_int) de_int) da_nil)) (blkOk_by (N := N__law_great_right) (sc := (defScope s__law_great_right)) (own := [("pairs", 14)]) (by decide +kernel)) rfl (fun _ _ _ _ _ => (dg_name sc__law_great_right.nd rfl (Or.inl rfl))) (fun _ _ _ _ _ => dts_nil) (fun _ _ _ _ _ => (de_op dop_add (de_op dop_mul (de_var 8) (de_op dop_sub (de_var 1) (de_op dop_mul de_int (de_var 14)))) (de_op dop_mul (de_var 3) (de_var 14))))) da_nil)) (da_cons (de_callB (dc_min rfl (lu64 hu)) (by rfl) T.z_min bb_min (da_cons (de_op dop_mul (de_callB (dc_min rfl (lu64 hu)) (by rfl) T.z_min bb_min (da_cons (de_var 2) (da_cons (de_var 3) da_nil))) (de_var 1)) (da_cons (de_var 4) da_nil))) da_nil))))
    (dss_cons (ds_asgD (de_fnP (fn__law_pick T) hgu (hr.mono (by decide)) (by rfl) (pv 0) (da_cons (de_lst (da_cons (de_tup (da_cons (de_var 6) (da_cons (de_ix (de_var 9) de_int) da_nil))) (da_cons (de_tup (da_cons (de_var 7) (da_cons (de_ix (de_var 9) de_int) da_nil))) da_nil))) da_nil)) (dg_tup rfl (dgs_cons (dg_name sc__law_great_right.nd rfl (Or.inl rfl)) (dgs_cons (dg_name sc__law_great_right.nd rfl (Or.inl rfl)) dgs_nil))))
    (dss_cons (ds_if (dt_cmp (dop_eq (lu64 hu)) (de_fnP (fn__law_draw T) hgu (hr.mono (by decide)) (by rfl) (pv 0) (da_cons de_int da_nil)) de_int (by first | exact nobehind _ (by decide) (by decide) | rfl | with_unfolding_all rfl)) (dss_cons (ds_ret (de_cmp (dop_eq (lu64 hu)) (de_callB (dc_repr hgu (lu64 hu)) (by rfl) T.z_repr bb_repr (da_cons (de_fn (fn_cheapest T) hgu (hr.mono (by decide)) (by rfl) (da_cons (de_var 5) (da_cons (de_var 10) da_nil))) da_nil)) (de_callB (dc_repr hgu (lu64 hu)) (by rfl) T.z_repr bb_repr (da_cons (de_var 11) da_nil)) (by first | exact nobehind _ (by decide) (by decide) | rfl | with_unfolding_all rfl)))
    dss_nil) dss_nil)
    (dss_cons (ds_set sc__law_great_right.nd rfl (Or.inl rfl) (de_fn (fn_cheapest_cover T) hgu (hr.mono (by decide)) (by rfl) (da_cons (de_var 5) (da_cons (de_var 10) da_nil))))
    (dss_cons (ds_if (PW.pt (dw_or (dt_not (dt_val (de_isi "list" (de_var 12) (by rfl) T.z_isinstance bb_isinstance (by rfl) T.z_list bb_list))) (dw_or (dt_not (dt_val (de_fn (fn__law_is_cover T) hgu (hr.mono (by decide)) (by rfl) (da_cons (de_var 5) (da_cons (de_var 10) (da_cons (de_var 12) da_nil)))))) (dw_or1 (dt_cmp dop_isnotB (de_fn (fn_is_cover T) hgu (hr.mono (by decide)) (by rfl) (da_cons (de_var 5) (da_cons (de_var 10) (da_cons (de_cut (de_var 12) do_none (do_some (de_neg de_int))) da_nil)))) de_bl (by first | exact nobehind _ (by decide) (by decide) | rfl | with_unfolding_all rfl)))))) (dss_cons (ds_ret de_bl)
    dss_nil) dss_nil)
    (dss_cons (ds_ret (de_cmp (dop_eq (lu64 hu)) (de_callB (dc_repr hgu (lu64 hu)) (by rfl) T.z_repr bb_repr (da_cons (de_callB (dc_sum rfl) (by rfl) T.z_sum bb_sum (da_cons (de_comp rfl sc__law_great_right.nd (di_seq (de_var 12)) (blkOk_by (N := N__law_great_right) (sc := (defScope s__law_great_right)) (own := [("kind", 15), ("lot", 16)]) (by decide +kernel)) rfl (fun _ _ _ _ _ => (dg_tup rfl (dgs_cons (dg_name sc__law_great_right.nd rfl (Or.inl rfl)) (dgs_cons (dg_name sc__law_great_right.nd rfl (Or.inl rfl)) dgs_nil)))) (fun _ _ _ _ _ => dts_nil) (fun _ _ _ _ _ => (de_ix (de_ix (de_var 5) (de_var 15)) de_int))) da_nil)) da_nil)) (de_callB (dc_repr hgu (lu64 hu)) (by rfl) T.z_repr bb_repr (da_cons (de_var 11) da_nil)) (by first | exact nobehind _ (by decide) (by decide) | rfl | with_unfolding_all rfl)))
    dss_nil))))))))))
abbrev N__law_right : List Str := ["pot", "tickets", "passages", "shown", "due", "hopeless", "own", "place", "kinds", "told", "again", "turn", "value", "before", "late", "heard", "passage", "kind", "ticket", "lot"]
theorem sc__law_right : FnScope N__law_right ["pot"] (defScope s__law_right) := ⟨rfl, rfl, rfl, by decide +kernel, rfl, by decide +kernel, by decide +kernel⟩
noncomputable def q__law_right_1 : SM := (sExpr (eMeth opAppend 6 (aCons (eApp gTup (aCons (eCallP 2 m__law_pick 0 (aCons (eVar 8) aNil)) (aCons (eApp gTup (aCons (eVar 7) aNil)) aNil))) aNil)))
noncomputable def q__law_right_2 : SM := (sSet 8 (eComp [17, 18] (iApp enum1D (aCons (eVar 1) aNil)) (gdTup 2 (gdCons (gdName 17) (gdCons (gdName 18) gdNil))) (tVal (eCall 2 m__law_covers (aCons (eVar 18) (aCons (eApp gLst (aCons (eBin gIx (eVar 2) (eVar 7)) aNil)) aNil)))) (eVar 17)))
noncomputable def l__law_right_3 : SM := (sSeq q__law_right_2
    (sSeq q__law_right_1
    sNil))
noncomputable def q__law_right_4 : SM := (sIf (lookT (tOr2 (tVal (eBin (gIsB true) (eCall 3 m_is_cover (aCons (eVar 1) (aCons (eVar 2) (aCons (eVar 6) aNil)))) (eK (.bool true)))) (tAnd2 (tVal (eBin gNe (eVar 6) (eApp gLst aNil))) (tVal (eBin (gIsB true) (eCall 3 m_is_cover (aCons (eVar 1) (aCons (eVar 2) (aCons (eCut (eVar 6) (oSome (eK (.int 1))) oNone) aNil)))) (eK (.bool false))))))) (sSeq (sRet (eK (.bool false)))
    sNil) sNil)
noncomputable def q__law_right_5 : SM := (sFor (iApp range3D (aCons (eBin gSub (eApp gLen (aCons (eVar 2) aNil)) (eK (.int 1))) (aCons (eNeg (eK (.int 1))) (aCons (eNeg (eK (.int 1))) aNil)))) (gdName 7) l__law_right_3)
noncomputable def q__law_right_6 : SM := (sRet (eAnd (eBin (gIsB false) (eCall 3 m_is_cover (aCons (eVar 1) (aCons (eVar 2) (aCons (eComp [7] (iApp range1D (aCons (eApp gLen (aCons (eVar 2) aNil)) aNil)) (gdName 7) tAll (eApp gTup (aCons (eK (.int 0)) (aCons (eApp gTup (aCons (eVar 7) aNil)) aNil)))) aNil)))) (eK (.bool false))) (eBin gEq (eApp gRepr (aCons (eApp gLst (aCons (eVar 1) (aCons (eVar 2) aNil))) aNil)) (eVar 3))))
noncomputable def q__law_right_7 : SM := (sIf (tOr2 (tVal (eBin gNe (eApp gRepr (aCons (eVar 15) aNil)) (eApp gRepr (aCons (eVar 14) aNil)))) (tVal (eBin gNe (eApp gRepr (aCons (eVar 12) aNil)) (eVar 13)))) (sSeq (sRet (eK (.bool false)))
    sNil) sNil)
noncomputable def q__law_right_8 : SM := (sSet 15 (eIf (tVal (eBin gEq (eBin gMod (eVar 11) (eK (.int 2))) (eK (.int 0)))) (eCall 3 m_is_cover (aCons (eVar 1) (aCons (eVar 2) (aCons (eVar 12) aNil)))) (eCallK 3 [2, 1, 0] m_is_cover (aCons (eVar 12) (aCons (eVar 2) (aCons (eVar 1) aNil))))))
noncomputable def l__law_right_9 : SM := (sSeq (sSet 12 (eCallP 4 m__law_bent 0 (aCons (eVar 1) (aCons (eVar 2) (aCons (eVar 9) aNil)))))
    (sSeq (sPar 13 14 (eApp gRepr (aCons (eVar 12) aNil)) (eCall 3 m__law_is_cover (aCons (eVar 1) (aCons (eVar 2) (aCons (eVar 12) aNil)))))
    (sSeq q__law_right_8
    (sSeq q__law_right_7
    sNil))))
noncomputable def q__law_right_10 : SM := (sIf (tVal (eBin gNe (eApp gRepr (aCons (eCall 2 m_cheapest_cover (aCons (eVar 1) (aCons (eVar 2) aNil))) aNil)) (eVar 10))) (sSeq (sRet (eK (.bool false)))
    sNil) sNil)
noncomputable def q__law_right_11 : SM := (sIf (lookT (tVal (eBin gNe (eApp gRepr (aCons (eApp gSum (aCons (eComp [17, 19] (iSeq (eVar 9)) (gdTup 2 (gdCons (gdName 17) (gdCons (gdName 19) gdNil))) tAll (eBin gIx (eBin gIx (eVar 1) (eVar 17)) (eK (.int 1)))) aNil)) aNil)) (eApp gRepr (aCons (eVar 4) aNil))))) (sSeq (sRet (eK (.bool false)))
    sNil) sNil)
noncomputable def q__law_right_12 : SM := (sIf (lookT (tOr2 (tNot2 (tVal (eIsi "list" (eVar 9)))) (tOr2 (tNot2 (tVal (eCall 3 m__law_is_cover (aCons (eVar 1) (aCons (eVar 2) (aCons (eVar 9) aNil)))))) (tVal (eBin (gIsB true) (eCall 3 m_is_cover (aCons (eVar 1) (aCons (eVar 2) (aCons (eVar 9) aNil)))) (eK (.bool true))))))) (sSeq (sRet (eK (.bool false)))
    sNil) sNil)
noncomputable def q__law_right_13 : SM := (sIf (lookT (tOr2 (tVal (eBin gNe (eBin (gIsB false) (eVar 4) (eK .none)) (eBin gNe (eVar 5) (eApp gLst aNil)))) (tVal (eBin gNe (eBin (gIsB false) (eVar 9) (eK .none)) (eBin (gIsB false) (eVar 4) (eK .none)))))) (sSeq (sRet (eK (.bool false)))
    sNil) sNil)
noncomputable def q__law_right_14 : SM := (sSet 9 (eIf (tVal (eBin gEq (eCallP 2 m__law_draw 0 (aCons (eK (.int 2)) aNil)) (eK (.int 0)))) (eCall 2 m_cheapest_cover (aCons (eVar 1) (aCons (eVar 2) aNil))) (eCallK 2 [1, 0] m_cheapest_cover (aCons (eVar 2) (aCons (eVar 1) aNil)))))
noncomputable def q__law_right_15 : SM := (sSet 5 (eComp [16] (iSeq (eVar 2)) (gdName 16) (tVal (eBin (gIsB false) (eCall 2 m__law_single (aCons (eVar 1) (aCons (eApp gLst (aCons (eVar 16) aNil)) aNil))) (eK .none))) (eK (.int 1))))
noncomputable def q__law_right_16 : SM := (sIf (tVal (eBin gNe (eApp gRepr (aCons (eApp gLst (aCons (eCall 2 m_cheapest (aCons (eVar 1) (aCons (eVar 2) aNil))) (aCons (eCallK 2 [1, 0] m_cheapest (aCons (eApp gTuple (aCons (eVar 2) aNil)) (aCons (eApp gTuple (aCons (eVar 1) aNil)) aNil))) aNil))) aNil)) (eApp gRepr (aCons (eApp gLst (aCons (eVar 4) (aCons (eVar 4) aNil))) aNil)))) (sSeq (sRet (eK (.bool false)))
    sNil) sNil)
noncomputable def q__law_right_17 : SM := (sPar 3 4 (eApp gRepr (aCons (eApp gLst (aCons (eVar 1) (aCons (eVar 2) aNil))) aNil)) (eCall 2 m__law_cheapest (aCons (eVar 1) (aCons (eVar 2) aNil))))
noncomputable def q__law_right_18 : SM := (sSet 2 (eCallP 3 m__law_passages 0 (aCons (eVar 1) (aCons (eCallP 2 m__law_pick 0 (aCons (eApp gLst (aCons (eK (.int 0)) (aCons (eK (.int 1)) (aCons (eK (.int 2)) (aCons (eK (.int 3)) (aCons (eK (.int 4)) (aCons (eK (.int 4)) (aCons (eK (.int 5)) (aCons (eK (.int 5)) (aCons (eK (.int 6)) aNil)))))))))) aNil)) aNil))))
noncomputable def q__law_right_19 : SM := (sIf (tVal (eBin gEq (eCallP 2 m__law_draw 0 (aCons (eK (.int 8)) aNil)) (eK (.int 0)))) (sSeq (sRet (eCallP 1 m__law_great_right 0 aNil))
    sNil) sNil)
noncomputable def b__law_right : SM := (sSeq q__law_right_19
    (sSeq (sSet 1 (eCallP 1 m__law_tickets 0 aNil))
    (sSeq q__law_right_18
    (sSeq q__law_right_17
    (sSeq q__law_right_16
    (sSeq q__law_right_15
    (sSeq (sIf (tVal (eBin gEq (eVar 5) (eApp gLst aNil))) (sSeq (sSet 6 (eApp gLst aNil))
    (sSeq q__law_right_5
    (sSeq q__law_right_4
    sNil))) sNil)
    (sSeq q__law_right_14
    (sSeq q__law_right_13
    (sSeq (sIf (tVal (eBin (gIsB false) (eVar 4) (eK .none))) (sSeq q__law_right_6
    sNil) sNil)
    (sSeq q__law_right_12
    (sSeq q__law_right_11
    (sSeq (sSet 10 (look (eApp gRepr (aCons (eVar 9) aNil))))
    (sSeq (sExpr (eMeth opAppend 9 (aCons (eK .none) aNil)))
    (sSeq q__law_right_10
    (sSeq (sExpr (eMeth opPop 9 aNil))
    (sSeq (sFor (iApp range1D (aCons (eK (.int 5)) aNil)) (gdName 11) l__law_right_9)
    (sSeq (sRet (eBin gEq (eApp gRepr (aCons (eApp gLst (aCons (eVar 1) (aCons (eVar 2) aNil))) aNil)) (eVar 3)))
    sNil))))))))))))))))))
noncomputable def m__law_right : GM := ofBody 1 19 b__law_right
theorem fn__law_right (T : Top K mg) : Callee P w K mg base 10 "_law_right" s__law_right ["pot"] 1 m__law_right :=
  callee T.d__law_right sc__law_right rfl fun f cdv A outer s H E hgu hr hu =>
    (dss_cons (ds_if (dt_cmp (dop_eq (lu64 hu)) (de_fnP (fn__law_draw T) hgu (hr.mono (by decide)) (by rfl) (pv 0) (da_cons de_int da_nil)) de_int (by first | exact nobehind _ (by decide) (by decide) | rfl | with_unfolding_all rfl)) (dss_cons (ds_ret (de_fnP (fn__law_great_right T) hgu (hr.mono (by decide)) (by rfl) (pv 0) da_nil))
    dss_nil) dss_nil)
    (dss_cons (ds_set sc__law_right.nd rfl (Or.inr rfl) (de_fnP (fn__law_tickets T) hgu (hr.mono (by decide)) (by rfl) (pv 0) da_nil))
    (dss_cons (ds_set sc__law_right.nd rfl (Or.inr rfl) (de_fnP (fn__law_passages T) hgu (hr.mono (by decide)) (by rfl) (pv 0) (da_cons (de_var 1) (da_cons (de_fnP (fn__law_pick T) hgu (hr.mono (by decide)) (by rfl) (pv 0) (da_cons (de_lst (da_cons de_int (da_cons de_int (da_cons de_int (da_cons de_int (da_cons de_int (da_cons de_int (da_cons de_int (da_cons de_int (da_cons de_int da_nil)))))))))) da_nil)) da_nil))))
    (dss_cons (ds_par rfl sc__law_right.nd rfl rfl (by decide) rfl rfl (de_callB (dc_repr hgu (lu64 hu)) (by rfl) T.z_repr bb_repr (da_cons (de_lst (da_cons (de_var 1) (da_cons (de_var 2) da_nil))) da_nil)) (de_fn (fn__law_cheapest T) hgu (hr.mono (by decide)) (by rfl) (da_cons (de_var 1) (da_cons (de_var 2) da_nil))))
    (dss_cons (ds_if (dt_cmp (dop_ne (lu64 hu)) (de_callB (dc_repr hgu (lu64 hu)) (by rfl) T.z_repr bb_repr (da_cons (de_lst (da_cons (de_fn (fn_cheapest T) hgu (hr.mono (by decide)) (by rfl) (da_cons (de_var 1) (da_cons (de_var 2) da_nil))) (da_cons (de_fnK (ks := ["passages", "tickets"]) (ix := [1, 0]) (fn_cheapest T) hgu (hr.mono (by decide)) (by rfl) (fun _ _ _ _ _ _ ws hl => match ws, hl with | [_, _], _ => rfl) rfl (dk_cons (de_callTy dc_tuple (by rfl) T.z_tuple bb_tuple (da_cons (de_var 2) da_nil)) (dk_cons (de_callTy dc_tuple (by rfl) T.z_tuple bb_tuple (da_cons (de_var 1) da_nil)) dk_nil))) da_nil))) da_nil)) (de_callB (dc_repr hgu (lu64 hu)) (by rfl) T.z_repr bb_repr (da_cons (de_lst (da_cons (de_var 4) (da_cons (de_var 4) da_nil))) da_nil)) (by first | exact nobehind _ (by decide) (by decide) | rfl | with_unfolding_all rfl)) (dss_cons (ds_ret de_bl)
    dss_nil) dss_nil)
    (dss_cons (ds_setComp rfl sc__law_right.nd rfl rfl (sw_true rfl rfl rfl (by decide +kernel)) (di_seq (de_var 2)) (blkOk_by (N := N__law_right) (sc := (defScope s__law_right)) (own := [("passage", 16)]) (by decide +kernel)) rfl (fun _ _ _ _ _ => (dg_name sc__law_right.nd rfl (Or.inl rfl))) (fun _ _ _ _ _ => (dts_one (dt_cmp dop_isB (de_fn (fn__law_single T) hgu (hr.mono (by decide)) (by rfl) (da_cons (de_var 1) (da_cons (de_lst (da_cons (de_var 16) da_nil)) da_nil))) de_non (by first | exact nobehind _ (by decide) (by decide) | rfl | with_unfolding_all rfl)))) (fun _ _ _ _ _ => de_int))
    (dss_cons (ds_if (dt_cmp (dop_eq (lu64 hu)) (de_var 5) (de_lst da_nil) (by first | exact nobehind _ (by decide) (by decide) | rfl | with_unfolding_all rfl)) (dss_cons (ds_set sc__law_right.nd rfl (Or.inl rfl) (de_lst da_nil))
    (dss_cons (ds_for PassesOwn.never rfl (di_range3 (by rfl) T.z_range (da_cons (de_op dop_sub (de_callB dc_len (by rfl) T.z_len bb_len (da_cons (de_var 2) da_nil)) de_int) (da_cons (de_neg de_int) (da_cons (de_neg de_int) da_nil))) (hp := pi_range3 (by rfl) T.z_range (da_cons (de_op dop_sub (de_callB dc_len (by rfl) T.z_len bb_len (da_cons (de_var 2) da_nil)) de_int) (da_cons (de_neg de_int) (da_cons (de_neg de_int) da_nil))))) (dg_name sc__law_right.nd rfl (Or.inr rfl)) (dss_cons (ds_setComp rfl sc__law_right.nd rfl rfl (sw_true rfl rfl rfl (by decide +kernel)) (di_enum (by rfl) T.z_enumerate (da_cons (de_var 1) da_nil)) (blkOk_by (N := N__law_right) (sc := (defScope s__law_right)) (own := [("kind", 17), ("ticket", 18)]) (by decide +kernel)) rfl (fun _ _ _ _ _ => (dg_tup rfl (dgs_cons (dg_name sc__law_right.nd rfl (Or.inl rfl)) (dgs_cons (dg_name sc__law_right.nd rfl (Or.inl rfl)) dgs_nil)))) (fun _ _ _ _ _ => (dts_one (dt_val (de_fn (fn__law_covers T) hgu (hr.mono (by decide)) (by rfl) (da_cons (de_var 18) (da_cons (de_lst (da_cons (de_ix (de_var 2) (de_var 7)) da_nil)) da_nil)))))) (fun _ _ _ _ _ => (de_var 17)))
    (dss_cons (ds_expr (de_append (pv 6) (da_cons (de_tup (da_cons (de_fnP (fn__law_pick T) hgu (hr.mono (by decide)) (by rfl) (pv 0) (da_cons (de_var 8) da_nil)) (da_cons (de_tup (da_cons (de_var 7) da_nil)) da_nil))) da_nil)))
    dss_nil)))
    (dss_cons (ds_if (dt_look (PW.pt (dw_or (dt_cmp dop_isnotB (de_fn (fn_is_cover T) hgu (hr.mono (by decide)) (by rfl) (da_cons (de_var 1) (da_cons (de_var 2) (da_cons (de_var 6) da_nil)))) de_bl (by first | exact nobehind _ (by decide) (by decide) | rfl | with_unfolding_all rfl)) (dw_or1 (PW.pt (dw_and (dt_cmp (dop_ne (lu64 hu)) (de_var 6) (de_lst da_nil) (by first | exact nobehind _ (by decide) (by decide) | rfl | with_unfolding_all rfl)) (dw_and1 (dt_cmp dop_isnotB (de_fn (fn_is_cover T) hgu (hr.mono (by decide)) (by rfl) (da_cons (de_var 1) (da_cons (de_var 2) (da_cons (de_cut (de_var 6) (do_some de_int) do_none) da_nil)))) de_bl (by first | exact nobehind _ (by decide) (by decide) | rfl | with_unfolding_all rfl))))))))) (dss_cons (ds_ret de_bl)
    dss_nil) dss_nil)
    dss_nil))) dss_nil)
    (dss_cons (ds_set sc__law_right.nd rfl (Or.inl rfl) (de_if (dt_cmp (dop_eq (lu64 hu)) (de_fnP (fn__law_draw T) hgu (hr.mono (by decide)) (by rfl) (pv 0) (da_cons de_int da_nil)) de_int (by first | exact nobehind _ (by decide) (by decide) | rfl | with_unfolding_all rfl)) (de_fn (fn_cheapest_cover T) hgu (hr.mono (by decide)) (by rfl) (da_cons (de_var 1) (da_cons (de_var 2) da_nil))) (de_fnK (ks := ["passages", "tickets"]) (ix := [1, 0]) (fn_cheapest_cover T) hgu (hr.mono (by decide)) (by rfl) (fun _ _ _ _ _ _ ws hl => match ws, hl with | [_, _], _ => rfl) rfl (dk_cons (de_var 2) (dk_cons (de_var 1) dk_nil)))))
    (dss_cons (ds_if (dt_look (PW.pt (dw_or (dt_cmp (dop_ne (lu64 hu)) (de_cmp dop_isB (de_var 4) de_non (by first | exact nobehind _ (by decide) (by decide) | rfl | with_unfolding_all rfl)) (de_cmp (dop_ne (lu64 hu)) (de_var 5) (de_lst da_nil) (by first | exact nobehind _ (by decide) (by decide) | rfl | with_unfolding_all rfl)) (by first | exact nobehind _ (by decide) (by decide) | rfl | with_unfolding_all rfl)) (dw_or1 (dt_cmp (dop_ne (lu64 hu)) (de_cmp dop_isB (de_var 9) de_non (by first | exact nobehind _ (by decide) (by decide) | rfl | with_unfolding_all rfl)) (de_cmp dop_isB (de_var 4) de_non (by first | exact nobehind _ (by decide) (by decide) | rfl | with_unfolding_all rfl)) (by first | exact nobehind _ (by decide) (by decide) | rfl | with_unfolding_all rfl)))))) (dss_cons (ds_ret de_bl)
    dss_nil) dss_nil)
    (dss_cons (ds_if (dt_cmp dop_isB (de_var 4) de_non (by first | exact nobehind _ (by decide) (by decide) | rfl | with_unfolding_all rfl)) (dss_cons (ds_ret (de_and (de_cmp dop_isB (de_fn (fn_is_cover T) hgu (hr.mono (by decide)) (by rfl) (da_cons (de_var 1) (da_cons (de_var 2) (da_cons (de_comp rfl sc__law_right.nd (di_range1 (by rfl) T.z_range (da_cons (de_callB dc_len (by rfl) T.z_len bb_len (da_cons (de_var 2) da_nil)) da_nil)) (blkOk_by (N := N__law_right) (sc := (defScope s__law_right)) (own := [("place", 7)]) (by decide +kernel)) rfl (fun _ _ _ _ _ => (dg_name sc__law_right.nd rfl (Or.inl rfl))) (fun _ _ _ _ _ => dts_nil) (fun _ _ _ _ _ => (de_tup (da_cons de_int (da_cons (de_tup (da_cons (de_var 7) da_nil)) da_nil))))) da_nil)))) de_bl (by first | exact nobehind _ (by decide) (by decide) | rfl | with_unfolding_all rfl)) (de_one (de_cmp (dop_eq (lu64 hu)) (de_callB (dc_repr hgu (lu64 hu)) (by rfl) T.z_repr bb_repr (da_cons (de_lst (da_cons (de_var 1) (da_cons (de_var 2) da_nil))) da_nil)) (de_var 3) (by first | exact nobehind _ (by decide) (by decide) | rfl | with_unfolding_all rfl)))))
    dss_nil) dss_nil)
    (dss_cons (ds_if (dt_look (PW.pt (dw_or (dt_not (dt_val (de_isi "list" (de_var 9) (by rfl) T.z_isinstance bb_isinstance (by rfl) T.z_list bb_list))) (dw_or (dt_not (dt_val (de_fn (fn__law_is_cover T) hgu (hr.mono (by decide)) (by rfl) (da_cons (de_var 1) (da_cons (de_var 2) (da_cons (de_var 9) da_nil)))))) (dw_or1 (dt_cmp dop_isnotB (de_fn (fn_is_cover T) hgu (hr.mono (by decide)) (by rfl) (da_cons (de_var 1) (da_cons (de_var 2) (da_cons (de_var 9) da_nil)))) de_bl (by first | exact nobehind _ (by decide) (by decide) | rfl | with_unfolding_all rfl))))))) (dss_cons (ds_ret de_bl)
    dss_nil) dss_nil)
    (dss_cons (ds_if (dt_look (dt_cmp (dop_ne (lu64 hu)) (de_callB (dc_repr hgu (lu64 hu)) (by rfl) T.z_repr bb_repr (da_cons (de_callB (dc_sum rfl) (by rfl) T.z_sum bb_sum (da_cons (de_comp rfl sc__law_right.nd (di_seq (de_var 9)) (blkOk_by (N := N__law_right) (sc := (defScope s__law_right)) (own := [("kind", 17), ("lot", 19)]) (by decide +kernel)) rfl (fun _ _ _ _ _ => (dg_tup rfl (dgs_cons (dg_name sc__law_right.nd rfl (Or.inl rfl)) (dgs_cons (dg_name sc__law_right.nd rfl (Or.inl rfl)) dgs_nil)))) (fun _ _ _ _ _ => dts_nil) (fun _ _ _ _ _ => (de_ix (de_ix (de_var 1) (de_var 17)) de_int))) da_nil)) da_nil)) (de_callB (dc_repr hgu (lu64 hu)) (by rfl) T.z_repr bb_repr (da_cons (de_var 4) da_nil)) (by first | exact nobehind _ (by decide) (by decide) | rfl | with_unfolding_all rfl))) (dss_cons (ds_ret de_bl)
    dss_nil) dss_nil)
    (dss_cons (ds_set sc__law_right.nd rfl (Or.inl rfl) (de_look (de_callB (dc_repr hgu (lu64 hu)) (by rfl) T.z_repr bb_repr (da_cons (de_var 9) da_nil))))
    (dss_cons (ds_expr (de_append (pv 9) (da_cons de_non da_nil)))
    (dss_cons (ds_if (dt_cmp (dop_ne (lu64 hu)) (de_callB (dc_repr hgu (lu64 hu)) (by rfl) T.z_repr bb_repr (da_cons (de_fn (fn_cheapest_cover T) hgu (hr.mono (by decide)) (by rfl) (da_cons (de_var 1) (da_cons (de_var 2) da_nil))) da_nil)) (de_var 10) (by first | exact nobehind _ (by decide) (by decide) | rfl | with_unfolding_all rfl)) (dss_cons (ds_ret de_bl)
    dss_nil) dss_nil)
    (dss_cons (ds_expr (de_pop0 (pv 9)))
    (dss_cons (ds_for PassesOwn.never rfl (di_range1 (by rfl) T.z_range (da_cons de_int da_nil)) (dg_name sc__law_right.nd rfl (Or.inl rfl)) (dss_cons (ds_set sc__law_right.nd rfl (Or.inl rfl) (de_fnP (fn__law_bent T) hgu (hr.mono (by decide)) (by rfl) (pv 0) (da_cons (de_var 1) (da_cons (de_var 2) (da_cons (de_var 9) da_nil)))))
    (dss_cons (ds_par rfl sc__law_right.nd rfl rfl (by decide) rfl rfl (de_callB (dc_repr hgu (lu64 hu)) (by rfl) T.z_repr bb_repr (da_cons (de_var 12) da_nil)) (de_fn (fn__law_is_cover T) hgu (hr.mono (by decide)) (by rfl) (da_cons (de_var 1) (da_cons (de_var 2) (da_cons (de_var 12) da_nil)))))
    (dss_cons (ds_set sc__law_right.nd rfl (Or.inl rfl) (de_if (dt_cmp (dop_eq (lu64 hu)) (de_op dop_mod (de_var 11) de_int) de_int (by first | exact nobehind _ (by decide) (by decide) | rfl | with_unfolding_all rfl)) (de_fn (fn_is_cover T) hgu (hr.mono (by decide)) (by rfl) (da_cons (de_var 1) (da_cons (de_var 2) (da_cons (de_var 12) da_nil)))) (de_fnK (ks := ["value", "passages", "tickets"]) (ix := [2, 1, 0]) (fn_is_cover T) hgu (hr.mono (by decide)) (by rfl) (fun _ _ _ _ _ _ ws hl => match ws, hl with | [_, _, _], _ => rfl) rfl (dk_cons (de_var 12) (dk_cons (de_var 2) (dk_cons (de_var 1) dk_nil))))))
    (dss_cons (ds_if (PW.pt (dw_or (dt_cmp (dop_ne (lu64 hu)) (de_callB (dc_repr hgu (lu64 hu)) (by rfl) T.z_repr bb_repr (da_cons (de_var 15) da_nil)) (de_callB (dc_repr hgu (lu64 hu)) (by rfl) T.z_repr bb_repr (da_cons (de_var 14) da_nil)) (by first | exact nobehind _ (by decide) (by decide) | rfl | with_unfolding_all rfl)) (dw_or1 (dt_cmp (dop_ne (lu64 hu)) (de_callB (dc_repr hgu (lu64 hu)) (by rfl) T.z_repr bb_repr (da_cons (de_var 12) da_nil)) (de_var 13) (by first | exact nobehind _ (by decide) (by decide) | rfl | with_unfolding_all rfl))))) (dss_cons (ds_ret de_bl)
    dss_nil) dss_nil)
    dss_nil)))))
    (dss_cons (ds_ret (de_cmp (dop_eq (lu64 hu)) (de_callB (dc_repr hgu (lu64 hu)) (by rfl) T.z_repr bb_repr (da_cons (de_lst (da_cons (de_var 1) (da_cons (de_var 2) da_nil))) da_nil)) (de_var 3) (by first | exact nobehind _ (by decide) (by decide) | rfl | with_unfolding_all rfl)))
    dss_nil))))))))))))))))))
end
end K9
end PK90W
section PK90D
set_option maxHeartbeats 1000000
open PySem PySem.Spec PyProof.Rows L2 DL
namespace K9
/-! the draws -/
theorem draw_ok (a b n : Int) (ha : 0 ≤ a) (hn : 0 < n) (hn2 : n < 1073741824) : ∃ d a' b' : Int, 0 ≤ d ∧ d < n ∧ 0 ≤ a' ∧ m__law_draw [.p [.int a, .int b], .d (.int n)] = some (.d (.int d), [.p [.int a', .int b'], .u]) := by
  by_cases h : 0 < a
  · refine ⟨a % n, a / n, b, Int.emod_nonneg _ (by omega), Int.emod_lt_of_pos _ hn, Int.ediv_nonneg ha (by omega), ?_⟩
    simp [x_sSeq, m__law_draw, ofBody, b__law_draw, q__law_draw_1, q__law_draw_2, q__law_draw_3, gGt, gI, atI, ixN, h, gDivmod, hn, hn2, gdIx, endOf, keepP]
  · have h0 : a = 0 := by omega
    subst h0
    refine ⟨((b * 39373 + 1511) % 2147483587 * ((b * 39373 + 1511) % 2147483587)) % 2147483549 / 19 % n, 0, (b * 39373 + 1511) % 2147483587, Int.emod_nonneg _ (by omega), Int.emod_lt_of_pos _ hn, by omega, ?_⟩
    have h1 : cMul b 39373 = true := by unfold cMul; simp
    have h2 : cMul ((b * 39373 + 1511) % 2147483587) ((b * 39373 + 1511) % 2147483587) = true := by
      have q1 := Int.emod_nonneg (b * 39373 + 1511) (show (2147483587 : Int) ≠ 0 by omega)
      have q2 := Int.emod_lt_of_pos (b * 39373 + 1511) (show (0 : Int) < 2147483587 by omega)
      unfold cMul
      simp only [Bool.or_eq_true, Bool.and_eq_true, decide_eq_true_eq]
      omega
    simp [x_sSeq, m__law_draw, ofBody, b__law_draw, q__law_draw_1, q__law_draw_2, q__law_draw_3, gGt, gI, atI, ixN, gInt1, gAdd, gMul, gMod, gFdiv, h1, h2, hn, gdIx, endOf, keepP]
theorem W_draw {ρ : Rho} {i : Nat} {a b n : Int} {fa : AM} {P : Rs × Rho → Prop} (h : ρ[i]? = some (.p [.int a, .int b])) (ha : 0 ≤ a) (hf : fa ρ = some ([.int n], ρ)) (hn : 0 < n) (hn2 : n < 1073741824) (k : ∀ d a' b' : Int, 0 ≤ d → d < n → 0 ≤ a' → P (.d (.int d), ρ.set i (.p [.int a', .int b']))) : W (eCallP 2 m__law_draw i fa ρ) P := by
  obtain ⟨d, a', b', h1, h2, h3, e⟩ := draw_ok a b n ha hn hn2
  unfold eCallP
  simp only [h, Option.bind_some, x_listOf_p, hf, List.length_cons, List.length_nil, if_true, List.map_cons, List.map_nil, e, W_some, x_with_p, List.getElem?_cons_zero, x_pOf, Option.map_some]
  exact k d a' b' h1 h2 h3
theorem ix_of {ds : List PyData} {d : Int} (h1 : 0 ≤ d) (h2 : d < ds.length) : ∃ x, x ∈ ds ∧ atI ds d = some x := by
  have hj : d.toNat < ds.length := by omega
  refine ⟨ds[d.toNat], List.getElem_mem hj, ?_⟩
  unfold atI ixN
  rw [if_pos h1, if_pos (by omega), Option.bind_some]
  exact List.getElem?_eq_getElem hj
theorem pick_ok (a b : Int) (ha : 0 ≤ a) (ds : List PyData) (hd : ds ≠ []) (hl : ds.length < 1073741824) (t : Sl) (ht : t = .d (.list ds) ∨ t = .d (.tuple ds) ∨ t = .p ds) : ∃ d a' b', d ∈ ds ∧ 0 ≤ a' ∧ m__law_pick [.p [.int a, .int b], t] = some (.d d, [.p [.int a', .int b'], keepP t]) := by
  have h0 : 0 < ds.length := List.length_pos_iff.mpr hd
  obtain ⟨d, a', b', h1, h2, h3, e⟩ := draw_ok a b ds.length ha (by omega) (by omega)
  obtain ⟨x, hx, ix⟩ := ix_of h1 h2
  refine ⟨x, a', b', hx, h3, ?_⟩
  rcases ht with rfl | rfl | rfl
  · simp [x_sSeq, m__law_pick, ofBody, b__law_pick, eCallP, gLen, e, gIx, ix, endOf, keepP]
  · simp [x_sSeq, m__law_pick, ofBody, b__law_pick, eCallP, gLen, e, gIx, ix, endOf, keepP]
  · simp [x_sSeq, m__law_pick, ofBody, b__law_pick, eCallP, gLen, e, gIx, ix, endOf, keepP]
/-- what a pick asks of its arguments -/
def PickOk (i : Nat) (P : Rs × Rho → Prop) (x : List PyData × Rho) : Prop := ∃ ds, (x.1 = [.list ds] ∨ x.1 = [.tuple ds]) ∧ ds ≠ [] ∧ ds.length < 1073741824 ∧ ∃ a' b' : Int, 0 ≤ a' ∧ x.2[i]? = some (.p [.int a', .int b']) ∧ ∀ d ∈ ds, ∀ a'' b'' : Int, 0 ≤ a'' → P (.d d, x.2.set i (.p [.int a'', .int b'']))
theorem W_pick {ρ : Rho} {i : Nat} {a b : Int} {fa : AM} {P : Rs × Rho → Prop} (h : ρ[i]? = some (.p [.int a, .int b])) (hf : W (fa ρ) (PickOk i P)) : W (eCallP 2 m__law_pick i fa ρ) P := by
  obtain ⟨⟨xs, ρ1⟩, e, ds, hx, hd, hl, a', b', ha, h1, k⟩ := hf
  obtain ⟨t, ht, et⟩ : ∃ t : PyData, (t = .list ds ∨ t = .tuple ds) ∧ xs = [t] := by
    rcases hx with hx | hx
    · exact ⟨_, .inl rfl, hx⟩
    · exact ⟨_, .inr rfl, hx⟩
  obtain ⟨d, a2, b2, m1, m2, m3⟩ := pick_ok a' b' ha ds hd hl (.d t) (by rcases ht with rfl | rfl <;> simp)
  subst et
  unfold eCallP
  simp only at h1 k
  simp only [h, Option.bind_some, x_listOf_p, e, List.length_cons, List.length_nil, if_true, List.map_cons, List.map_nil, h1, m3, W_some, x_with_p, List.getElem?_cons_zero, x_pOf, Option.map_some]
  exact k d m1 a2 b2 m2
/-- a pick of what an own list holds -/
theorem W_pickPP {ρ : Rho} {i j : Nat} {a b : Int} {ds : List PyData} {P : Rs × Rho → Prop} (h : ρ[i]? = some (.p [.int a, .int b])) (ha : 0 ≤ a) (hj : ρ[j]? = some (.l ds)) (hij : i ≠ j) (hd : ds ≠ []) (hl : ds.length < 1073741824) (k : ∀ d ∈ ds, ∀ a'' b'' : Int, 0 ≤ a'' → P (.d d, (ρ.set i (.p [.int a'', .int b''])).set j (.l ds))) : W (eCallPP 2 m__law_pick i j ρ) P := by
  obtain ⟨d, a2, b2, m1, m2, m3⟩ := pick_ok a b ha ds hd hl (.p ds) (.inr (.inr rfl))
  unfold eCallPP
  simp only [h, hj, Option.bind_some, x_listOf_p, x_listOf_l, hij, ne_eq, not_false_eq_true, and_self, if_true, m3, List.getElem?_cons_zero, List.getElem?_cons_succ, x_pOf, keepP, Option.map_some, W_some, x_with_p, x_with_l]
  exact k d m1 a2 b2 m2
end K9
end PK90D
section PK90E
set_option maxHeartbeats 1000000
open PySem PySem.Spec PyProof.Rows L2 DL
namespace K9
/-! tickets, passages, as the law makes them -/
structure Tk where
  price : Int
  minutes : Int
  zones : List Int
  persons : Int
structure Pg where
  b : Int
  e : Int
  zones : List Int
def zD (zs : List Int) : PyData := .tuple (zs.map .int)
def Tk.d (t : Tk) : PyData := .tuple [.str "ticket", .int t.price, .int t.minutes, zD t.zones, .int t.persons]
def Pg.d (p : Pg) : PyData := .tuple [.int p.b, .int p.e, zD p.zones]
def zOk (zs : List Int) : Prop := zs ≠ [] ∧ zs.length ≤ 4 ∧ (∀ z ∈ zs, 1 ≤ z ∧ z ≤ 4) ∧ zs.Pairwise (· < ·)
instance (zs : List Int) : Decidable (zOk zs) := by unfold zOk; infer_instance
structure Tk.ok (t : Tk) : Prop where
  p : 1 ≤ t.price ∧ t.price ≤ 9999
  m : 1 ≤ t.minutes ∧ t.minutes ≤ 11000
  z : zOk t.zones
  n : 1 ≤ t.persons ∧ t.persons ≤ 5
structure Pg.ok (p : Pg) : Prop where
  b : 0 ≤ p.b
  l : p.b < p.e
  e : p.e ≤ 9999
  z : zOk p.zones
theorem four (n : Nat) (h : n ≤ 1000) : n ≤ sizeLine := by rw [sizeLine_eq]; omega
abbrev pot (a b : Int) : Sl := .p [.int a, .int b]
/-- of the draws' state comes a value of which P holds -/
def Dr (n : Nat) (P : PyData → Prop) (x : Rs × Rho) : Prop := ∃ d a b, P d ∧ 0 ≤ a ∧ x = (.d d, pot a b :: List.replicate n .u)
theorem W_fn {G : GM} {n i : Nat} {ρ : Rho} {a b : Int} {fa : AM} {ds : List PyData} {Pd : PyData → Prop} {Q : Rs × Rho → Prop} (H : ∀ a b : Int, 0 ≤ a → W (G (pot a b :: ds.map .d)) (Dr ds.length Pd)) (h : ρ[i]? = some (.p [.int a, .int b])) (ha : 0 ≤ a) (hf : fa ρ = some (ds, ρ)) (hn : ds.length + 1 = n) (k : ∀ d a' b', Pd d → 0 ≤ a' → Q (.d d, ρ.set i (.p [.int a', .int b']))) : W (eCallP n G i fa ρ) Q := by
  obtain ⟨x, e, d, a', b', h1, h2, rfl⟩ := H a b ha
  subst hn
  unfold eCallP
  unfold pot at e
  simp only [h, Option.bind_some, x_listOf_p, hf, if_true, e, W_some, x_with_p, List.getElem?_cons_zero, x_pOf, Option.map_some]
  exact k d a' b' h1 h2
theorem endOf_pot {n m : Nat} {d : PyData} {a b : Int} {ρ : Rho} (h : n + 1 ≤ ρ.length + 1) (hu : (ρ.take n).map keepP = List.replicate n .u) : endOf (n + 1) (.d d) (pot a b :: ρ) = some (.d d, pot a b :: List.replicate n .u) := by
  unfold endOf
  rw [if_pos (by simpa using h), List.take_succ_cons, List.map_cons, hu]
  rfl
theorem zones_W (a b : Int) (ha : 0 ≤ a) : W (m__law_zones [pot a b]) (Dr 0 fun d => ∃ zs, zOk zs ∧ d = zD zs) := by
  simp only [m__law_zones, ofBody, b__law_zones, q__law_zones_1, x_sSeq, x_sRet, W_bind, W_map]
  refine W_pick rfl ?_
  simp
  refine ⟨_, .inl rfl, by simp, by simp, a, b, ha, rfl, fun d hd a' b' ha' => ?_⟩
  have hz : ∃ zs, zOk zs ∧ d = zD zs := by
    simp only [List.mem_cons, List.not_mem_nil, or_false] at hd
    rcases hd with rfl | rfl | rfl | rfl | rfl | rfl | rfl | rfl
    · exact ⟨[1], by decide, rfl⟩
    · exact ⟨[2], by decide, rfl⟩
    · exact ⟨[1, 2], by decide, rfl⟩
    · exact ⟨[2, 3], by decide, rfl⟩
    · exact ⟨[1, 2, 3], by decide, rfl⟩
    · exact ⟨[3, 4], by decide, rfl⟩
    · exact ⟨[1, 2, 3, 4], by decide, rfl⟩
    · exact ⟨[1, 2], by decide, rfl⟩
  simp [endOf, keepP]
  exact ⟨d, a', b', hz, ha', rfl⟩
def tkP (d : PyData) : Prop := ∃ t : Tk, t.ok ∧ d = t.d
def pgP (d : PyData) : Prop := ∃ p : Pg, p.ok ∧ d = p.d
theorem ticket_W (a b : Int) (ha : 0 ≤ a) : W (m__law_ticket [pot a b]) (Dr 0 tkP) := by
  simp only [m__law_ticket, ofBody, b__law_ticket, q__law_ticket_1, q__law_ticket_2, x_sSeq, x_sPar, W_bind, W_map]
  refine W_pick rfl ?_
  simp
  refine W_draw rfl ha rfl (by omega) (by omega) fun d1 a b h1 h2 ha => ?_
  simp
  refine W_draw rfl ha rfl (by omega) (by omega) fun d2 a b h3 h4 ha => ?_
  have hm : cMul 100 (1 + d2) = true := by unfold cMul; simp
  simp [gMul, hm]
  refine ⟨_, .inl rfl, by simp, by simp, a, b, ha, rfl, fun pr hp a b ha => ?_⟩
  have hp' : ∃ p : Int, 1 ≤ p ∧ p ≤ 9999 ∧ pr = .int p := by
    simp only [List.mem_cons, List.not_mem_nil, or_false] at hp
    rcases hp with rfl | rfl | rfl
    · exact ⟨_, by omega, by omega, rfl⟩
    · exact ⟨_, by omega, by omega, rfl⟩
    · exact ⟨_, by omega, by omega, rfl⟩
  obtain ⟨p, p1, p2, rfl⟩ := hp'
  simp
  refine W_pick rfl ?_
  simp
  refine ⟨_, .inl rfl, by simp, by simp, a, b, ha, rfl, fun pr hp a b ha => ?_⟩
  have hm' : ∃ m : Int, 1 ≤ m ∧ m ≤ 11000 ∧ pr = .int m := by
    simp only [List.mem_cons, List.not_mem_nil, or_false] at hp
    rcases hp with rfl | rfl | rfl | rfl | rfl | rfl | rfl | rfl <;> exact ⟨_, by omega, by omega, rfl⟩
  obtain ⟨m, m1, m2, rfl⟩ := hm'
  simp
  refine W_fn (ds := []) zones_W rfl ha rfl rfl fun d a b hz ha => ?_
  obtain ⟨zs, z1, rfl⟩ := hz
  simp
  refine W_pick rfl ?_
  simp
  refine ⟨_, .inl rfl, by simp, by simp, a, b, ha, rfl, fun pr hp a b ha => ?_⟩
  have hn : ∃ n : Int, 1 ≤ n ∧ n ≤ 5 ∧ pr = .int n := by
    simp only [List.mem_cons, List.not_mem_nil, or_false] at hp
    rcases hp with rfl | rfl | rfl | rfl | rfl <;> exact ⟨_, by omega, by omega, rfl⟩
  obtain ⟨n, n1, n2, rfl⟩ := hn
  simp [endOf, keepP]
  exact ⟨_, a, b, ⟨⟨p, m, zs, n⟩, ⟨⟨p1, p2⟩, ⟨m1, m2⟩, z1, ⟨n1, n2⟩⟩, rfl⟩, ha, rfl⟩
theorem map_snoc {α : Type} {enc : α → PyData} {xs : List PyData} {ys : List α} {y : α} (h : xs = ys.map enc) : xs ++ [enc y] = (ys ++ [y]).map enc := by rw [h, List.map_append]; rfl
def TksP (x : Rs × Rho) : Prop := ∃ (ts : List Tk) (a b : Int), (∀ t ∈ ts, t.ok) ∧ 1 ≤ ts.length ∧ ts.length ≤ 8 ∧ 0 ≤ a ∧ x = (.l (ts.map Tk.d), [pot a b])
def TksI (i : Nat) (acc : List PyData) (ρ : Rho) : Prop := ∃ (ts : List Tk) (a b : Int), acc = ts.map Tk.d ∧ (∀ t ∈ ts, t.ok) ∧ ts.length = i ∧ 0 ≤ a ∧ ρ = [pot a b, .u]
theorem small_lt {n : Nat} (h : n < 1000) : n < sizeLine := by rw [sizeLine_eq]; omega
theorem tickets_W (a b : Int) (ha : 0 ≤ a) : W (m__law_tickets [pot a b]) TksP := by
  simp only [m__law_tickets, ofBody, b__law_tickets, q__law_tickets_1, x_sSeq, x_sRet, W_bind, W_map, eComp, x_iApp]
  simp
  refine W_pick rfl ?_
  simp
  refine ⟨_, .inl rfl, by simp, by simp, a, b, ha, rfl, fun pr hp a b ha => ?_⟩
  have hn : ∃ n : Int, 1 ≤ n ∧ n ≤ 8 ∧ pr = .int n := by
    simp only [List.mem_cons, List.not_mem_nil, or_false] at hp
    rcases hp with rfl | rfl | rfl | rfl | rfl <;> exact ⟨_, by omega, by omega, rfl⟩
  obtain ⟨n, n1, n2, rfl⟩ := hn
  simp [x_range1 (show 0 ≤ n by omega) (show n ≤ 100000 by omega)]
  refine (comp_W TksI (rngD 0 1 n.toNat) 0 [] [pot a b, .u] ⟨[], a, b, rfl, by simp, rfl, ha, rfl⟩ fun i d hd acc ρ ⟨ts, a, b, h1, h2, h3, h4, h5⟩ => ?_).mono fun x ⟨ts, a, b, h1, h2, h3, h4, h5⟩ => ?_
  · obtain ⟨hi, rfl⟩ := rngD_get hd
    subst h5
    simp
    refine W_fn (ds := []) ticket_W rfl h4 rfl rfl fun d a b ⟨t, t1, t2⟩ ha => ?_
    subst t2
    simp
    refine ⟨small_lt (by rw [h1, List.length_map, h3]; omega), ts ++ [t], a, b, map_snoc h1, fun u hu => ?_, by simp [h3], ha, rfl⟩
    rcases List.mem_append.mp hu with hu | hu
    · exact h2 u hu
    · rw [List.mem_singleton.mp hu]; exact t1
  · obtain ⟨xs, ρ⟩ := x
    simp only at h1 h5
    subst h1 h5
    simp [endOf, keepP]
    simp at h3
    exact ⟨ts, a, b, h2, by omega, by omega, h4, rfl⟩
end K9
end PK90E
section PK90F
set_option maxHeartbeats 2000000
open PySem PySem.Spec PyProof.Rows L2 DL
namespace K9
theorem min2 {a b : Int} : gMin [.int a, .int b] = some (.d (.int (if b < a then b else a))) := rfl
theorem passage_W (a b : Int) (ha : 0 ≤ a) : W (m__law_passage [pot a b]) (Dr 0 pgP) := by
  simp only [m__law_passage, ofBody, b__law_passage, q__law_passage_1, q__law_passage_2, x_sSeq, x_sSet, W_bind, W_map]
  refine W_pick rfl ?_
  simp
  refine W_draw rfl ha rfl (by omega) (by omega) fun d1 a b h1 h2 ha => ?_
  simp
  refine ⟨_, .inl rfl, by simp, by simp, a, b, ha, rfl, fun pr hp a b ha => ?_⟩
  have hb : ∃ p : Int, 0 ≤ p ∧ p ≤ 9990 ∧ pr = .int p := by
    simp only [List.mem_cons, List.not_mem_nil, or_false] at hp
    rcases hp with rfl | rfl | rfl | rfl | rfl <;> exact ⟨_, by omega, by omega, rfl⟩
  obtain ⟨p, p1, p2, rfl⟩ := hb
  simp
  refine W_pick rfl ?_
  simp
  refine W_draw rfl ha rfl (by omega) (by omega) fun d2 a b h3 h4 ha => ?_
  simp
  refine ⟨_, .inl rfl, by simp, by simp, a, b, ha, rfl, fun pr hp a b ha => ?_⟩
  have hb : ∃ q : Int, 1 ≤ q ∧ pr = .int q := by
    simp only [List.mem_cons, List.not_mem_nil, or_false] at hp
    rcases hp with rfl | rfl | rfl | rfl <;> exact ⟨_, by omega, rfl⟩
  obtain ⟨q, q1, rfl⟩ := hb
  simp
  refine W_pick rfl ?_
  simp
  refine W_fn (ds := []) zones_W rfl ha rfl rfl fun d a b hz ha => ?_
  obtain ⟨zs, z1, rfl⟩ := hz
  simp
  refine ⟨_, .inl rfl, by simp, by simp, a, b, ha, rfl, fun pr hp a b ha => ?_⟩
  have hz : ∃ zs, zOk zs ∧ pr = zD zs := by
    simp only [List.mem_cons, List.not_mem_nil, or_false] at hp
    rcases hp with rfl | rfl | rfl | rfl | rfl
    · exact ⟨[1], by decide, rfl⟩
    · exact ⟨[2], by decide, rfl⟩
    · exact ⟨[1, 2], by decide, rfl⟩
    · exact ⟨[1], by decide, rfl⟩
    · exact ⟨zs, z1, rfl⟩
  obtain ⟨zs', z2, rfl⟩ := hz
  simp [endOf, keepP]
  refine ⟨_, a, b, ⟨⟨p, if p + q < 9999 then p + q else 9999, zs'⟩, ⟨p1, ?_, ?_, z2⟩, rfl⟩, ha, rfl⟩
  · show p < if p + q < 9999 then p + q else 9999
    split <;> omega
  · show (if p + q < 9999 then p + q else 9999) ≤ 9999
    split <;> omega
def PgsP (n : Nat) (x : Rs × Rho) : Prop := ∃ (ps : List Pg) (a b : Int), (∀ p ∈ ps, p.ok) ∧ ps.length = n ∧ 0 ≤ a ∧ x = (.l (ps.map Pg.d), [pot a b, .u, .u])
def PgsI (tk : PyData) (many : Int) (i : Nat) (ρ : Rho) : Prop := ∃ (ps : List Pg) (a b : Int) (s4 s5 s6 s7 s8 s9 s10 : Sl), (∀ p ∈ ps, p.ok) ∧ ps.length = i ∧ 0 ≤ a ∧ ρ = [pot a b, .d tk, .d (.int many), .l (ps.map Pg.d), s4, s5, s6, s7, s8, s9, s10]
theorem tk_ix (ts : List Tk) {i : Nat} {d : PyData} (h : (ts.map Tk.d)[i]? = some d) : ∃ t, ts[i]? = some t ∧ d = t.d := by
  rw [List.getElem?_map] at h
  cases q : ts[i]? with
  | none => rw [q] at h; cases h
  | some t => rw [q] at h; exact ⟨t, rfl, (Option.some.inj h).symm⟩
theorem lay_zD (zs : List Int) : (zD zs).canLay0 = true ∧ (zD zs).depth ≤ 1 := by
  have h1 := canAll fun x hx => (lay_ints zs x hx).1
  have h2 := depthAll_le fun x hx => (lay_ints zs x hx).2
  unfold zD
  simp only [PyData.canLay0, h1, PyData.depth]
  exact ⟨trivial, by omega⟩
theorem lay_Pg (p : Pg) : p.d.canLay0 = true ∧ p.d.depth ≤ 3 := by
  have h := lay_zD p.zones
  unfold Pg.d
  simp only [PyData.canLay0, PyData.canLayAll0, h.1, PyData.depth, PyData.depthAll, Bool.and_self]
  exact ⟨trivial, by omega⟩
theorem shapedPs (ps : List Pg) : SeqAt.shaped (.list (ps.map Pg.d)) = true := shapedL fun x hx => by
  obtain ⟨p, _, rfl⟩ := List.mem_map.mp hx
  exact ⟨(lay_Pg p).1, Nat.le_trans (lay_Pg p).2 (by omega)⟩
theorem ne_nil_list {xs : List PyData} : gNe (.list xs) (.list []) = if SeqAt.shaped (.list xs) = true then some (.d (.bool (!PyData.eqv (.list xs) (.list [])))) else none := by
  unfold gNe
  have : SeqAt.shaped (.list []) = true := by decide
  rw [this, Bool.and_true]
theorem passages_turn (ts : List Tk) (ht : ∀ t ∈ ts, t.ok) (hts : 1 ≤ ts.length) (hts2 : ts.length ≤ 8) (many : Int) (i : Nat) (hi : i < 10) (ρ : Rho) (h : PgsI (.list (ts.map Tk.d)) many i ρ) (d : Int) : W (gdName 4 (.d (.int d)) ρ) fun ρ1 => W (l__law_passages_4 ρ1) fun
      | .nx ρ2 => PgsI (.list (ts.map Tk.d)) many (i + 1) ρ2
      | _ => False := by
  obtain ⟨ps, a, b, s4, s5, s6, s7, s8, s9, s10, h1, h2, h3, rfl⟩ := h
  simp only [x_gdName, W_some, l__law_passages_4]
  have hz : ps.length < sizeLine := small_lt (by omega)
  refine W_seq ?_
  simp
  refine W_fn (ds := []) passage_W rfl h3 rfl rfl fun d a b ⟨p0, p0k, hp0⟩ ha => ?_
  subst hp0
  simp
  refine SeqK.nx ?_
  -- all that is left is the append
  have fin : ∀ (p1 : Pg) (a b : Int) (s4 s6 s7 s8 s9 s10 : Sl), p1.ok → 0 ≤ a → W (sSeq (sExpr (eMeth opAppend 3 (aCons (eVar 5) aNil))) sNil [pot a b, .d (.list (ts.map Tk.d)), .d (.int many), .l (ps.map Pg.d), s4, .d p1.d, s6, s7, s8, s9, s10]) fun
      | .nx ρ2 => PgsI (.list (ts.map Tk.d)) many (i + 1) ρ2
      | _ => False := fun p1 a b s4 s6 s7 s8 s9 s10 hk ha => by
    refine W_last ?_
    simp [hz]
    refine ⟨ps ++ [p1], a, b, s4, .d p1.d, s6, s7, s8, s9, s10, fun u hu => ?_, by simp [h2], ha, by rw [List.map_append]; rfl⟩
    rcases List.mem_append.mp hu with hu | hu
    · exact h1 u hu
    · rw [List.mem_singleton.mp hu]; exact hk
  refine W_seq ?_
  have hne : gNe (.list (ps.map Pg.d)) (.list []) = some (.d (.bool (!ps.isEmpty))) := by
    rw [ne_nil_list, if_pos (shapedPs ps), eqv_nilL, List.isEmpty_map]
  cases hps : ps with
  | nil =>
    subst hps
    simp at hne
    simp [q__law_passages_3, hne]
    exact SeqK.nx (fin p0 a b _ _ _ _ _ _ p0k ha)
  | cons pz pr =>
    have hps' : ps.isEmpty = false := by rw [hps]; rfl
    rw [← hps]
    rw [hps'] at hne
    simp [q__law_passages_3, hne]
    refine W_draw rfl ha rfl (by omega) (by omega) fun d1 a b hd1 hd2 ha => ?_
    simp
    split
    · -- another passage
      refine W_seq ?_
      simp
      refine W_pickPP rfl ha rfl (by omega) (by rw [hps]; simp) (by simp; omega) fun dd hdd a b ha => ?_
      obtain ⟨pp, hpp, rfl⟩ := List.mem_map.mp hdd
      have ppk := h1 pp hpp
      simp [Pg.d]
      refine SeqK.nx (W_seq ?_)
      simp
      refine W_pick rfl ?_
      simp
      refine ⟨_, .inl rfl, by simp; intro z; subst z; simp at hts, by simp; omega, a, b, ha, rfl, fun dt hdt a b ha => ?_⟩
      obtain ⟨tt, htt, rfl⟩ := List.mem_map.mp hdt
      have ttk := ht tt htt
      simp [Tk.d]
      refine SeqK.nx (W_seq ?_)
      simp [q__law_passages_2]
      refine W_pick rfl ?_
      simp
      refine ⟨_, .inl rfl, by simp, by simp, a, b, ha, rfl, fun dl hdl a b ha => ?_⟩
      have hl : ∃ l : Int, 0 ≤ l ∧ dl = .int l := by
        have q1 := ppk.b
        have q2 := ppk.l
        have q3 := ttk.m.1
        simp only [List.mem_cons, List.not_mem_nil, or_false] at hdl
        rcases hdl with rfl | rfl | rfl | rfl | rfl <;> exact ⟨_, by omega, rfl⟩
      obtain ⟨l, l0, rfl⟩ := hl
      simp
      refine SeqK.nx (W_last ?_)
      simp
      split
      · refine W_last ?_
        simp [q__law_passages_1]
        refine W_draw rfl ha rfl (by omega) (by omega) fun d2 a b hd3 hd4 ha => ?_
        simp
        refine W_pick rfl ?_
        simp [Pg.d]
        refine ⟨_, .inl rfl, by simp, by simp, a, b, ha, rfl, fun dz hdz a b ha => ?_⟩
        have hz : ∃ zs, zOk zs ∧ dz = zD zs := by
          simp only [List.mem_cons, List.not_mem_nil, or_false] at hdz
          rcases hdz with rfl | rfl
          · exact ⟨_, ppk.z, rfl⟩
          · exact ⟨_, p0k.z, rfl⟩
        obtain ⟨zs, z1, rfl⟩ := hz
        simp
        refine SeqK.nx (fin ⟨l, if l + 1 + d2 < 9999 then l + 1 + d2 else 9999, zs⟩ a b _ _ _ _ _ _ ⟨l0, ?_, ?_, z1⟩ ha)
        · show l < if l + 1 + d2 < 9999 then l + 1 + d2 else 9999
          split <;> omega
        · show (if l + 1 + d2 < 9999 then l + 1 + d2 else 9999) ≤ 9999
          split <;> omega
      · try simp
        exact SeqK.nx (fin p0 a b _ _ _ _ _ _ p0k ha)
    · try simp
      exact SeqK.nx (fin p0 a b _ _ _ _ _ _ p0k ha)
theorem passages_W (ts : List Tk) (ht : ∀ t ∈ ts, t.ok) (hts : 1 ≤ ts.length) (hts2 : ts.length ≤ 8) (many : Nat) (hm : many ≤ 10) (a b : Int) (ha : 0 ≤ a) : W (m__law_passages [pot a b, .d (.list (ts.map Tk.d)), .d (.int many)]) (PgsP many) := by
  have hr : range1D [.int (many : Int)] = some (rngD 0 1 many) := x_range1 (by omega) (by omega)
  refine W_body (W_seq ?_)
  simp
  refine SeqK.nx (W_seq ?_)
  simp [sFor, hr]
  have key := for_nx (gd := gdName 4) (g := l__law_passages_4) id (PgsI (.list (ts.map Tk.d)) many) (xs := rngD 0 1 many) (ρ := [pot a b, .d (.list (ts.map Tk.d)), .d (.int many), .l [], .u, .u, .u, .u, .u, .u, .u])
    ⟨[], a, b, .u, .u, .u, .u, .u, .u, .u, by simp, rfl, ha, rfl⟩ fun i d hd ρ h => by
      obtain ⟨hi, rfl⟩ := rngD_get hd
      exact passages_turn ts ht hts hts2 many i (by omega) ρ h _
  rw [List.map_id] at key
  refine key.mono fun o ⟨ρ', h1, ps, a, b, s4, s5, s6, s7, s8, s9, s10, h2, h3, h4, h5⟩ => ?_
  subst h1 h5
  refine SeqK.nx (W_last ?_)
  simp
  refine BodyK.ret (by simp) ?_
  simp [keepP]
  exact ⟨ps, a, b, h2, by simpa using h3, h4, rfl⟩
end K9
end PK90F
section PK90G
set_option maxHeartbeats 2000000
open PySem PySem.Spec PyProof.Rows L2 DL
namespace K9
/-! the program's own checks -/
theorem is_integer_v (v : PyData) : m_is_integer [.d v] = some (.d (.bool (isIntD v)), [.u]) := by
  refine W_eq.mp (W_body (W_last ?_))
  cases h1 : isIntD v <;> cases h2 : isBoolD v <;> simp [h1, h2]
  all_goals first
    | exact BodyK.ret (by simp) rfl
    | (cases v <;> simp [isIntD, isBoolD] at h1 h2)
def btw (v : PyData) (l m : Int) : Bool := match v with
  | .int i => decide (l ≤ i) && decide (i ≤ m)
  | _ => false
theorem is_between_v (v : PyData) (l m : Int) : m_is_between [.d v, .d (.int l), .d (.int m)] = some (.d (.bool (btw v l m)), [.u, .u, .u]) := by
  refine W_eq.mp (W_body (W_last ?_))
  have out : ∀ b, btw v l m = b → BodyK 3 (fun x => x = (.d (.bool (btw v l m)), [.u, .u, .u])) (.ret (.d (.bool b)) [.d v, .d (.int l), .d (.int m)]) := fun b h => BodyK.ret (by simp) (by simp [keepP, h])
  cases v with
  | int i =>
    by_cases h : l ≤ i
    · simp [is_integer_v, h]
      exact out _ (by simp [btw, h])
    · simp [is_integer_v, h]
      exact out _ (by simp [btw, h])
  | none => simp [is_integer_v, isIntD]; exact out _ rfl
  | bool _ => simp [is_integer_v, isIntD]; exact out _ rfl
  | str _ => simp [is_integer_v, isIntD]; exact out _ rfl
  | list _ => simp [is_integer_v, isIntD]; exact out _ rfl
  | tuple _ => simp [is_integer_v, isIntD]; exact out _ rfl
  | dict _ => simp [is_integer_v, isIntD]; exact out _ rfl
def riseB (ns : List Int) : Bool := (ns.zip (ns.drop 1)).all fun p => decide (p.1 < p.2)
theorem riseB_iff : ∀ ns : List Int, riseB ns = true ↔ ns.Pairwise (· < ·)
  | [] => by simp [riseB]
  | [a] => by simp [riseB]
  | a :: b :: ns => by
    have ih := riseB_iff (b :: ns)
    have e : riseB (a :: b :: ns) = (decide (a < b) && riseB (b :: ns)) := by simp [riseB]
    rw [e, Bool.and_eq_true, decide_eq_true_eq, ih, List.pairwise_cons (a := a)]
    constructor
    · rintro ⟨h1, h2⟩
      refine ⟨fun x hx => ?_, h2⟩
      rcases List.mem_cons.mp hx with rfl | hx
      · exact h1
      · exact Int.lt_trans h1 ((List.pairwise_cons.mp h2).1 x hx)
    · rintro ⟨h1, h2⟩
      exact ⟨h1 b List.mem_cons_self, h2⟩
def pairD (p : Int × Int) : PyData := .tuple [.int p.1, .int p.2]
theorem zip_ints : ∀ ns ms : List Int, zipD (ns.map .int) (ms.map .int) = (ns.zip ms).map pairD
  | [], _ => rfl
  | _ :: _, [] => rfl
  | n :: ns, m :: ms => by
    have ih := zip_ints ns ms
    unfold zipD at ih ⊢
    simp only [List.map_cons, List.zipWith_cons_cons, List.zip_cons_cons, ih]
    rfl
theorem are_rising_v (ns : List Int) (hz : ns.length ≤ 1000) : m_are_rising [.d (.tuple (ns.map .int))] = some (.d (.bool (riseB ns)), [.u]) := by
  refine W_eq.mp (W_body (W_last ?_))
  simp only [q_are_rising_1, x_sRet, x_eApp, x_aCons, W_bind, W_map]
  refine W_compA pairD (fun p => .bool (decide (p.1 < p.2))) (ns.zip (ns.drop 1)) (ρ' := [.d (.tuple (ns.map .int)), .u, .u]) ?_ (fun p hp => by simp [pairD]) ?_ ?_
  · simp only [List.cons_append, List.nil_append, List.replicate]
    simp [zip2D, cut1]
    have e : (ns.map PyData.int).tail = ns.tail.map .int := by cases ns <;> rfl
    rw [e, zip_ints]
  · simp only [List.length_zip]
    omega
  · simp only [x_data_l, x_aNil, x_oms, W_some, all_M]
    exact BodyK.ret (by simp) rfl
theorem btw_true {i l m : Int} (h1 : l ≤ i) (h2 : i ≤ m) : btw (.int i) l m = true := by simp [btw, h1, h2]
theorem are_zones_ok (zs : List Int) (h : zOk zs) : m_are_zones [.d (zD zs)] = some (.d (.bool true), [.u]) := by
  obtain ⟨h0, h1, h2, h3⟩ := h
  have hl : 0 < zs.length := List.length_pos_iff.mpr h0
  have c1 : (1 : Int) ≤ zs.length := by omega
  have c2 : (zs.length : Int) ≤ 4 := by omega
  refine W_eq.mp (W_body (W_seq ?_))
  simp [q_are_zones_2, zD, c1, c2]
  refine SeqK.nx (W_last ?_)
  simp only [q_are_zones_1, x_sRet, x_eAnd, x_eApp, x_aCons, W_bind, W_map]
  refine W_compA .int (fun _ => .bool true) zs (ρ' := [.d (.tuple (zs.map .int)), .u]) (by simp) (fun z hz => by
    have := h2 z hz
    simp [is_between_v, btw_true this.1 this.2]) (by omega) ?_
  have e : gAll [.list (zs.map fun _ => PyData.bool true)] = some (.d (.bool true)) := by rw [all_M]; simp
  simp [e, are_rising_v zs (by omega), (riseB_iff zs).mpr h3]
  exact BodyK.ret (by simp) rfl
theorem Tk.ticket (t : Tk) (h : t.ok) : m_is_ticket [.d t.d] = some (.d (.bool true), [.u]) := by
  refine W_eq.mp (W_body (W_seq ?_))
  have hs : gNe (.str "ticket") (.str "ticket") = some (.d (.bool false)) := by
    unfold gNe
    rw [if_pos (by decide +kernel)]
    simp [PyData.eqv]
  simp [q_is_ticket_3, Tk.d, hs]
  refine SeqK.nx (W_seq ?_)
  simp [q_is_ticket_2, is_between_v, btw_true h.p.1 h.p.2, btw_true h.m.1 h.m.2]
  refine SeqK.nx (W_last ?_)
  simp [q_is_ticket_1, are_zones_ok _ h.z, is_between_v, btw_true h.n.1 h.n.2]
  exact BodyK.ret (by simp) rfl
theorem Pg.passage (p : Pg) (h : p.ok) : m_is_passage [.d p.d] = some (.d (.bool true), [.u]) := by
  have h1 := h.b
  have h2 := h.l
  have h3 := h.e
  refine W_eq.mp (W_body (W_seq ?_))
  simp [q_is_passage_3, Pg.d]
  refine SeqK.nx (W_seq ?_)
  simp [q_is_passage_2, is_between_v, btw_true h.b (show p.b ≤ 9999 by omega), btw_true (show 0 ≤ p.e by omega) h.e]
  refine SeqK.nx (W_last ?_)
  simp [q_is_passage_1, are_zones_ok _ h.z, h2]
  exact BodyK.ret (by simp) rfl
/-- a list, a tuple -/
inductive SeqOf (xs : List PyData) : PyData → Prop
  | l : SeqOf xs (.list xs)
  | t : SeqOf xs (.tuple xs)
theorem all_true {α : Type} (xs : List α) : gAll [.list (xs.map fun _ => PyData.bool true)] = some (.d (.bool true)) := by rw [all_M]; simp
theorem want_tickets_ok (ts : List Tk) (ht : ∀ t ∈ ts, t.ok) (h1 : 1 ≤ ts.length) (h2 : ts.length ≤ 8) {v : PyData} (hv : SeqOf (ts.map Tk.d) v) : m_want_tickets [.d v] = some (.d v, [.u]) := by
  have c1 : (1 : Int) ≤ ts.length := by omega
  have c2 : (ts.length : Int) ≤ 8 := by omega
  have are : m_are_tickets [.d v] = some (.d (.bool true), [.u]) := by
    refine W_eq.mp (W_body (W_seq ?_))
    have go : ∀ ρ, ρ = [Sl.d v, Sl.u] → W (sSeq (sRet (eApp gAll (aCons (eComp [1] (iSeq (eVar 0)) (gdName 1) tAll (eCall 1 m_is_ticket (aCons (eVar 1) aNil))) aNil))) sNil ρ) (BodyK 1 fun x => x = (.d (.bool true), [.u])) := fun ρ hρ => by
      subst hρ
      refine W_last ?_
      simp only [x_sRet, x_eApp, x_aCons, W_bind, W_map]
      refine W_compA Tk.d (fun _ => .bool true) ts (ρ' := [.d v, .u]) (by cases hv <;> simp) (fun t h => by simp [t.ticket (ht t h)]) (by omega) ?_
      simp [all_true]
      exact BodyK.ret (by simp) rfl
    cases hv
    · simp [q_are_tickets_1, c1, c2]
      exact SeqK.nx (go _ rfl)
    · simp [q_are_tickets_1, c1, c2]
      exact SeqK.nx (go _ rfl)
  refine W_eq.mp (W_body (W_seq ?_))
  simp [are]
  refine SeqK.nx (W_last ?_)
  simp
  exact BodyK.ret (by simp) rfl
theorem want_passages_ok (ps : List Pg) (hp : ∀ p ∈ ps, p.ok) (h2 : ps.length ≤ 10) {v : PyData} (hv : SeqOf (ps.map Pg.d) v) : m_want_passages [.d v] = some (.d v, [.u]) := by
  have c2 : ¬ (10 : Int) < ps.length := by omega
  have are : m_are_passages [.d v] = some (.d (.bool true), [.u]) := by
    refine W_eq.mp (W_body (W_seq ?_))
    have go : ∀ ρ, ρ = [Sl.d v, Sl.u] → W (sSeq (sRet (eApp gAll (aCons (eComp [1] (iSeq (eVar 0)) (gdName 1) tAll (eCall 1 m_is_passage (aCons (eVar 1) aNil))) aNil))) sNil ρ) (BodyK 1 fun x => x = (.d (.bool true), [.u])) := fun ρ hρ => by
      subst hρ
      refine W_last ?_
      simp only [x_sRet, x_eApp, x_aCons, W_bind, W_map]
      refine W_compA Pg.d (fun _ => .bool true) ps (ρ' := [.d v, .u]) (by cases hv <;> simp) (fun t h => by simp [t.passage (hp t h)]) (by omega) ?_
      simp [all_true]
      exact BodyK.ret (by simp) rfl
    cases hv
    · simp [q_are_passages_1, c2]
      exact SeqK.nx (go _ rfl)
    · simp [q_are_passages_1, c2]
      exact SeqK.nx (go _ rfl)
  refine W_eq.mp (W_body (W_seq ?_))
  simp [are]
  refine SeqK.nx (W_last ?_)
  simp
  exact BodyK.ret (by simp) rfl
end K9
end PK90G
section PK90Hh
set_option maxHeartbeats 2000000
open PySem PySem.Spec PyProof.Rows L2 DL
namespace K9
/-! when a ticket covers passages -/
def at' (o : Pg) (m : Int) : Bool := decide (o.b ≤ m) && decide (m < o.e)
def cnt (ps : List Pg) (m : Int) : Int := (ps.filter fun o => at' o m).length
def minB : List Pg → Int
  | [] => 0
  | p :: ps => minI p.b (ps.map Pg.b)
def inZ (t : Tk) (p : Pg) : Bool := p.zones.all fun z => decide (z ∈ t.zones)
def okAt (t : Tk) (m : Int) (p : Pg) : Bool := !decide (t.minutes ≤ p.b - m) && inZ t p
def covB (t : Tk) (ps : List Pg) : Bool := (ps.all (okAt t (minB ps))) && ps.all fun p => decide (cnt ps p.b ≤ t.persons)
def most (ps : List Pg) (qs : List Pg) : Int := qs.foldl (fun f p => if cnt ps p.b > f then cnt ps p.b else f) 0
theorem most_le (ps : List Pg) (k : Int) : ∀ (qs : List Pg) (f : Int), qs.foldl (fun f p => if cnt ps p.b > f then cnt ps p.b else f) f ≤ k ↔ f ≤ k ∧ ∀ p ∈ qs, cnt ps p.b ≤ k
  | [], f => by simp
  | q :: qs, f => by
    rw [List.foldl_cons, most_le ps k qs]
    constructor
    · rintro ⟨h1, h2⟩
      refine ⟨by split at h1 <;> omega, fun p hp => ?_⟩
      rcases List.mem_cons.mp hp with rfl | hp
      · split at h1 <;> omega
      · exact h2 p hp
    · rintro ⟨h1, h2⟩
      have := h2 q List.mem_cons_self
      exact ⟨by split <;> omega, fun p hp => h2 p (List.mem_cons_of_mem _ hp)⟩
theorem take_at {α : Type} {xs : List α} {i : Nat} {x : α} (h : xs[i]? = some x) : xs.take (i + 1) = xs.take i ++ [x] := by
  rw [List.take_add_one, h]
  rfl
theorem most_take (ps qs : List Pg) {i : Nat} {p : Pg} (h : qs[i]? = some p) : most ps (qs.take (i + 1)) = if cnt ps p.b > most ps (qs.take i) then cnt ps p.b else most ps (qs.take i) := by
  unfold most
  rw [take_at h, List.foldl_append]
  rfl
theorem most_at_once_v (ps : List Pg) (hz : ps.length ≤ 1000) : m_most_at_once [.d (.list (ps.map Pg.d))] = some (.d (.int (most ps ps)), [.u]) := by
  refine W_eq.mp (W_body (W_seq ?_))
  simp
  refine SeqK.nx (W_seq ?_)
  simp [sFor]
  have key := for_nx (gd := gdTup 3 (gdCons (gdName 2) (gdCons (gdName 3) (gdCons (gdName 4) gdNil)))) (g := l_most_at_once_2) Pg.d (fun i ρ => ∃ s2 s3 s4 s5, ρ = [.d (.list (ps.map Pg.d)), .d (.int (most ps (ps.take i))), s2, s3, s4, s5, .u]) (xs := ps) (ρ := [.d (.list (ps.map Pg.d)), .d (.int 0), .u, .u, .u, .u, .u]) ⟨_, _, _, _, rfl⟩ fun i p hp ρ h => by
    obtain ⟨s2, s3, s4, s5, rfl⟩ := h
    simp [Pg.d, l_most_at_once_2]
    refine W_seq ?_
    simp only [q_most_at_once_1, x_sSet, W_map]
    refine W_comp Pg.d (fun o => at' o p.b) Pg.d ps (ρ' := [.d (.list (ps.map Pg.d)), .d (.int (most ps (ps.take i))), .d (.int p.b), .d (.int p.e), .d (zD p.zones), s5, .u]) (by simp) (fun o ho => ?_) (by omega) ?_
    · simp [Pg.d]
      by_cases h : o.b ≤ p.b <;> simp [h, at']
    · simp
      refine SeqK.nx (W_last ?_)
      simp
      rw [most_take ps ps hp]
      rfl
  refine key.mono fun o ⟨ρ', h1, s2, s3, s4, s5, h2⟩ => ?_
  subst h1 h2
  refine SeqK.nx (W_last ?_)
  simp
  exact BodyK.ret (by simp) rfl
theorem zD_in (z : Int) (t : Tk) : gIn true (.int z) (zD t.zones) = some (.d (.bool (!decide (z ∈ t.zones)))) := by
  unfold zD
  rw [in_ints]
  simp
theorem does_cover_v (t : Tk) (ps : List Pg) (h0 : ps ≠ []) (hz : ps.length ≤ 1000) (hzo : ∀ p ∈ ps, p.zones.length ≤ 10000) (hn : 0 ≤ t.persons) : m_does_cover [.d t.d, .d (.list (ps.map Pg.d))] = some (.d (.bool (covB t ps)), [.u, .u]) := by
  refine W_eq.mp (W_body (W_seq ?_))
  simp only [x_sSet, x_eApp, x_aCons, W_bind, W_map]
  refine W_compA Pg.d (fun p => .int p.b) ps (ρ' := [.d t.d, .d (.list (ps.map Pg.d)), .u, .u, .u, .u, .u, .u]) (by simp) (fun p hp => by simp [Pg.d]) (by omega) ?_
  have hm : gMin [.list (ps.map fun p => PyData.int p.b)] = some (.d (.int (minB ps))) := by
    cases ps with
    | nil => exact absurd rfl h0
    | cons p ps =>
      have := min_L p.b (ps.map Pg.b)
      simp only [List.map_cons, List.map_map] at this
      exact this
  simp [hm]
  refine SeqK.nx (W_seq ?_)
  simp [sFor]
  have key := for_gen (gd := gdTup 3 (gdCons (gdName 3) (gdCons (gdName 4) (gdCons (gdName 5) gdNil)))) (g := l_does_cover_2) Pg.d (fun i ρ => (∀ p ∈ ps.take i, okAt t (minB ps) p = true) ∧ ∃ s3 s4 s5, ρ = [.d t.d, .d (.list (ps.map Pg.d)), .d (.int (minB ps)), s3, s4, s5, .u, .u])
    (fun i r ρ => r = .d (.bool false) ∧ (∃ p ∈ ps, okAt t (minB ps) p = false) ∧ ∃ s2 s3 s4 s5 s6 s7, ρ = [.d t.d, .d (.list (ps.map Pg.d)), s2, s3, s4, s5, s6, s7]) ps 0 [.d t.d, .d (.list (ps.map Pg.d)), .d (.int (minB ps)), .u, .u, .u, .u, .u] ⟨by simp, _, _, _, rfl⟩ fun i p hp ρ h => by
    obtain ⟨hall, s3, s4, s5, rfl⟩ := h
    have hpm := List.mem_of_getElem? hp
    simp only [Nat.zero_add] at hall ⊢
    simp [Pg.d, l_does_cover_2]
    refine W_last ?_
    have ix2 : gIx t.d (.int 2) = some (.d (.int t.minutes)) := by simp [Tk.d]
    have ix3 : gIx t.d (.int 3) = some (.d (zD t.zones)) := by simp [Tk.d]
    by_cases hc : t.minutes ≤ p.b - minB ps
    · simp [q_does_cover_1, ix2, hc]
      refine W_last ?_
      simp
      exact ⟨p, hpm, by simp [okAt, hc]⟩
    · simp [q_does_cover_1, ix2, hc]
      refine W_compA .int (fun z => .bool (!decide (z ∈ t.zones))) p.zones (ρ' := [.d t.d, .d (.list (ps.map Pg.d)), .d (.int (minB ps)), .d (.int p.b), .d (.int p.e), .d (zD p.zones), .u, .u]) (by simp [zD]) (fun z hz => by simp [ix3, zD_in]) (hzo p hpm) ?_
      have e : gAny [.list (p.zones.map fun z => PyData.bool (!decide (z ∈ t.zones)))] = some (.d (.bool (!inZ t p))) := by
        rw [any_M]
        unfold inZ
        rw [List.not_all_eq_any_not]
      cases hin : inZ t p with
      | true =>
        simp [e, hin]
        rw [take_at hp]
        intro q hq
        rcases List.mem_append.mp hq with hq | hq
        · exact hall q hq
        · rw [List.mem_singleton.mp hq]; simp [okAt, hc, hin]
      | false =>
        simp [e, hin]
        refine W_last ?_
        simp
        exact ⟨p, hpm, by simp [okAt, hin]⟩
  have ix4 : gIx t.d (.int 4) = some (.d (.int t.persons)) := by simp [Tk.d]
  refine key.mono fun o h => ?_
  rcases h with ⟨ρ', rfl, hall, s3, s4, s5, rfl⟩ | ⟨i, r, ρ', hi, rfl, rfl, ⟨p, hp, hb⟩, s2, s3, s4, s5, s6, s7, rfl⟩
  · refine SeqK.nx (W_last ?_)
    simp [most_at_once_v ps hz, ix4]
    refine BodyK.ret (by simp) ?_
    have e : covB t ps = decide (most ps ps ≤ t.persons) := by
      have h1 : ps.all (okAt t (minB ps)) = true := List.all_eq_true.mpr fun p hp => hall p (by simpa using hp)
      unfold covB
      rw [h1, Bool.true_and, Bool.eq_iff_iff, decide_eq_true_eq, List.all_eq_true]
      have := most_le ps t.persons ps 0
      unfold most
      rw [this]
      simp [hn]
    simp [keepP, e]
  · have e : covB t ps = false := by
      unfold covB
      rw [Bool.and_eq_false_iff]
      exact .inl (List.all_eq_false.mpr ⟨p, hp, by simp [hb]⟩)
    exact SeqK.ret (BodyK.ret (by simp) (by simp [keepP, e]))
end K9
end PK90Hh
section PK90I
set_option maxHeartbeats 2000000
open PySem PySem.Spec PyProof.Rows L2 DL
namespace K9
def bsOf (ps : List Pg) : List PyData := ps.map fun p => PyData.int p.b
theorem min_bs {ps : List Pg} (h : ps ≠ []) : gMin [.list (bsOf ps)] = some (.d (.int (minB ps))) := by
  cases ps with
  | nil => exact absurd rfl h
  | cons p ps =>
    have := min_L p.b (ps.map Pg.b)
    simp only [List.map_cons, List.map_map] at this
    exact this
def LcS (t : Tk) (ps : List Pg) (s7 s8 s9 s10 : Sl) : Rho := [.d t.d, .d (.list (ps.map Pg.d)), .d (.str "ticket"), .d (.int t.price), .d (.int t.minutes), .d (zD t.zones), .d (.int t.persons), s7, s8, s9, s10, .u, .u]
def LcI (t : Tk) (ps : List Pg) (i : Nat) (ρ : Rho) : Prop := (∀ p ∈ ps.take i, okAt t (minB ps) p = true) ∧ ∃ s7 s8 s9 s10, (s7 = .l (bsOf ps) ∨ s7 = .d (.list (bsOf ps))) ∧ ρ = LcS t ps s7 s8 s9 s10
def LcR (t : Tk) (ps : List Pg) (i : Nat) (r : Rs) (ρ : Rho) : Prop := r = .d (.bool false) ∧ (∃ p ∈ ps, okAt t (minB ps) p = false) ∧ ∃ s7 s8 s9 s10, ρ = LcS t ps s7 s8 s9 s10
theorem lc_turn (t : Tk) (ps : List Pg) (hzo : ∀ p ∈ ps, p.zones.length ≤ 1000) (i : Nat) (p : Pg) (hp : ps[i]? = some p) (ρ : Rho) (h : LcI t ps i ρ) : W (gdTup 3 (gdCons (gdName 8) (gdCons (gdName 9) (gdCons (gdName 10) gdNil))) (.d p.d) ρ) fun ρ1 => W (l__law_covers_2 ρ1) fun
      | .nx ρ2 => LcI t ps (i + 1) ρ2
      | .ct ρ2 => LcI t ps (i + 1) ρ2
      | .ret r ρ2 => LcR t ps i r ρ2
      | .bk _ => False := by
  obtain ⟨hall, s7, s8, s9, s10, h7, rfl⟩ := h
  have hpm := List.mem_of_getElem? hp
  have hm := min_bs (List.ne_nil_of_mem hpm)
  have e := ne_nil (xs := (p.zones.filter fun z => !decide (z ∈ t.zones)).map .int) (shaped_ints _)
  have e2 : ((p.zones.filter fun z => !decide (z ∈ t.zones)).map PyData.int).isEmpty = inZ t p := by
    rw [List.isEmpty_map, Bool.eq_iff_iff, List.isEmpty_iff, List.filter_eq_nil_iff]
    simp [inZ]
  rw [e2] at e
  have good : okAt t (minB ps) p = true → LcI t ps (i + 1) (LcS t ps (.d (.list (bsOf ps))) (.d (.int p.b)) (.d (.int p.e)) (.d (zD p.zones))) := fun hk => by
    refine ⟨fun q hq => ?_, _, _, _, _, .inr rfl, rfl⟩
    rw [take_at hp] at hq
    rcases List.mem_append.mp hq with hq | hq
    · exact hall q hq
    · rw [List.mem_singleton.mp hq]; exact hk
  have bad : okAt t (minB ps) p = false → LcR t ps i (.d (.bool false)) (LcS t ps (.d (.list (bsOf ps))) (.d (.int p.b)) (.d (.int p.e)) (.d (zD p.zones))) := fun hk => ⟨rfl, ⟨p, hpm, hk⟩, _, _, _, _, rfl⟩
  rcases h7 with rfl | rfl
  all_goals
    simp [Pg.d, l__law_covers_2, LcS]
    refine W_last ?_
    by_cases hc : t.minutes ≤ p.b - minB ps
    · simp [q__law_covers_1, hm, hc]
      refine W_last ?_
      simp
      exact bad (by simp [okAt, hc])
    · simp [q__law_covers_1, hm, hc]
      refine W_comp .int (fun z => !decide (z ∈ t.zones)) .int p.zones (ρ' := LcS t ps (.d (.list (bsOf ps))) (.d (.int p.b)) (.d (.int p.e)) (.d (zD p.zones))) (by simp [zD, LcS]) (fun z hz => by simp [zD_in, LcS]) (Nat.le_trans (hzo p hpm) (by omega)) ?_
      simp [LcS]
      cases hin : inZ t p with
      | true =>
        rw [hin] at e
        simp at e
        simp [e]
        exact good (by simp [okAt, hc, hin])
      | false =>
        rw [hin] at e
        simp at e
        simp [e]
        refine W_last ?_
        simp
        exact bad (by simp [okAt, hin])
theorem law_covers_v (t : Tk) (ps : List Pg) (hz : ps.length ≤ 1000) (hzo : ∀ p ∈ ps, p.zones.length ≤ 1000) : m__law_covers [.d t.d, .d (.list (ps.map Pg.d))] = some (.d (.bool (covB t ps)), [.u, .u]) := by
  refine W_eq.mp (W_body (W_seq ?_))
  simp [Tk.d]
  refine SeqK.nx (W_seq ?_)
  simp only [x_sSet, W_map]
  refine W_compA Pg.d (fun p => .int p.b) ps (ρ' := LcS t ps .u .u .u .u) (by simp [Tk.d, LcS]) (fun p hp => by simp [Pg.d, LcS]) (by omega) ?_
  simp [LcS]
  refine SeqK.nx (W_seq ?_)
  simp [sFor]
  have key := for_gen (gd := gdTup 3 (gdCons (gdName 8) (gdCons (gdName 9) (gdCons (gdName 10) gdNil)))) (g := l__law_covers_2) Pg.d (LcI t ps) (LcR t ps) ps 0 (LcS t ps (.l (bsOf ps)) .u .u .u) ⟨by simp, _, _, _, _, .inl rfl, rfl⟩ fun i p hp ρ h => by
    rw [Nat.zero_add] at h ⊢
    exact lc_turn t ps hzo i p hp ρ h
  refine key.mono fun o h => ?_
  rcases h with ⟨ρ', rfl, hall, s7, s8, s9, s10, h7, rfl⟩ | ⟨i, r, ρ', hi, rfl, rfl, ⟨p, hp, hb⟩, s7, s8, s9, s10, rfl⟩
  · refine SeqK.nx (W_last ?_)
    have h1 : ps.all (okAt t (minB ps)) = true := List.all_eq_true.mpr fun p hp => hall p (by simpa using hp)
    have e : covB t ps = ps.all fun p => decide (cnt ps p.b ≤ t.persons) := by
      unfold covB
      rw [h1, Bool.true_and]
    rw [e]
    simp only [q__law_covers_3, x_sRet, x_eApp, x_aCons, W_bind, W_map]
    refine W_compI (fun i acc ρ => acc = (ps.take i).map (fun p => PyData.bool (decide (cnt ps p.b ≤ t.persons))) ∧ ∃ s8 s9 s10, ρ = LcS t ps (.d (.list (bsOf ps))) s8 s9 s10) (bsOf ps) (ρ' := LcS t ps (.d (.list (bsOf ps))) s8 s9 s10) (by rcases h7 with rfl | rfl <;> simp [LcS]) ⟨by simp, s8, s9, s10, by simp [LcS]⟩ (fun i d hd acc ρ h => ?_) fun acc ρ h => ?_
    · obtain ⟨h2, s8, s9, s10, rfl⟩ := h
      obtain ⟨q, hq, rfl⟩ : ∃ q : Pg, ps[i]? = some q ∧ d = .int q.b := by
        unfold bsOf at hd
        rw [List.getElem?_map] at hd
        cases z : ps[i]? with
        | none => rw [z] at hd; cases hd
        | some q => rw [z] at hd; exact ⟨q, rfl, (Option.some.inj hd).symm⟩
      simp [LcS]
      refine W_comp Pg.d (fun o => at' o q.b) (fun _ => .int 1) ps (ρ' := [.d t.d, .d (.list (ps.map Pg.d)), .d (.str "ticket"), .d (.int t.price), .d (.int t.minutes), .d (zD t.zones), .d (.int t.persons), .d (.list (bsOf ps)), s8, s9, s10, .u, .d (.int q.b)]) (by simp) (fun o ho => ?_) (by omega) ?_
      · simp [Pg.d]
        by_cases h : o.b ≤ q.b <;> simp [h, at']
      · have hlt := (List.getElem?_eq_some_iff.mp hq).1
        have hc : ((ps.filter fun o => at' o q.b).length : Int) = cnt ps q.b := rfl
        simp [hc, h2]
        refine ⟨small_lt (by omega), ?_⟩
        rw [← List.map_take, ← List.map_take, take_at hq, List.map_append]
        rfl
    · obtain ⟨h2, s8, s9, s10, rfl⟩ := h
      have hl : (bsOf ps).length = ps.length := by simp [bsOf]
      rw [hl, List.take_length] at h2
      subst h2
      simp [all_M]
      exact BodyK.ret (by simp [LcS]) (by simp [LcS, keepP])
  · have e : covB t ps = false := by
      unfold covB
      rw [Bool.and_eq_false_iff]
      exact .inl (List.all_eq_false.mpr ⟨p, hp, by simp [hb]⟩)
    exact SeqK.ret (BodyK.ret (by simp [LcS]) (by simp [keepP, e, LcS]))
end K9
end PK90I
section PK90J
set_option maxHeartbeats 2000000
open PySem PySem.Spec PyProof.Rows L2 DL
namespace K9
def optD : Option Int → PyData
  | none => .none
  | some i => .int i
def minO : List Int → Option Int
  | [] => none
  | n :: ns => some (minI n ns)
def sgl (ts : List Tk) (ps : List Pg) : Option Int := minO ((ts.filter fun t => covB t ps).map Tk.price)
theorem law_single_v (ts : List Tk) (ps : List Pg) (ht : ts.length ≤ 1000) (hz : ps.length ≤ 1000) (hzo : ∀ p ∈ ps, p.zones.length ≤ 1000) : m__law_single [.d (.list (ts.map Tk.d)), .d (.list (ps.map Pg.d))] = some (.d (optD (sgl ts ps)), [.u, .u]) := by
  refine W_eq.mp (W_body (W_seq ?_))
  simp only [q__law_single_1, x_sSet, W_map]
  refine W_comp Tk.d (fun t => covB t ps) (fun t => .int t.price) ts (ρ' := [.d (.list (ts.map Tk.d)), .d (.list (ps.map Pg.d)), .u, .u]) (by simp) (fun t h => ?_) (by omega) ?_
  · simp [law_covers_v t ps hz hzo]
    intro _
    simp [Tk.d]
  · simp
    refine SeqK.nx (W_last ?_)
    have e := ne_nil (xs := (((ts.filter fun t => covB t ps).map Tk.price).map .int)) (shaped_ints _)
    rw [List.map_map] at e
    have e' : gNe (.list ((ts.filter fun t => covB t ps).map fun t => PyData.int t.price)) (.list []) = some (.d (.bool (!((ts.filter fun t => covB t ps).map Tk.price).isEmpty))) := by
      rw [List.isEmpty_map]
      rw [List.isEmpty_map] at e
      exact e
    cases hq : ts.filter fun t => covB t ps with
    | nil =>
      rw [hq] at e'
      simp at e'
      simp [e']
      exact BodyK.ret (by simp) (by simp [keepP, sgl, hq, minO, optD])
    | cons t r =>
      rw [hq] at e'
      simp at e'
      have hm := min_L t.price (r.map Tk.price)
      simp only [List.map_cons, List.map_map] at hm
      have hm' : gMin [.list (.int t.price :: r.map fun t => PyData.int t.price)] = some (.d (.int (minI t.price (r.map Tk.price)))) := hm
      simp [e', hm']
      exact BodyK.ret (by simp) (by simp [keepP, sgl, hq, minO, optD])
end K9
end PK90J
section PK90K
set_option maxHeartbeats 2000000
open PySem PySem.Spec PyProof.Rows L2 DL
namespace K9
/-! places of a number -/
def natD (n : Nat) : PyData := .int (n : Int)
def plk (n p : Nat) : List Nat := (List.range p).filter fun j => n.testBit j
/-- the places of a number below 2 ^ 20 -/
def plc (n : Nat) : List Nat := plk n 20
theorem plk_stop {n p q : Nat} (h : n < 2 ^ p) (hq : p ≤ q) : plk n q = plk n p := by
  induction hq with
  | refl => rfl
  | @step q hq ih =>
    have : n.testBit q = false := Nat.testBit_lt_two_pow (Nat.lt_of_lt_of_le h (Nat.pow_le_pow_right (by omega) hq))
    unfold plk at ih ⊢
    rw [List.range_succ, List.filter_append, ih]
    simp [this]
theorem plk_eq {n p : Nat} (h : n < 2 ^ p) (hp : p ≤ 20) : plk n p = plc n := (plk_stop h hp).symm
theorem plk_succ (n p : Nat) : plk n (p + 1) = plk n p ++ if n.testBit p = true then [p] else [] := by
  unfold plk
  rw [List.range_succ, List.filter_append]
  cases h : n.testBit p <;> simp [h]
theorem shr_nat (n p : Nat) : gShr (.int n) (.int p) = some (.d (.int ((n / 2 ^ p : Nat) : Int))) := by
  unfold gShr gI
  simp only
  rw [if_pos (by simp)]
  simp
theorem plk_len (n p : Nat) : (plk n p).length ≤ p := by
  unfold plk
  exact Nat.le_trans (List.length_filter_le _ _) (by simp)
def PlI (n m : Nat) (ρ : Rho) : Prop := ∃ p : Nat, m = n / 2 ^ p ∧ p ≤ 20 ∧ ρ = [.d (.int n), .l ((plk n p).map natD), .d (.int p)]
def PlP (n : Nat) (ρ : Rho) : Prop := ∃ p : Nat, ρ = [.d (.int n), .l ((plc n).map natD), .d (.int p)]
theorem places_in_v (n : Nat) (h : n < 2 ^ 20) : m_places_in [.d (natD n)] = some (.l ((plc n).map natD), [.u]) := by
  refine W_eq.mp (W_body (W_seq ?_))
  simp [natD]
  refine SeqK.nx (W_seq ?_)
  have key := while_run (t := tVal (eBin gGt (eBin gShr (eVar 0) (eVar 2)) (eK (.int 0)))) (g := l_places_in_2) (PlI n) (PlP n) (fun m ρ hm => ?_) (n / 2 ^ 0) [.d (.int n), .l [], .d (.int 0)] ⟨0, rfl, by omega, rfl⟩
  · refine key.mono fun o ⟨ρ', h1, p, h2⟩ => ?_
    subst h1 h2
    refine SeqK.nx (W_last ?_)
    simp
    exact BodyK.ret (by simp) rfl
  · obtain ⟨p, h1, h2, rfl⟩ := hm
    have hs := shr_nat n p
    obtain ⟨q, hq⟩ : ∃ q, q = n / 2 ^ p := ⟨_, rfl⟩
    rw [← hq] at hs
    have hb : gEq (.int (Builtin.bitAnd (q : Int) 1)) (.int 1) = some (.d (.bool (n.testBit p))) := by
      rw [bitAnd_m1, x_eqI, Nat.testBit_eq_decide_div_mod_eq, hq]
      congr 3
      simp only [decide_eq_decide]
      omega
    by_cases hpos : 0 < q
    · have hp : p < 20 := by
        by_cases hc : p < 20
        · exact hc
        · have e : p = 20 := by omega
          subst e
          rw [Nat.div_eq_of_lt h] at hq
          omega
      have nxt : n / 2 ^ (p + 1) < m := by
        rw [h1, Nat.pow_succ, ← Nat.div_div_eq_div_mul, ← hq]
        omega
      have go : ∀ xs : List PyData, xs = (plk n (p + 1)).map natD → W (sSeq (sSet 2 (eBin gAdd (eVar 2) (eK (.int 1)))) sNil [.d (.int n), .l xs, .d (.int p)]) fun
          | .nx ρ2 => ∃ m', m' < m ∧ PlI n m' ρ2
          | _ => False := fun xs hx => by
        refine W_last ?_
        simp
        exact ⟨_, nxt, p + 1, rfl, by omega, by rw [hx]; rfl⟩
      simp [hs, hpos]
      refine W_seq ?_
      have hl : (plk n p).length < sizeLine := small_lt (by have := plk_len n p; omega)
      cases hbit : n.testBit p with
      | true =>
        rw [hbit] at hb
        simp [q_places_in_1, hs, hb]
        refine W_last ?_
        simp [hl]
        refine SeqK.nx (go _ ?_)
        rw [plk_succ, hbit, if_pos rfl, List.map_append]
        rfl
      | false =>
        rw [hbit] at hb
        simp [q_places_in_1, hs, hb]
        refine SeqK.nx (go _ ?_)
        rw [plk_succ, hbit, if_neg (by simp), List.append_nil]
    · simp [hs, hpos]
      have h0 : q = 0 := by omega
      have hlt : n < 2 ^ p := by
        rw [h0] at hq
        exact Nat.lt_of_div_eq_zero (Nat.pow_pos (by omega)) hq.symm
      exact ⟨p, by rw [plk_eq hlt h2]⟩
end K9
end PK90K
section PK90L
set_option maxHeartbeats 2000000
open PySem PySem.Spec PyProof.Rows L2 DL
namespace K9
/-! parts of a number: the numbers whose places are among its -/
def Sub (s n : Nat) : Prop := s &&& n = s
theorem sub_bits {s n : Nat} : Sub s n ↔ ∀ i, s.testBit i = true → n.testBit i = true := by
  unfold Sub
  constructor
  · intro h i hi
    rw [← h, Nat.testBit_and] at hi
    exact (Bool.and_eq_true_iff.mp hi).2
  · intro h
    apply Nat.eq_of_testBit_eq
    intro i
    rw [Nat.testBit_and]
    cases hs : s.testBit i with
    | false => rfl
    | true => rw [h i hs]; rfl
theorem sub_le {s n : Nat} (h : Sub s n) : s ≤ n := by
  rw [← h]
  exact Nat.and_le_right
theorem sub_half {s n : Nat} (h : Sub s n) : Sub (s / 2) (n / 2) := by
  rw [sub_bits] at h ⊢
  intro i hi
  rw [Nat.testBit_div_two] at hi ⊢
  exact h _ hi
theorem sub_odd {s n : Nat} (h : Sub s n) (hs : s % 2 = 1) : n % 2 = 1 := by
  have := sub_bits.mp h 0
  simp only [Nat.testBit_zero, decide_eq_true_eq] at this
  exact this hs
/-- the next smaller part is the greatest that is smaller -/
theorem next_part : ∀ (n x s : Nat), Sub x n → Sub s n → s < x → s ≤ (x - 1) &&& n := by
  intro n
  induction n using Nat.strongRecOn with
  | ind n ih =>
    intro x s hx hs hlt
    by_cases hn : n = 0
    · subst hn
      have := sub_le hx
      omega
    · have d1 : ((x - 1) &&& n) / 2 = (x - 1) / 2 &&& n / 2 := Nat.and_div_two
      have hx2 := sub_half hx
      have hs2 := sub_half hs
      have m1 : ((x - 1) &&& n) % 2 = 1 ↔ (x - 1) % 2 = 1 ∧ n % 2 = 1 := Nat.and_mod_two_eq_one
      have ih2 := ih (n / 2) (by omega) (x / 2) (s / 2) hx2 hs2
      by_cases ox : x % 2 = 1
      · -- x - 1 has the halves of x
        have e : (x - 1) / 2 = x / 2 := by omega
        rw [e, hx2] at d1
        omega
      · have hlt2 : s / 2 < x / 2 := by omega
        have := ih2 hlt2
        have e : (x - 1) / 2 = x / 2 - 1 := by omega
        rw [e] at d1
        rw [← d1] at this
        by_cases os : s % 2 = 1
        · have on := sub_odd hs os
          have : ((x - 1) &&& n) % 2 = 1 := m1.mpr ⟨by omega, on⟩
          omega
        · omega
theorem sub_next {x n : Nat} : Sub ((x - 1) &&& n) n := by
  unfold Sub
  rw [Nat.and_assoc, Nat.and_self]
theorem next_lt {x n : Nat} (h : 0 < x) : (x - 1) &&& n < x := Nat.lt_of_le_of_lt Nat.and_le_left (by omega)
theorem add_or : ∀ (a b : Nat), a &&& b = 0 → a + b = a ||| b := by
  intro a
  induction a using Nat.strongRecOn with
  | ind a ih =>
    intro b h
    by_cases ha : a = 0
    · subst ha; simp
    · have h2 : a / 2 &&& b / 2 = 0 := by rw [← Nat.and_div_two, h]
      have i2 := ih (a / 2) (by omega) (b / 2) h2
      have d : (a ||| b) / 2 = a / 2 ||| b / 2 := Nat.or_div_two
      have m : (a ||| b) % 2 = 1 ↔ a % 2 = 1 ∨ b % 2 = 1 := Nat.or_mod_two_eq_one
      have c : ¬ (a % 2 = 1 ∧ b % 2 = 1) := fun z => by
        have := (Nat.and_mod_two_eq_one (a := a) (b := b)).mpr z
        rw [h] at this
        omega
      omega
/-- what is left when a part is taken out -/
theorem sub_minus {s n : Nat} (h : Sub s n) (i : Nat) : (n - s).testBit i = (n.testBit i && !s.testBit i) := by
  have hb := sub_bits.mp h
  have e1 : s &&& (n ^^^ s) = 0 := by
    apply Nat.eq_of_testBit_eq
    intro i
    rw [Nat.testBit_and, Nat.testBit_xor]
    cases hs : s.testBit i with
    | false => simp
    | true => rw [hb i hs]; simp
  have e2 : s ||| (n ^^^ s) = n := by
    apply Nat.eq_of_testBit_eq
    intro i
    rw [Nat.testBit_or, Nat.testBit_xor]
    cases hs : s.testBit i with
    | false => simp
    | true => rw [hb i hs]; simp
  have e3 := add_or s (n ^^^ s) e1
  rw [e2] at e3
  have e4 : n - s = n ^^^ s := by omega
  rw [e4, Nat.testBit_xor]
  cases hs : s.testBit i with
  | false => simp
  | true => rw [hb i hs]; rfl
theorem sub_add {s r : Nat} (h : s &&& r = 0) (i : Nat) : (s + r).testBit i = (s.testBit i || r.testBit i) := by
  rw [add_or s r h, Nat.testBit_or]
theorem pow_sub {n j : Nat} (h : n.testBit j = true) : Sub (2 ^ j) n := sub_bits.mpr fun i hi => by
  rw [Nat.testBit_two_pow, decide_eq_true_eq] at hi
  rw [← hi]
  exact h
theorem disj {a b : Nat} (h : ∀ i, a.testBit i = true → b.testBit i = false) : a &&& b = 0 := by
  apply Nat.eq_of_testBit_eq
  intro i
  rw [Nat.testBit_and, Nat.zero_testBit]
  cases ha : a.testBit i with
  | false => rfl
  | true => rw [h i ha]; rfl
/-- the parts of n that hold the place j -/
def HasPart (n j P : Nat) : Prop := Sub P n ∧ P.testBit j = true
theorem part_iff {n j P : Nat} (h : n.testBit j = true) : HasPart n j P ↔ ∃ s, Sub s (n - 2 ^ j) ∧ P = s + 2 ^ j := by
  have hp := pow_sub h
  constructor
  · rintro ⟨h1, h2⟩
    refine ⟨P - 2 ^ j, sub_bits.mpr fun i hi => ?_, ?_⟩
    · rw [sub_minus (pow_sub h2)] at hi
      rw [sub_minus hp]
      have := Bool.and_eq_true_iff.mp hi
      rw [sub_bits.mp h1 i this.1, this.2]
      rfl
    · have := sub_le (pow_sub h2)
      omega
  · rintro ⟨s, h1, rfl⟩
    have hd : s &&& 2 ^ j = 0 := disj fun i hi => by
      have := sub_bits.mp h1 i hi
      rw [sub_minus hp] at this
      simpa using (Bool.and_eq_true_iff.mp this).2
    refine ⟨sub_bits.mpr fun i hi => ?_, ?_⟩
    · rw [sub_add hd] at hi
      rcases Bool.or_eq_true_iff.mp hi with hi | hi
      · have := sub_bits.mp h1 i hi
        rw [sub_minus hp] at this
        exact (Bool.and_eq_true_iff.mp this).1
      · exact sub_bits.mp hp i hi
    · rw [sub_add hd, Nat.testBit_two_pow]
      simp
end K9
end PK90L
section PK90M
set_option maxHeartbeats 2000000
open PySem PySem.Spec PyProof.Rows L2 DL
namespace K9
theorem shl_one (j : Nat) (h : j ≤ 1000) : gShl (.int 1) (.int j) = some (.d (natD (2 ^ j))) := by
  have hc : cPow 1 (j : Int) = true := by
    unfold cPow
    simp
    omega
  unfold gShl gI
  simp only [hc, if_true]
  simp [natD]
def PtI (r j n m : Nat) (ρ : Rho) : Prop := ∃ fs : List Nat, Sub m r ∧ (∀ P, P ∈ fs ↔ ∃ s, Sub s r ∧ m < s ∧ P = s + 2 ^ j) ∧ fs.length + m ≤ r ∧ ρ = [.d (natD n), .d (natD j), .d (natD r), .l (fs.map natD), .d (natD m)]
def PtP (r j n : Nat) (ρ : Rho) : Prop := PtI r j n 0 ρ
theorem nat_lt_small {k : Nat} (h : k < 4096) : k < sizeLine := by rw [sizeLine_eq]; omega
theorem parts_with_v (n j : Nat) (hn : n < 2048) (hj : n.testBit j = true) (hj2 : j ≤ 20) : ∃ ps : List Nat, (∀ P, P ∈ ps ↔ HasPart n j P) ∧ m_parts_with [.d (natD n), .d (natD j)] = some (.l (ps.map natD), [.u, .u]) := by
  have hp := sub_le (pow_sub hj)
  obtain ⟨r, hr⟩ : ∃ r, r = n - 2 ^ j := ⟨_, rfl⟩
  have hr2 : r ≤ n := hr ▸ Nat.sub_le _ _
  have hsub : DL.gSub (natD n) (natD (2 ^ j)) = some (.d (natD r)) := by
    unfold natD
    rw [x_subI]
    congr 3
    omega
  suffices h : W (m_parts_with [.d (natD n), .d (natD j)]) fun x => ∃ ps : List Nat, (∀ P, P ∈ ps ↔ HasPart n j P) ∧ x = (.l (ps.map natD), [.u, .u]) by
    obtain ⟨x, e, ps, h1, rfl⟩ := h
    exact ⟨ps, h1, e⟩
  have hs : gShl (.int 1) (natD j) = some (.d (natD (2 ^ j))) := shl_one j (by omega)
  refine W_body (W_seq ?_)
  simp [hs, hsub]
  refine SeqK.nx (W_seq ?_)
  simp
  refine SeqK.nx (W_seq ?_)
  have key := while_run (t := tVal (eBin gGt (eVar 4) (eK (.int 0)))) (g := l_parts_with_1) (PtI r j n) (PtP r j n) (fun m ρ hm => ?_) r [.d (natD n), .d (natD j), .d (natD r), .l [], .d (natD r)]
    ⟨[], sub_bits.mpr fun _ h => h, fun P => ⟨fun h => (by cases h), fun ⟨s, h1, h2, h3⟩ => by have := sub_le h1; omega⟩, by simp, rfl⟩
  · refine key.mono fun o ⟨ρ', h1, fs, h2, h3, h4, h5⟩ => ?_
    subst h1 h5
    refine SeqK.nx (W_last ?_)
    have hl : (fs.map natD).length + ([natD (2 ^ j)] : List PyData).length ≤ sizeLine := by
      have := nat_lt_small (show fs.length + 1 < 4096 by omega)
      simp only [List.length_map, List.length_cons, List.length_nil]
      omega
    have ha : gAdd (.list (fs.map natD)) (.list [natD (2 ^ j)]) = some (.l (fs.map natD ++ [natD (2 ^ j)])) := if_pos hl
    simp [hs, ha]
    refine BodyK.ret (by simp) ⟨fs ++ [2 ^ j], fun P => ?_, by simp [keepP]⟩
    rw [List.mem_append, List.mem_singleton, h3 P, part_iff hj, ← hr]
    constructor
    · rintro (⟨s, h1, h2, h3⟩ | h)
      · exact ⟨s, h1, h3⟩
      · exact ⟨0, by simp [Sub], by omega⟩
    · rintro ⟨s, h1, h3⟩
      by_cases h0 : s = 0
      · right; omega
      · left; exact ⟨s, h1, by omega, h3⟩
  · obtain ⟨fs, h2, h3, h4, rfl⟩ := hm
    by_cases hpos : 0 < m
    · have hpos' : (0 : Int) < (m : Int) := by omega
      have hl : fs.length < sizeLine := nat_lt_small (by omega)
      have ha : gAdd (natD m) (natD (2 ^ j)) = some (.d (natD (m + 2 ^ j))) := by
        unfold natD
        rw [x_addI]
        congr 3
      have hsb : DL.gSub (natD m) (.int 1) = some (.d (natD (m - 1))) := by
        unfold natD
        rw [x_subI]
        congr 3
        omega
      have hand : gAnd (natD (m - 1)) (natD r) = some (.d (natD ((m - 1) &&& r))) := by
        unfold natD
        rw [x_andI, PySem.W.os_band]
      have hgt : gGt (natD m) (.int 0) = some (.d (.bool true)) := by
        unfold natD
        rw [x_gtI, decide_eq_true hpos']
      simp [hgt, l_parts_with_1]
      refine W_seq ?_
      simp [hs, ha, hl]
      refine SeqK.nx (W_last ?_)
      simp [hsb, hand]
      refine ⟨(m - 1) &&& r, next_lt hpos, fs ++ [m + 2 ^ j], sub_next, fun P => ?_, ?_, by simp⟩
      · rw [List.mem_append, List.mem_singleton, h3 P]
        constructor
        · rintro (⟨s, q1, q2, q3⟩ | h)
          · exact ⟨s, q1, Nat.lt_of_lt_of_le (next_lt hpos) (by omega), q3⟩
          · exact ⟨m, h2, next_lt hpos, h⟩
        · rintro ⟨s, q1, q2, q3⟩
          by_cases hs : m < s
          · exact .inl ⟨s, q1, hs, q3⟩
          · by_cases he : s = m
            · right; rw [q3, he]
            · have := next_part r m s h2 q1 (by omega)
              omega
      · have := next_lt (n := r) hpos
        simp only [List.length_append, List.length_cons, List.length_nil]
        omega
    · have h0 : m = 0 := by omega
      subst h0
      have hgt : gGt (natD 0) (.int 0) = some (.d (.bool false)) := rfl
      simp [hgt]
      exact ⟨fs, h2, h3, h4, rfl⟩
end K9
end PK90M
section PK90N
set_option maxHeartbeats 2000000
open PySem PySem.Spec PyProof.Rows L2 DL
namespace K9
abbrev minP (x : Int × Int) (xs : List (Int × Int)) : Int × Int := PySem.W.minOf x xs
theorem minP_spec (xs : List (Int × Int)) : ∀ x : Int × Int, minP x xs ∈ x :: xs ∧ ∀ y ∈ x :: xs, (minP x xs).1 ≤ y.1 := by
  induction xs with
  | nil => intro x; simp [minP, PySem.W.minOf]
  | cons y ys ih =>
    intro x
    have e : minP x (y :: ys) = minP (if PySem.W.DatumOrd.lt y x = true then y else x) ys := rfl
    rw [e]
    have hlt : PySem.W.DatumOrd.lt y x = if y.1 = x.1 then decide (y.2 < x.2) else decide (y.1 < x.1) := rfl
    by_cases h : PySem.W.DatumOrd.lt y x = true
    · rw [if_pos h]
      obtain ⟨h1, h2⟩ := ih y
      refine ⟨List.mem_cons_of_mem _ h1, fun z hz => ?_⟩
      have hy := h2 y List.mem_cons_self
      rw [hlt] at h
      have : y.1 ≤ x.1 := by
        by_cases he : y.1 = x.1
        · omega
        · rw [if_neg he, decide_eq_true_eq] at h; omega
      rcases List.mem_cons.mp hz with rfl | hz
      · omega
      · exact h2 z hz
    · rw [if_neg h]
      obtain ⟨h1, h2⟩ := ih x
      have hx := h2 x List.mem_cons_self
      rw [hlt] at h
      have : x.1 ≤ y.1 := by
        by_cases he : y.1 = x.1
        · omega
        · rw [if_neg he, decide_eq_true_eq] at h; omega
      refine ⟨?_, fun z hz => ?_⟩
      · rcases List.mem_cons.mp h1 with h1 | h1
        · rw [h1]; exact List.mem_cons_self
        · exact List.mem_cons_of_mem _ (List.mem_cons_of_mem _ h1)
      · rcases List.mem_cons.mp hz with rfl | hz
        · exact hx
        · rcases List.mem_cons.mp hz with rfl | hz
          · omega
          · exact h2 z (List.mem_cons_of_mem _ hz)
theorem pairD_toD (p : Int × Int) : pairD p = PySem.W.Datum.toD p := rfl
theorem min_pairs (x : Int × Int) (xs : List (Int × Int)) : gMin [.list ((x :: xs).map pairD)] = some (.d (pairD (minP x xs))) := by
  unfold gMin
  have hd : PyData.depthAll ((x :: xs).map pairD) ≤ 60 := by
    refine Nat.le_trans (depthAll_le (n := 2) fun d hd => ?_) (by omega)
    obtain ⟨p, _, rfl⟩ := List.mem_map.mp hd
    simp [pairD, PyData.depth, PyData.depthAll]
  have ha : alikeB ((x :: xs).map pairD) = true := by
    unfold alikeB
    rw [List.all_eq_true]
    intro a ha
    rw [List.all_eq_true]
    intro b hb
    obtain ⟨p, _, rfl⟩ := List.mem_map.mp ha
    obtain ⟨q, _, rfl⟩ := List.mem_map.mp hb
    exact PySem.W.DatumOrd.alike p q
  simp only [List.map_cons] at hd ha ⊢
  rw [if_pos]
  · exact congrArg (fun d => some (Rs.d d)) (PySem.W.minD_map x xs)
  · rw [Bool.and_eq_true, Bool.and_eq_true]
    exact ⟨⟨ha, rfl⟩, decide_eq_true hd⟩
def bAt (ps : List Pg) (j : Nat) : Int := (ps[j]?.map Pg.b).getD 0
theorem plc_mem {n j : Nat} (h : n < 2 ^ 20) : j ∈ plc n ↔ n.testBit j = true := by
  unfold plc plk
  rw [List.mem_filter, List.mem_range]
  refine ⟨fun h => h.2, fun hj => ⟨?_, hj⟩⟩
  rcases Nat.lt_or_ge j 20 with h1 | h1
  · exact h1
  · rw [Nat.testBit_lt_two_pow (Nat.lt_of_lt_of_le h (Nat.pow_le_pow_right (by omega) h1))] at hj
    cases hj
theorem bit_lt {n k j : Nat} (h : n < 2 ^ k) (hj : n.testBit j = true) : j < k := by
  rcases Nat.lt_or_ge j k with h1 | h1
  · exact h1
  · rw [Nat.testBit_lt_two_pow (Nat.lt_of_lt_of_le h (Nat.pow_le_pow_right (by omega) h1))] at hj
    cases hj
theorem pow20 {n k : Nat} (h : n < 2 ^ k) (hk : k ≤ 20) : n < 2 ^ 20 := Nat.lt_of_lt_of_le h (Nat.pow_le_pow_right (by omega) hk)
theorem plc_ne {n : Nat} (h0 : 0 < n) (h : n < 2 ^ 20) : plc n ≠ [] := fun e => by
  have hz : ∀ j, n.testBit j = false := fun j => by
    cases hb : n.testBit j with
    | false => rfl
    | true => have := (plc_mem h).mpr hb; rw [e] at this; cases this
  have : n = 0 := Nat.eq_of_testBit_eq fun j => by rw [hz j]; simp
  omega
theorem ix_seq {xs : List PyData} {v : PyData} (hv : SeqOf xs v) {j : Nat} {d : PyData} (h : xs[j]? = some d) : gIx v (natD j) = some (.d d) := by
  cases hv <;> simp [natD, DL.atI_nat, h]
theorem first_in_v (ps : List Pg) {v : PyData} (hv : SeqOf (ps.map Pg.d) v) (n : Nat) (h0 : 0 < n) (h : n < 2 ^ ps.length) (hl : ps.length ≤ 10) : ∃ j, n.testBit j = true ∧ j < ps.length ∧ m_first_in [.d v, .d (natD n)] = some (.d (natD j), [.u, .u]) := by
  have h20 := pow20 h (by omega)
  obtain ⟨a, r, hr⟩ := List.exists_cons_of_ne_nil (plc_ne h0 h20)
  have hm := min_pairs (bAt ps a, (a : Int)) (r.map fun j : Nat => (bAt ps j, (j : Int)))
  obtain ⟨hs, _⟩ := minP_spec (r.map fun j : Nat => (bAt ps j, (j : Int))) (bAt ps a, (a : Int))
  obtain ⟨j, hj, hje⟩ : ∃ j : Nat, j ∈ plc n ∧ minP (bAt ps a, (a : Int)) (r.map fun j : Nat => (bAt ps j, (j : Int))) = (bAt ps j, (j : Int)) := by
    rw [← List.map_cons (f := fun j : Nat => (bAt ps j, (j : Int)))] at hs
    obtain ⟨j, h1, h2⟩ := List.mem_map.mp hs
    exact ⟨j, hr ▸ h1, h2.symm⟩
  have hb := (plc_mem h20).mp hj
  refine ⟨j, hb, bit_lt h hb, W_eq.mp (W_body (W_last ?_))⟩
  rw [hje] at hm
  have hm' : gMin [.list ((plc n).map fun j : Nat => pairD (bAt ps j, (j : Int)))] = some (.d (pairD (bAt ps j, (j : Int)))) := by
    rw [hr, ← hm]
    simp [List.map_map]
    rfl
  have hc : eComp [2] (iSeq (eCall 1 m_places_in (aCons (eVar 1) aNil))) (gdName 2) tAll (eApp gTup (aCons (eBin gIx (eBin gIx (eVar 0) (eVar 2)) (eK (.int 0))) (aCons (eVar 2) aNil))) [.d v, .d (natD n), .u] = some (.l ((plc n).map fun j : Nat => pairD (bAt ps j, (j : Int))), [.d v, .d (natD n), .u]) := by
    refine W_eq.mp (W_compA natD (fun j : Nat => pairD (bAt ps j, (j : Int))) (plc n) (ρ' := [.d v, .d (natD n), .u]) ?_ (fun j hj => ?_) ?_ ?_)
    · simp [places_in_v n h20]
    · have hj' := bit_lt h ((plc_mem h20).mp hj)
      have hi : (ps.map Pg.d)[j]? = some (ps[j].d) := by simp [hj']
      have hi2 : gIx v (.int (j : Int)) = some (.d (ps[j].d)) := ix_seq hv hi
      simp [hi2, bAt, hj', pairD, natD, Pg.d]
    · exact Nat.le_trans (plk_len n 20) (by omega)
    · rfl
  simp [q_first_in_1, hc, hm']
  simp [pairD, natD]
  exact BodyK.ret (by simp) (by simp [keepP])
end K9
end PK90N
section PK90O
set_option maxHeartbeats 2000000
open PySem PySem.Spec PyProof.Rows L2 DL
namespace K9
structure Ok (ts : List Tk) (ps : List Pg) : Prop where
  tok : ∀ t ∈ ts, t.ok
  pok : ∀ p ∈ ps, p.ok
  t1 : 1 ≤ ts.length
  t8 : ts.length ≤ 8
  p10 : ps.length ≤ 10
def pks (ps : List Pg) (js : List Nat) : List Pg := js.filterMap fun j => ps[j]?
def pgD (ps : List Pg) (j : Nat) : PyData := (ps[j]?.map Pg.d).getD .none
def tkD (ts : List Tk) (k : Nat) : PyData := (ts[k]?.map Tk.d).getD .none
theorem pgD_map (ps : List Pg) : ∀ js : List Nat, (∀ j ∈ js, j < ps.length) → js.map (pgD ps) = (pks ps js).map Pg.d
  | [], _ => rfl
  | j :: js, h => by
    have hj := h j List.mem_cons_self
    have e := pgD_map ps js fun i hi => h i (List.mem_cons_of_mem _ hi)
    simp [pks, pgD, hj]
    exact e
theorem pks_mem {ps : List Pg} {js : List Nat} {p : Pg} (h : p ∈ pks ps js) : p ∈ ps := by
  obtain ⟨j, _, hj⟩ := List.mem_filterMap.mp h
  exact List.mem_of_getElem? hj
theorem pks_len (ps : List Pg) (js : List Nat) : (pks ps js).length ≤ js.length := List.length_filterMap_le _ _
theorem pks_ne {ps : List Pg} {js : List Nat} (h : js ≠ []) (hj : ∀ j ∈ js, j < ps.length) : pks ps js ≠ [] := by
  cases js with
  | nil => exact absurd rfl h
  | cons j js =>
    have := hj j List.mem_cons_self
    simp [pks, this]
def covAt (ts : List Tk) (qs : List Pg) (k : Nat) : Bool := match ts[k]? with
  | some t => covB t qs
  | none => false
def kds (ts : List Tk) (qs : List Pg) : List Nat := (List.range ts.length).filter fun k => covAt ts qs k
theorem enum_tk (ts : List Tk) : enumD (ts.map Tk.d) = (List.range ts.length).map fun k : Nat => PyData.tuple [.int (k : Int), tkD ts k] := by
  unfold enumD
  apply List.ext_getElem?
  intro i
  by_cases h : i < ts.length <;> simp [h, tkD]
theorem enum_seq {ts : List Tk} {v : PyData} (hv : SeqOf (ts.map Tk.d) v) : enum1D [v] = some ((List.range ts.length).map fun k : Nat => PyData.tuple [.int (k : Int), tkD ts k]) := by
  cases hv <;> exact congrArg some (enum_tk ts)
def KdI (ts : List Tk) (ps : List Pg) (v u : PyData) (n k : Nat) (acc : List PyData) (ρ : Rho) : Prop := acc = ((List.range k).filter fun k => covAt ts (pks ps (plc n)) k).map natD ∧ ∃ s3, (s3 = .l ((pks ps (plc n)).map Pg.d) ∨ s3 = .d (.list ((pks ps (plc n)).map Pg.d))) ∧ ρ = [.d v, .d u, .d (natD n), s3, .u, .u, .u]
theorem kinds_v {ts : List Tk} {ps : List Pg} (ok : Ok ts ps) {v u : PyData} (hv : SeqOf (ts.map Tk.d) v) (hu : SeqOf (ps.map Pg.d) u) (n : Nat) (h0 : 0 < n) (h : n < 2 ^ ps.length) : m_kinds_that_cover [.d v, .d u, .d (natD n)] = some (.l ((kds ts (pks ps (plc n))).map natD), [.u, .u, .u]) := by
  have h20 := pow20 h (Nat.le_trans ok.p10 (by omega))
  have hlt : ∀ j ∈ plc n, j < ps.length := fun j hj => bit_lt h ((plc_mem h20).mp hj)
  have hne := pks_ne (plc_ne h0 h20) hlt
  have hlen : (pks ps (plc n)).length ≤ 1000 := Nat.le_trans (pks_len _ _) (Nat.le_trans (plk_len n 20) (by omega))
  have hzo : ∀ p ∈ pks ps (plc n), p.zones.length ≤ 10000 := fun p hp => Nat.le_trans (ok.pok p (pks_mem hp)).z.2.1 (by omega)
  refine W_eq.mp (W_body (W_seq ?_))
  simp only [x_sSet, W_map]
  refine W_compA natD (pgD ps) (plc n) (ρ' := [.d v, .d u, .d (natD n), .u, .u, .u, .u]) (by simp [places_in_v n h20]) (fun j hj => ?_) (Nat.le_trans (plk_len n 20) (by omega)) ?_
  · have hj' := hlt j hj
    have hi : (ps.map Pg.d)[j]? = some (ps[j].d) := by simp [hj']
    have hi2 : gIx u (.int (j : Int)) = some (.d (ps[j].d)) := ix_seq hu hi
    simp [natD, hi2, pgD, hj']
  · rw [pgD_map ps _ hlt]
    simp
    refine SeqK.nx (W_last ?_)
    have he := enum_seq hv
    simp only [q_kinds_that_cover_1, x_sRet, W_map]
    refine W_compI (KdI ts ps v u n) ((List.range ts.length).map fun k : Nat => PyData.tuple [.int (k : Int), tkD ts k]) (ρ' := [.d v, .d u, .d (natD n), .l ((pks ps (plc n)).map Pg.d), .u, .u, .u]) (by simp [he]) ⟨by simp, _, .inl rfl, rfl⟩ (fun k d hk acc ρ hI => ?_) fun acc ρ hI => ?_
    · obtain ⟨hk', rfl⟩ : k < ts.length ∧ d = PyData.tuple [.int (k : Int), tkD ts k] := by
        obtain ⟨hlt', he'⟩ := List.getElem?_eq_some_iff.mp hk
        simp at hlt' he'
        exact ⟨hlt', he'.symm⟩
      obtain ⟨hacc, s3, h3, rfl⟩ := hI
      have ht := ok.tok (ts[k]) (List.getElem_mem hk')
      have hd := does_cover_v ts[k] (pks ps (plc n)) hne hlen hzo (by have := ht.n.1; omega)
      have hl : acc.length < sizeLine := by
        rw [hacc, List.length_map]
        refine small_lt (Nat.lt_of_le_of_lt (List.length_filter_le _ _) ?_)
        rw [List.length_range]
        have := ok.t8
        omega
      have hr : List.range (k + 1) = List.range k ++ [k] := List.range_succ
      cases hc : covB ts[k] (pks ps (plc n)) with
      | true =>
        rw [hc] at hd
        have hI' : KdI ts ps v u n (k + 1) (acc ++ [natD k]) [.d v, .d u, .d (natD n), .d (.list ((pks ps (plc n)).map Pg.d)), .u, .u, .u] := ⟨by rw [hr, List.filter_append, List.map_append, ← hacc]; simp [covAt, hk', hc], _, .inr rfl, rfl⟩
        rcases h3 with rfl | rfl
        all_goals
          simp [tkD, hk', hd, hl]
          exact hI'
      | false =>
        rw [hc] at hd
        have hI' : KdI ts ps v u n (k + 1) acc [.d v, .d u, .d (natD n), .d (.list ((pks ps (plc n)).map Pg.d)), .u, .u, .u] := ⟨by rw [hr, List.filter_append, List.map_append, ← hacc]; simp [covAt, hk', hc], _, .inr rfl, rfl⟩
        rcases h3 with rfl | rfl
        all_goals
          simp [tkD, hk', hd, hl]
          exact hI'
    · obtain ⟨hacc, s3, h3, rfl⟩ := hI
      rw [List.length_map, List.length_range] at hacc
      subst hacc
      exact BodyK.ret (by simp) (by simp [keepP, kds])
end K9
end PK90O
section PK90P
set_option maxHeartbeats 2000000
open PySem PySem.Spec PyProof.Rows L2 DL
namespace K9
theorem minO_iff {l : List Int} {x : Int} : minO l = some x ↔ x ∈ l ∧ ∀ y ∈ l, x ≤ y := by
  cases l with
  | nil => simp [minO]
  | cons n ns =>
    obtain ⟨h1, h2⟩ := minI_le n ns
    have h3 := minI_mem n ns
    simp only [minO, Option.some.injEq]
    constructor
    · rintro rfl
      exact ⟨h3, fun y hy => by
        rcases List.mem_cons.mp hy with rfl | hy
        · exact h1
        · exact h2 y hy⟩
    · rintro ⟨h4, h5⟩
      have a := h5 _ h3
      have b : minI n ns ≤ x := by
        rcases List.mem_cons.mp h4 with rfl | h4
        · exact h1
        · exact h2 x h4
      omega
theorem minO_none {l : List Int} : minO l = none ↔ l = [] := by cases l <;> simp [minO]
def opD : Option (Int × Int) → PyData
  | none => .none
  | some p => pairD p
def LkOk (ts : List Tk) (ps : List Pg) (n : Nat) (o : Option (Int × Int)) : Prop :=
  if n = 0 then o = none else o.map Prod.fst = sgl ts (pks ps (plc n)) ∧ ∀ c k, o = some (c, k) → ∃ (i : Nat) (t : Tk), k = (i : Int) ∧ ts[i]? = some t ∧ t.price = c ∧ covB t (pks ps (plc n)) = true
theorem lk_none {ts : List Tk} {ps : List Pg} {n : Nat} (h : kds ts (pks ps (plc n)) = []) : LkOk ts ps n none := by
  unfold LkOk
  by_cases h0 : n = 0
  · simp [h0]
  rw [if_neg h0]
  refine ⟨?_, fun c k e => by cases e⟩
  symm
  unfold sgl
  rw [Option.map_none, minO_none, List.map_eq_nil_iff, List.filter_eq_nil_iff]
  intro t ht hc
  obtain ⟨i, hi, rfl⟩ := List.getElem_of_mem ht
  have : i ∈ kds ts (pks ps (plc n)) := List.mem_filter.mpr ⟨List.mem_range.mpr hi, by simp [covAt, hi, hc]⟩
  rw [h] at this
  cases this
def prAt (ts : List Tk) (k : Nat) : Int := (ts[k]?.map Tk.price).getD 0
theorem kds_mem {ts : List Tk} {qs : List Pg} {k : Nat} : k ∈ kds ts qs ↔ ∃ t, ts[k]? = some t ∧ covB t qs = true := by
  unfold kds
  rw [List.mem_filter, List.mem_range]
  unfold covAt
  constructor
  · rintro ⟨h1, h2⟩
    refine ⟨ts[k], by simp [h1], ?_⟩
    simpa [h1] using h2
  · rintro ⟨t, h1, h2⟩
    obtain ⟨h3, h4⟩ := List.getElem?_eq_some_iff.mp h1
    exact ⟨h3, by simp [h1, h2]⟩
theorem lk_some {ts : List Tk} {ps : List Pg} {n : Nat} (h0 : n ≠ 0) {a : Nat} {r : List Nat} (h : kds ts (pks ps (plc n)) = a :: r) : LkOk ts ps n (some (minP (prAt ts a, (a : Int)) (r.map fun k : Nat => (prAt ts k, (k : Int))))) := by
  obtain ⟨h1, h2⟩ := minP_spec (r.map fun k : Nat => (prAt ts k, (k : Int))) (prAt ts a, (a : Int))
  rw [← List.map_cons (f := fun k : Nat => (prAt ts k, (k : Int))), ← h] at h1 h2
  obtain ⟨k, hk, he⟩ := List.mem_map.mp h1
  rw [← he] at h2 ⊢
  obtain ⟨t, ht, hc⟩ := kds_mem.mp hk
  have hp : prAt ts k = t.price := by simp [prAt, ht]
  unfold LkOk
  rw [if_neg h0]
  refine ⟨?_, fun c q e => ?_⟩
  · symm
    unfold sgl
    rw [Option.map_some, minO_iff]
    refine ⟨List.mem_map.mpr ⟨t, List.mem_filter.mpr ⟨List.mem_of_getElem? ht, hc⟩, hp.symm⟩, fun y hy => ?_⟩
    obtain ⟨u, hu, rfl⟩ := List.mem_map.mp hy
    obtain ⟨hu1, hu2⟩ := List.mem_filter.mp hu
    obtain ⟨i, hi, rfl⟩ := List.getElem_of_mem hu1
    have := h2 (prAt ts i, (i : Int)) (List.mem_map.mpr ⟨i, kds_mem.mpr ⟨ts[i], by simp [hi], hu2⟩, rfl⟩)
    simpa [prAt, hi] using this
  · simp only [Option.some.injEq, Prod.mk.injEq] at e
    exact ⟨k, t, e.2.symm, ht, by rw [← e.1, hp], hc⟩
def LkI (ts : List Tk) (ps : List Pg) (v u : PyData) (i : Nat) (ρ : Rho) : Prop := ∃ (ls : List (Option (Int × Int))) (s3 s4 s5 : Sl), ls.length = i + 1 ∧ (∀ n o, ls[n]? = some o → LkOk ts ps n o) ∧ ρ = [.d v, .d u, .l (ls.map opD), s3, s4, s5]
theorem len_seq {xs : List PyData} {v : PyData} (hv : SeqOf xs v) : gLen [v] = some (.d (.int xs.length)) := by cases hv <;> simp
theorem pow_le {a : Nat} (h : a ≤ 10) : 2 ^ a ≤ 1024 := Nat.pow_le_pow_right (by omega) h
theorem range_pow {a : Nat} (h : a ≤ 10) : range2D [.int 1, natD (2 ^ a)] = some (rngD 1 1 (2 ^ a - 1)) := by
  have h1 := pow_le h
  have h2 := Nat.two_pow_pos a
  unfold range2D natD
  have hs : small62 1 = true := by decide
  have ht : small62 ((2 ^ a : Nat) : Int) = true := by
    unfold small62
    rw [Bool.and_eq_true, decide_eq_true_eq, decide_eq_true_eq]
    omega
  have hn : (((2 ^ a : Nat) : Int) - 1).toNat = 2 ^ a - 1 := by omega
  refine (if_pos (by rw [hs, ht]; rfl)).trans ?_
  rw [hn]
theorem optD_lay (o : Option (Int × Int)) : (opD o).canLay0 = true ∧ (opD o).depth ≤ 3 := by
  cases o <;> simp [opD, pairD, PyData.depth, PyData.depthAll, PyData.canLay0, PyData.canLayAll0]
theorem lk_turn {ts : List Tk} {ps : List Pg} (ok : Ok ts ps) {v u : PyData} (hv : SeqOf (ts.map Tk.d) v) (hu : SeqOf (ps.map Pg.d) u) (i : Nat) (hi : i < 2 ^ ps.length - 1) (ρ : Rho) (h : LkI ts ps v u i ρ) : W (gdName 3 (.d (natD (i + 1))) ρ) fun ρ1 => W (l_least_kinds_2 ρ1) fun
      | .nx ρ2 => LkI ts ps v u (i + 1) ρ2
      | _ => False := by
  obtain ⟨ls, s3, s4, s5, hlen, hls, rfl⟩ := h
  have hk := kinds_v ok hv hu (i + 1) (by omega) (by omega)
  have hsz : ls.length < sizeLine := by
    have := pow_le ok.p10
    exact nat_lt_small (by omega)
  obtain ⟨K, hK⟩ : ∃ K, K = kds ts (pks ps (plc (i + 1))) := ⟨_, rfl⟩
  rw [← hK] at hk
  have step : ∀ o s s', LkOk ts ps (i + 1) o → LkI ts ps v u (i + 1) [.d v, .d u, .l (ls.map opD ++ [opD o]), .d (natD (i + 1)), s, s'] := fun o s s' ho => by
    refine ⟨ls ++ [o], _, _, _, by simp [hlen], fun n o' hn => ?_, by rw [List.map_append]; rfl⟩
    rcases Nat.lt_or_ge n ls.length with h1 | h1
    · rw [List.getElem?_append_left h1] at hn
      exact hls n o' hn
    · rw [List.getElem?_append_right h1] at hn
      have h2 : n - ls.length = 0 := by
        rcases Nat.eq_zero_or_pos (n - ls.length) with h | h
        · exact h
        · rw [List.getElem?_eq_none (by simp; omega)] at hn; cases hn
      rw [h2] at hn
      simp at hn
      have : n = i + 1 := by omega
      rw [this, ← hn]
      exact ho
  simp [l_least_kinds_2]
  refine W_seq ?_
  simp [hk]
  refine SeqK.nx (W_last ?_)
  have e := ne_nil (xs := K.map natD) (by
    have := shaped_ints (K.map fun k : Nat => (k : Int))
    rw [List.map_map] at this
    exact this)
  cases hq : K with
  | nil =>
    rw [hq] at e
    simp at e
    simp [q_least_kinds_1, e, hsz]
    exact step none _ _ (lk_none (hK.symm.trans hq))
  | cons a r =>
    rw [hq] at e
    simp at e
    have hm := min_pairs (prAt ts a, (a : Int)) (r.map fun k : Nat => (prAt ts k, (k : Int)))
    rw [← List.map_cons (f := fun k : Nat => (prAt ts k, (k : Int))), List.map_map] at hm
    have hc : eComp [5] (iSeq (eVar 4)) (gdName 5) tAll (eApp DL.gTup (aCons (eBin gIx (eBin gIx (eVar 0) (eVar 5)) (eK (.int 1))) (aCons (eVar 5) aNil))) [.d v, .d u, .l (ls.map opD), .d (natD (i + 1)), .d (.list ((a :: r).map natD)), s5] = some (.l ((a :: r).map (pairD ∘ fun k : Nat => (prAt ts k, (k : Int)))), [.d v, .d u, .l (ls.map opD), .d (natD (i + 1)), .d (.list ((a :: r).map natD)), .u]) := by
      have hmem : ∀ k ∈ a :: r, ∃ t, ts[k]? = some t := fun k hk => by
        rw [← hq, hK] at hk
        obtain ⟨t, h1, _⟩ := kds_mem.mp hk
        exact ⟨t, h1⟩
      have hl8 : (a :: r).length ≤ 10000 := by
        rw [← hq, hK]
        unfold kds
        refine Nat.le_trans (List.length_filter_le _ _) ?_
        rw [List.length_range]
        have := ok.t8
        omega
      refine W_eq.mp (W_compA natD (pairD ∘ fun k : Nat => (prAt ts k, (k : Int))) (a :: r) (ρ' := [.d v, .d u, .l (ls.map opD), .d (natD (i + 1)), .d (.list ((a :: r).map natD)), s5]) (by simp) (fun k hk => ?_) hl8 rfl)
      obtain ⟨t, ht⟩ := hmem k hk
      have hi2 : gIx v (.int (k : Int)) = some (.d t.d) := ix_seq hv (by simp [ht])
      simp [natD, hi2, Tk.d, prAt, ht, pairD]
    simp only [List.map_cons] at hc hm
    have hm' : gMin [.list (pairD (prAt ts a, (a : Int)) :: r.map (pairD ∘ fun k : Nat => (prAt ts k, (k : Int))))] = some (.d (pairD (minP (prAt ts a, (a : Int)) (r.map fun k : Nat => (prAt ts k, (k : Int)))))) := hm
    simp [q_least_kinds_1, e, hsz, hc, hm']
    exact step (some _) _ _ (lk_some (by omega) (hK.symm.trans hq))
theorem shl_len {xs : List PyData} {v : PyData} (hv : SeqOf xs v) (h : xs.length ≤ 10) : (gLen [v]).bind (fun a => gShl (.int 1) a.data) = some (.d (natD (2 ^ xs.length))) := by
  rw [len_seq hv]
  exact shl_one xs.length (by omega)
theorem least_kinds_v {ts : List Tk} {ps : List Pg} (ok : Ok ts ps) {v u : PyData} (hv : SeqOf (ts.map Tk.d) v) (hu : SeqOf (ps.map Pg.d) u) : ∃ ls : List (Option (Int × Int)), ls.length = 2 ^ ps.length ∧ (∀ n o, ls[n]? = some o → LkOk ts ps n o) ∧ m_least_kinds [.d v, .d u] = some (.l (ls.map opD), [.u, .u]) := by
  suffices h : W (m_least_kinds [.d v, .d u]) fun x => ∃ ls : List (Option (Int × Int)), ls.length = 2 ^ ps.length ∧ (∀ n o, ls[n]? = some o → LkOk ts ps n o) ∧ x = (.l (ls.map opD), [.u, .u]) by
    obtain ⟨x, e, ls, h1, h2, rfl⟩ := h
    exact ⟨ls, h1, h2, e⟩
  have hr := range_pow ok.p10
  have hl := len_seq hu
  rw [List.length_map] at hl
  have hs := shl_one ps.length (by have := ok.p10; omega)
  have h2p := Nat.two_pow_pos ps.length
  refine W_body (W_seq ?_)
  simp
  refine SeqK.nx (W_seq ?_)
  simp [sFor, hr, hl, hs]
  have key := for_nx (gd := gdName 3) (g := l_least_kinds_2) id (LkI ts ps v u) (xs := rngD 1 1 (2 ^ ps.length - 1)) (ρ := [.d v, .d u, .l [.none], .u, .u, .u])
    ⟨[none], .u, .u, .u, rfl, (fun n o hn => by
      cases n with
      | zero => simp at hn; subst hn; simp [LkOk]
      | succ n => cases hn), rfl⟩ fun i d hd ρ h => by
      obtain ⟨hi, rfl⟩ := rngD_get hd
      have e0 : (1 : Int) + (i : Int) * 1 = ((i + 1 : Nat) : Int) := by omega
      have e : PyData.int (1 + (i : Int) * 1) = natD (i + 1) := congrArg PyData.int e0
      show W (gdName 3 (.d (.int (1 + (i : Int) * 1))) ρ) _
      rw [e]
      exact lk_turn ok hv hu i hi ρ h
  rw [List.map_id] at key
  refine key.mono fun o ⟨ρ', h1, ls, s3, s4, s5, h2, h3, h4⟩ => ?_
  subst h1 h4
  refine SeqK.nx (W_last ?_)
  simp
  refine BodyK.ret (by simp) ⟨ls, ?_, h3, by simp [keepP]⟩
  rw [h2, rngD_len]
  omega
end K9
end PK90P
section PK90Q
set_option maxHeartbeats 2000000
open PySem PySem.Spec PyProof.Rows L2 DL
namespace K9
structure Row where
  c : Int
  k : Int
  p : Int
def Row.d (r : Row) : PyData := .tuple [.int r.c, .int r.k, .int r.p]
def rowD : Option Row → PyData
  | none => .none
  | some r => r.d
def cand (ls : List (Option (Int × Int))) (rs : List (Option Row)) (n q : Nat) : Option Row := match ls[q]?, rs[n - q]? with
  | some (some (s, k)), some (some r) => some ⟨s + r.c, k, q⟩
  | _, _ => none
/-- the least of the candidates of qs -/
structure Least (ls : List (Option (Int × Int))) (rs : List (Option Row)) (n : Nat) (qs : List Nat) (o : Option Row) : Prop where
  get : ∀ r, o = some r → ∃ q ∈ qs, cand ls rs n q = some r
  low : ∀ q ∈ qs, ∀ r, cand ls rs n q = some r → ∃ r', o = some r' ∧ r'.c ≤ r.c
def rowLt (a b : Row) : Bool := HT.lexLt [a.c, a.k, a.p] [b.c, b.k, b.p]
theorem row_lt (a b : Row) : gLt a.d b.d = some (.d (.bool (rowLt a b))) := rfl
theorem rowLt_true {a b : Row} (h : rowLt a b = true) : a.c ≤ b.c := by
  unfold rowLt at h
  rw [HT.lexLt_cons] at h
  by_cases he : a.c = b.c
  · omega
  · rw [if_neg he, decide_eq_true_eq] at h; omega
theorem rowLt_false {a b : Row} (h : rowLt a b = false) : b.c ≤ a.c := by
  unfold rowLt at h
  rw [HT.lexLt_cons] at h
  by_cases he : a.c = b.c
  · omega
  · rw [if_neg he, decide_eq_false_iff_not] at h; omega
def pickRow (o : Option Row) (r : Row) : Row := match o with
  | none => r
  | some b => if rowLt r b = true then r else b
theorem least_none {ls : List (Option (Int × Int))} {rs : List (Option Row)} {n q : Nat} {qs : List Nat} {o : Option Row} (h : Least ls rs n qs o) (hc : cand ls rs n q = none) : Least ls rs n (qs ++ [q]) o := by
  refine ⟨fun r hr => ?_, fun x hx r hr => ?_⟩
  · obtain ⟨x, hx, hx2⟩ := h.get r hr
    exact ⟨x, List.mem_append_left _ hx, hx2⟩
  · rcases List.mem_append.mp hx with hx | hx
    · exact h.low x hx r hr
    · rw [List.mem_singleton] at hx
      subst hx
      rw [hc] at hr
      cases hr
theorem least_some {ls : List (Option (Int × Int))} {rs : List (Option Row)} {n q : Nat} {qs : List Nat} {o : Option Row} (h : Least ls rs n qs o) {r : Row} (hc : cand ls rs n q = some r) : Least ls rs n (qs ++ [q]) (some (pickRow o r)) := by
  have hq : q ∈ qs ++ [q] := List.mem_append_right _ (List.mem_singleton.mpr rfl)
  cases o with
  | none =>
    refine ⟨fun x hx => ⟨q, hq, by cases hx; exact hc⟩, fun x hx y hy => ⟨_, rfl, ?_⟩⟩
    rcases List.mem_append.mp hx with hx | hx
    · obtain ⟨z, hz, _⟩ := h.low x hx y hy
      cases hz
    · rw [List.mem_singleton] at hx
      subst hx
      rw [hc] at hy
      cases hy
      exact Int.le_refl _
  | some b =>
    cases hlt : rowLt r b with
    | true =>
      have e : pickRow (some b) r = r := by simp [pickRow, hlt]
      rw [e]
      refine ⟨fun x hx => ⟨q, hq, by cases hx; exact hc⟩, fun x hx y hy => ⟨_, rfl, ?_⟩⟩
      rcases List.mem_append.mp hx with hx | hx
      · obtain ⟨z, hz, hz2⟩ := h.low x hx y hy
        cases hz
        exact Int.le_trans (rowLt_true hlt) hz2
      · rw [List.mem_singleton] at hx
        subst hx
        rw [hc] at hy
        cases hy
        exact Int.le_refl _
    | false =>
      have e : pickRow (some b) r = b := by simp [pickRow, hlt]
      rw [e]
      refine ⟨fun x hx => ?_, fun x hx y hy => ⟨_, rfl, ?_⟩⟩
      · obtain ⟨z, hz, hz2⟩ := h.get x hx
        exact ⟨z, List.mem_append_left _ hz, hz2⟩
      · rcases List.mem_append.mp hx with hx | hx
        · obtain ⟨z, hz, hz2⟩ := h.low x hx y hy
          cases hz
          exact hz2
        · rw [List.mem_singleton] at hx
          subst hx
          rw [hc] at hy
          cases hy
          exact rowLt_false hlt
def LrI (v u : PyData) (ls : List (Option (Int × Int))) (rs : List (Option Row)) (n : Nat) (qs : List Nat) (i : Nat) (ρ : Rho) : Prop := ∃ (o : Option Row) (s2 s6 s7 s8 s9 s10 : Sl), (s2 = .l (ls.map opD) ∨ s2 = .d (.list (ls.map opD))) ∧ Least ls rs n (qs.take i) o ∧ ρ = [.d v, .d u, s2, .l (rs.map rowD), .d (natD n), .d (rowD o), s6, s7, s8, s9, s10]
theorem lr_turn {v u : PyData} {ls : List (Option (Int × Int))} {rs : List (Option Row)} {n : Nat} {qs : List Nat} (hls : n < ls.length) (hrs : rs.length = n) (hq : ∀ q ∈ qs, 0 < q ∧ q ≤ n) (i : Nat) (q : Nat) (hi : qs[i]? = some q) (ρ : Rho) (h : LrI v u ls rs n qs i ρ) : W (gdName 6 (.d (natD q)) ρ) fun ρ1 => W (l_least_rows_2 ρ1) fun
      | .nx ρ2 => LrI v u ls rs n qs (i + 1) ρ2
      | _ => False := by
  obtain ⟨o, s2, s6, s7, s8, s9, s10, h2, hl, rfl⟩ := h
  obtain ⟨hq0, hqn⟩ := hq q (List.mem_of_getElem? hi)
  have hq1 : q < ls.length := by omega
  have hr1 : n - q < rs.length := by omega
  obtain ⟨so, hso⟩ : ∃ so, ls[q]? = some so := ⟨ls[q], by simp [hq1]⟩
  obtain ⟨ro, hro⟩ : ∃ ro, rs[n - q]? = some ro := ⟨rs[n - q], by simp [hr1]⟩
  have hsub : DL.gSub (natD n) (natD q) = some (.d (natD (n - q))) := by
    unfold natD
    rw [x_subI]
    congr 3
    omega
  have hat : atI (rs.map rowD) ((n - q : Nat) : Int) = some (rowD ro) := by rw [DL.atI_nat]; simp [hro]
  have hls2 : gIx (.list (ls.map opD)) (natD q) = some (.d (opD so)) := ix_seq .l (by simp [hso])
  have stepN : cand ls rs n q = none → ∀ s2 s6 s7 s8 s9 s10, (s2 = .l (ls.map opD) ∨ s2 = .d (.list (ls.map opD))) → LrI v u ls rs n qs (i + 1) [.d v, .d u, s2, .l (rs.map rowD), .d (natD n), .d (rowD o), s6, s7, s8, s9, s10] := fun hc s2 s6 s7 s8 s9 s10 h2 => by
    refine ⟨o, s2, s6, s7, s8, s9, s10, h2, ?_, rfl⟩
    rw [take_at hi]
    exact least_none hl hc
  have stepS : ∀ r, cand ls rs n q = some r → ∀ s2 s6 s7 s8 s9 s10, (s2 = .l (ls.map opD) ∨ s2 = .d (.list (ls.map opD))) → LrI v u ls rs n qs (i + 1) [.d v, .d u, s2, .l (rs.map rowD), .d (natD n), .d (pickRow o r).d, s6, s7, s8, s9, s10] := fun r hc s2 s6 s7 s8 s9 s10 h2 => by
    refine ⟨some (pickRow o r), s2, s6, s7, s8, s9, s10, h2, ?_, rfl⟩
    rw [take_at hi]
    exact least_some hl hc
  simp [l_least_rows_2]
  refine W_seq ?_
  have hsub2 : DL.gSub (natD n) (natD q) = some (.d (.int ((n - q : Nat) : Int))) := hsub
  simp [hsub2, hat]
  refine SeqK.nx (W_last ?_)
  cases so with
  | none =>
    have hc : cand ls rs n q = none := by simp [cand, hso]
    rcases h2 with rfl | rfl
    all_goals
      simp [q_least_rows_1, hls2, opD]
      exact stepN hc _ _ _ _ _ _ (.inr rfl)
  | some sk =>
    obtain ⟨s, k⟩ := sk
    cases ro with
    | none =>
      have hc : cand ls rs n q = none := by simp [cand, hso, hro]
      rcases h2 with rfl | rfl
      all_goals
        simp [q_least_rows_1, hls2, opD, rowD, pairD]
        exact stepN hc _ _ _ _ _ _ (.inr rfl)
    | some r =>
      have hc : cand ls rs n q = some ⟨s + r.c, k, q⟩ := by simp [cand, hso, hro]
      have hrow : PyData.tuple [.int (s + r.c), .int k, natD q] = Row.d ⟨s + r.c, k, q⟩ := rfl
      have fin := stepS _ hc
      have hls3 : gIx (.list (ls.map opD)) (natD q) = some (.d (.tuple [.int s, .int k])) := hls2
      cases o with
      | none =>
        rcases h2 with rfl | rfl
        all_goals
          simp [q_least_rows_1, hls3, rowD, Row.d]
          refine W_seq ?_
          simp [hls3]
          refine SeqK.nx (W_seq ?_)
          simp
          refine SeqK.nx (W_last ?_)
          simp
          exact fin _ _ _ _ _ _ (.inr rfl)
      | some b =>
        have hlt := row_lt ⟨s + r.c, k, q⟩ b
        have hlt2 : gLt (.tuple [.int (s + r.c), .int k, natD q]) (.tuple [.int b.c, .int b.k, .int b.p]) = some (.d (.bool (rowLt ⟨s + r.c, k, q⟩ b))) := hlt
        cases hb : rowLt ⟨s + r.c, k, q⟩ b with
        | true =>
          rw [hb] at hlt2
          simp only [pickRow, hb, if_true] at fin
          rcases h2 with rfl | rfl
          all_goals
            simp [q_least_rows_1, hls3, rowD, Row.d]
            refine W_seq ?_
            simp [hls3]
            refine SeqK.nx (W_seq ?_)
            simp
            refine SeqK.nx (W_last ?_)
            simp [hlt2]
            exact fin _ _ _ _ _ _ (.inr rfl)
        | false =>
          rw [hb] at hlt2
          have hp : pickRow (some b) ⟨s + r.c, k, q⟩ = b := by simp [pickRow, hb]
          rw [hp] at fin
          rcases h2 with rfl | rfl
          all_goals
            simp [q_least_rows_1, hls3, rowD, Row.d]
            refine W_seq ?_
            simp [hls3]
            refine SeqK.nx (W_seq ?_)
            simp
            refine SeqK.nx (W_last ?_)
            simp [hlt2]
            exact fin _ _ _ _ _ _ (.inr rfl)
end K9
end PK90Q
section PK90R
set_option maxHeartbeats 2000000
open PySem PySem.Spec PyProof.Rows L2 DL
namespace K9
def RowOk (ls : List (Option (Int × Int))) (rs : List (Option Row)) (ps : List Pg) (m : Nat) (o : Option Row) : Prop :=
  if m = 0 then o = some ⟨0, 0, 0⟩ else ∃ (j : Nat) (qs : List Nat), m.testBit j = true ∧ j < ps.length ∧ (∀ P, P ∈ qs ↔ HasPart m j P) ∧ Least ls (rs.take m) m qs o
def RowsOk (ls : List (Option (Int × Int))) (ps : List Pg) (rs : List (Option Row)) : Prop := ∀ m o, rs[m]? = some o → RowOk ls rs ps m o
theorem rows_snoc {ls : List (Option (Int × Int))} {ps : List Pg} {rs : List (Option Row)} (h : RowsOk ls ps rs) {o : Option Row} {j : Nat} {qs : List Nat} (h0 : rs.length ≠ 0) (hb : rs.length.testBit j = true) (hj : j < ps.length) (hq : ∀ P, P ∈ qs ↔ HasPart rs.length j P) (hl : Least ls rs rs.length qs o) : RowsOk ls ps (rs ++ [o]) := by
  intro m x hm
  rcases Nat.lt_or_ge m rs.length with h1 | h1
  · rw [List.getElem?_append_left h1] at hm
    have := h m x hm
    unfold RowOk at this ⊢
    rw [List.take_append_of_le_length (Nat.le_of_lt h1)]
    exact this
  · rw [List.getElem?_append_right h1] at hm
    have h2 : m - rs.length = 0 := by
      rcases Nat.eq_zero_or_pos (m - rs.length) with h | h
      · exact h
      · rw [List.getElem?_eq_none (by simp; omega)] at hm; cases hm
    rw [h2] at hm
    simp at hm
    have e : m = rs.length := by omega
    subst e
    subst hm
    unfold RowOk
    rw [if_neg h0]
    refine ⟨j, qs, hb, hj, hq, ?_⟩
    rw [List.take_append_of_le_length (Nat.le_refl _), List.take_length]
    exact hl
def LrO (ps : List Pg) (v u : PyData) (ls : List (Option (Int × Int))) (i : Nat) (ρ : Rho) : Prop := ∃ (rs : List (Option Row)) (s2 s4 s5 s6 s7 s8 s9 s10 : Sl), (s2 = .l (ls.map opD) ∨ s2 = .d (.list (ls.map opD))) ∧ rs.length = i + 1 ∧ RowsOk ls ps rs ∧ ρ = [.d v, .d u, s2, .l (rs.map rowD), s4, s5, s6, s7, s8, s9, s10]
theorem lo_turn {ps : List Pg} {v u : PyData} {ls : List (Option (Int × Int))} (hp : ps.length ≤ 10) (hu : SeqOf (ps.map Pg.d) u) (hls : ls.length = 2 ^ ps.length) (i : Nat) (hi : i < 2 ^ ps.length - 1) (ρ : Rho) (h : LrO ps v u ls i ρ) : W (gdName 4 (.d (natD (i + 1))) ρ) fun ρ1 => W (l_least_rows_4 ρ1) fun
      | .nx ρ2 => LrO ps v u ls (i + 1) ρ2
      | _ => False := by
  obtain ⟨rs, s2, s4, s5, s6, s7, s8, s9, s10, h2, hlen, hrs, rfl⟩ := h
  have h1024 := pow_le hp
  obtain ⟨j, hb, hj, hf⟩ := first_in_v ps hu (i + 1) (by omega) (by omega) hp
  obtain ⟨qs, hqs, hparts⟩ := parts_with_v (i + 1) j (by omega) hb (by omega)
  have hq : ∀ q ∈ qs, 0 < q ∧ q ≤ i + 1 := fun q hq => by
    obtain ⟨h1, h2⟩ := (hqs q).mp hq
    refine ⟨?_, sub_le h1⟩
    rcases Nat.eq_zero_or_pos q with h | h
    · subst h; simp at h2
    · exact h
  have hsz : rs.length < sizeLine := nat_lt_small (by omega)
  simp [l_least_rows_4]
  refine W_seq ?_
  simp
  refine SeqK.nx (W_seq ?_)
  simp [q_least_rows_3, sFor, hf, hparts]
  have key := for_nx (gd := gdName 6) (g := l_least_rows_2) natD (LrI v u ls rs (i + 1) qs) (xs := qs) (ρ := [.d v, .d u, s2, .l (rs.map rowD), .d (natD (i + 1)), .d (rowD none), s6, s7, s8, s9, s10])
    ⟨none, s2, s6, s7, s8, s9, s10, h2, ⟨fun r hr => (by cases hr), fun q hq => (by simp at hq)⟩, rfl⟩ fun k q hk ρ h => lr_turn (by omega) hlen hq k q hk ρ h
  refine key.mono fun o ⟨ρ', e1, o', t2, t6, t7, t8, t9, t10, e2, e3, e4⟩ => ?_
  subst e1 e4
  rw [List.take_length] at e3
  refine SeqK.nx (W_last ?_)
  simp [hsz]
  refine ⟨rs ++ [o'], t2, _, _, _, _, _, _, _, e2, by simp [hlen], ?_, by rw [List.map_append]; rfl⟩
  rw [← hlen] at hb hqs e3
  exact rows_snoc hrs (by omega) hb hj hqs e3
theorem least_rows_v {ts : List Tk} {ps : List Pg} (ok : Ok ts ps) {v u : PyData} (hv : SeqOf (ts.map Tk.d) v) (hu : SeqOf (ps.map Pg.d) u) : ∃ (ls : List (Option (Int × Int))) (rs : List (Option Row)), ls.length = 2 ^ ps.length ∧ (∀ n o, ls[n]? = some o → LkOk ts ps n o) ∧ rs.length = 2 ^ ps.length ∧ RowsOk ls ps rs ∧ m_least_rows [.d v, .d u] = some (.l (rs.map rowD), [.u, .u]) := by
  obtain ⟨ls, hl1, hl2, hl3⟩ := least_kinds_v ok hv hu
  suffices h : W (m_least_rows [.d v, .d u]) fun x => ∃ rs : List (Option Row), rs.length = 2 ^ ps.length ∧ RowsOk ls ps rs ∧ x = (.l (rs.map rowD), [.u, .u]) by
    obtain ⟨x, e, rs, h1, h2, rfl⟩ := h
    exact ⟨ls, rs, hl1, hl2, h1, h2, e⟩
  have hr := range_pow ok.p10
  have hl := len_seq hu
  rw [List.length_map] at hl
  have hs := shl_one ps.length (by have := ok.p10; omega)
  have h2p := Nat.two_pow_pos ps.length
  refine W_body (W_seq ?_)
  simp [q_least_rows_5, hl3]
  refine SeqK.nx (W_seq ?_)
  simp [sFor, hr, hl, hs]
  have key := for_nx (gd := gdName 4) (g := l_least_rows_4) id (LrO ps v u ls) (xs := rngD 1 1 (2 ^ ps.length - 1)) (ρ := [.d v, .d u, .l (ls.map opD), .l [.tuple [.int 0, .int 0, .int 0]], .u, .u, .u, .u, .u, .u, .u])
    ⟨[some ⟨0, 0, 0⟩], _, .u, .u, .u, .u, .u, .u, .u, .inl rfl, rfl, (fun m o hm => by
      cases m with
      | zero => simp at hm; subst hm; simp [RowOk]
      | succ m => cases hm), rfl⟩ fun i d hd ρ h => by
      obtain ⟨hi, rfl⟩ := rngD_get hd
      have e0 : (1 : Int) + (i : Int) * 1 = ((i + 1 : Nat) : Int) := by omega
      have e : PyData.int (1 + (i : Int) * 1) = natD (i + 1) := congrArg PyData.int e0
      show W (gdName 4 (.d (.int (1 + (i : Int) * 1))) ρ) _
      rw [e]
      exact lo_turn ok.p10 hu hl1 i hi ρ h
  rw [List.map_id] at key
  refine key.mono fun o ⟨ρ', h1, rs, s2, s4, s5, s6, s7, s8, s9, s10, h2, h3, h4, h5⟩ => ?_
  subst h1 h5
  refine SeqK.nx (W_last ?_)
  simp
  refine BodyK.ret (by simp) ⟨rs, ?_, h4, by simp [keepP]⟩
  rw [h3, rngD_len]
  omega
end K9
end PK90R
section PK90T
set_option maxHeartbeats 2000000
open PySem PySem.Spec PyProof.Rows L2 DL
namespace K9
def sg (ts : List Tk) (ps : List Pg) (q : Nat) : Option Int := sgl ts (pks ps (plc q))
structure Dp (ts : List Tk) (ps : List Pg) (rs : List (Option Row)) : Prop where
  len : rs.length = 2 ^ ps.length
  zero : rs[0]? = some (some ⟨0, 0, 0⟩)
  get : ∀ m r, 0 < m → rs[m]? = some (some r) → ∃ (q i : Nat) (t : Tk) (r' : Row), r.p = (q : Int) ∧ Sub q m ∧ 0 < q ∧ r.k = (i : Int) ∧ ts[i]? = some t ∧ covB t (pks ps (plc q)) = true ∧ sg ts ps q = some t.price ∧ rs[m - q]? = some (some r') ∧ r.c = t.price + r'.c
  low : ∀ m, 0 < m → m < rs.length → ∃ j, m.testBit j = true ∧ ∀ q, HasPart m j q → ∀ s r', sg ts ps q = some s → rs[m - q]? = some (some r') → ∃ r, rs[m]? = some (some r) ∧ r.c ≤ s + r'.c
theorem pos_of_bit {q j : Nat} (h : q.testBit j = true) : 0 < q := by
  rcases Nat.eq_zero_or_pos q with e | e
  · subst e; simp at h
  · exact e
theorem cand_some {ls : List (Option (Int × Int))} {rs : List (Option Row)} {n q : Nat} {r : Row} (h : cand ls rs n q = some r) : ∃ s k r', ls[q]? = some (some (s, k)) ∧ rs[n - q]? = some (some r') ∧ r = ⟨s + r'.c, k, q⟩ := by
  unfold cand at h
  split at h
  · rename_i s k r' h1 h2
    cases h
    exact ⟨s, k, r', h1, h2, rfl⟩
  · cases h
theorem dp_of {ts : List Tk} {ps : List Pg} {ls : List (Option (Int × Int))} {rs : List (Option Row)} (hll : ls.length = 2 ^ ps.length) (hl : ∀ n o, ls[n]? = some o → LkOk ts ps n o) (hrl : rs.length = 2 ^ ps.length) (hr : RowsOk ls ps rs) : Dp ts ps rs := by
  have h2p := Nat.two_pow_pos ps.length
  have zero : rs[0]? = some (some ⟨0, 0, 0⟩) := by
    have h0 : rs[0]? = some rs[0] := by simp
    have := hr 0 _ h0
    unfold RowOk at this
    rw [if_pos rfl] at this
    rw [h0, this]
  have tk : ∀ {m q : Nat} {x : Option Row}, 0 < q → q ≤ m → ((rs.take m)[m - q]? = some x ↔ rs[m - q]? = some x) := fun {m q x} h0 h1 => by
    rw [List.getElem?_take, if_pos (by omega)]
  refine ⟨hrl, zero, fun m r hm h => ?_, fun m hm hlt => ?_⟩
  · have := hr m _ h
    unfold RowOk at this
    rw [if_neg (by omega)] at this
    obtain ⟨j, qs, hb, hj, hqs, hls⟩ := this
    obtain ⟨q, hq, hc⟩ := hls.get r rfl
    obtain ⟨hsub, hqj⟩ := (hqs q).mp hq
    have hq0 := pos_of_bit hqj
    obtain ⟨s, k, r', h1, h2, rfl⟩ := cand_some hc
    rw [tk hq0 (sub_le hsub)] at h2
    have hk := hl q _ h1
    unfold LkOk at hk
    rw [if_neg (by omega)] at hk
    obtain ⟨i, t, e1, e2, e3, e4⟩ := hk.2 s k rfl
    exact ⟨q, i, t, r', rfl, hsub, hq0, e1, e2, e4, by unfold sg; rw [← hk.1, e3]; rfl, h2, by rw [e3]⟩
  · obtain ⟨o, ho⟩ : ∃ o, rs[m]? = some o := ⟨rs[m], by simp [hlt]⟩
    have := hr m _ ho
    unfold RowOk at this
    rw [if_neg (by omega)] at this
    obtain ⟨j, qs, hb, hj, hqs, hls⟩ := this
    refine ⟨j, hb, fun q hq s r' hs hr' => ?_⟩
    have hq0 := pos_of_bit hq.2
    have hqm := sub_le hq.1
    obtain ⟨so, hso⟩ : ∃ so, ls[q]? = some so := ⟨ls[q]'(by omega), by simp⟩
    have hk := hl q _ hso
    unfold LkOk at hk
    rw [if_neg (by omega)] at hk
    unfold sg at hs
    rw [hs] at hk
    cases so with
    | none => cases hk.1
    | some sk =>
      obtain ⟨s', k⟩ := sk
      have e : s' = s := by simpa using hk.1
      subst e
      obtain ⟨r, hr1, hr2⟩ := hls.low q ((hqs q).mpr hq) ⟨s' + r'.c, k, q⟩ (by
        unfold cand
        rw [hso, (tk hq0 hqm).mpr hr'])
      exact ⟨r, by rw [ho, hr1], hr2⟩
theorem least_rows_dp {ts : List Tk} {ps : List Pg} (ok : Ok ts ps) {v u : PyData} (hv : SeqOf (ts.map Tk.d) v) (hu : SeqOf (ps.map Pg.d) u) : ∃ rs : List (Option Row), Dp ts ps rs ∧ m_least_rows [.d v, .d u] = some (.l (rs.map rowD), [.u, .u]) := by
  obtain ⟨ls, rs, h1, h2, h3, h4, h5⟩ := least_rows_v ok hv hu
  exact ⟨rs, dp_of h1 h2 h3 h4, h5⟩
/-- a list of parts of m: each more than none, no place twice -/
inductive Part : Nat → List Nat → Prop
  | nil : Part 0 []
  | cons {m q : Nat} {L : List Nat} : 0 < q → Sub q m → Part (m - q) L → Part m (q :: L)
def sumO : List (Option Int) → Option Int
  | [] => some 0
  | none :: _ => none
  | some x :: r => (sumO r).map (x + ·)
theorem Part.has {m : Nat} {L : List Nat} (h : Part m L) : ∀ {j : Nat}, m.testBit j = true → ∃ q ∈ L, q.testBit j = true := by
  induction h with
  | nil => intro j hj; simp at hj
  | @cons m q L h0 hs hp ih =>
    intro j hj
    cases hq : q.testBit j with
    | true => exact ⟨q, List.mem_cons_self, hq⟩
    | false =>
      obtain ⟨x, hx, hx2⟩ := ih (j := j) (by rw [sub_minus hs, hj, hq]; rfl)
      exact ⟨x, List.mem_cons_of_mem _ hx, hx2⟩
theorem sub_trans {a b c : Nat} (h : Sub a b) (h2 : Sub b c) : Sub a c := sub_bits.mpr fun i hi => sub_bits.mp h2 i (sub_bits.mp h i hi)
theorem sub_less {q m : Nat} (h : Sub q m) : Sub (m - q) m := sub_bits.mpr fun i hi => by
  rw [sub_minus h] at hi
  simp at hi
  exact hi.1
theorem Part.sub {m : Nat} {L : List Nat} (h : Part m L) : ∀ q ∈ L, 0 < q ∧ Sub q m := by
  induction h with
  | nil => intro q hq; cases hq
  | @cons m q L h0 hs hp ih =>
    intro x hx
    rcases List.mem_cons.mp hx with rfl | hx
    · exact ⟨h0, hs⟩
    · exact ⟨(ih x hx).1, sub_trans (ih x hx).2 (sub_less hs)⟩
theorem sub_swap {a b m : Nat} (h : Sub a m) (h2 : Sub b (m - a)) : Sub b m ∧ Sub a (m - b) := by
  have hb := sub_trans h2 (sub_less h)
  refine ⟨hb, sub_bits.mpr fun i hi => ?_⟩
  rw [sub_minus hb, sub_bits.mp h i hi]
  cases hbi : b.testBit i with
  | false => rfl
  | true =>
    have := sub_bits.mp h2 i hbi
    rw [sub_minus h, hi] at this
    simp at this
theorem Part.inv {m q : Nat} {L : List Nat} (h : Part m (q :: L)) : 0 < q ∧ Sub q m ∧ Part (m - q) L := by
  cases h with
  | cons h0 hs h => exact ⟨h0, hs, h⟩
theorem Part.perm {L L' : List Nat} (hp : L.Perm L') : ∀ {m : Nat}, Part m L → Part m L' := by
  induction hp with
  | nil => intro m h; exact h
  | cons x hp ih =>
    intro m h
    cases h with
    | cons h0 hs h => exact .cons h0 hs (ih h)
  | swap x y l =>
    intro m h
    obtain ⟨h0, hs, h⟩ := h.inv
    obtain ⟨h1, ht, h⟩ := h.inv
    obtain ⟨a, b⟩ := sub_swap hs ht
    refine .cons h1 a (.cons h0 b ?_)
    have : m - x - y = m - y - x := by omega
    rw [this]
    exact h
  | trans h1 h2 i1 i2 => intro m h; exact i2 (i1 h)
theorem sumO_perm {l l' : List (Option Int)} (hp : l.Perm l') : sumO l = sumO l' := by
  induction hp with
  | nil => rfl
  | cons x hp ih => cases x <;> simp [sumO, ih]
  | swap x y l =>
    cases x <;> cases y <;> cases h : sumO l <;> simp [sumO, h] <;> omega
  | trans h1 h2 i1 i2 => exact i1.trans i2
/-- no partition is cheaper than the rows say -/
theorem Dp.low_all {ts : List Tk} {ps : List Pg} {rs : List (Option Row)} (D : Dp ts ps rs) : ∀ (k m : Nat), m < k → m < rs.length → ∀ (L : List Nat) (S : Int), Part m L → sumO (L.map (sg ts ps)) = some S → ∃ r, rs[m]? = some (some r) ∧ r.c ≤ S
  | 0, m, hk, _, _, _, _, _ => absurd hk (Nat.not_lt_zero m)
  | k + 1, m, hk, hm, L, S, hp, hS => by
    rcases Nat.eq_zero_or_pos m with h0 | h0
    · subst h0
      cases L with
      | nil =>
        simp [sumO] at hS
        exact ⟨_, D.zero, by rw [← hS]; exact Int.le_refl _⟩
      | cons q L =>
        obtain ⟨h1, h2, _⟩ := hp.inv
        have := sub_le h2
        omega
    · obtain ⟨j, hj, hlow⟩ := D.low m h0 hm
      obtain ⟨q, hq, hqj⟩ := hp.has hj
      have pe := List.perm_cons_erase hq
      obtain ⟨h1, h2, h3⟩ := (hp.perm pe).inv
      rw [sumO_perm (pe.map (sg ts ps)), List.map_cons] at hS
      cases hs : sg ts ps q with
      | none => rw [hs] at hS; simp [sumO] at hS
      | some s =>
        rw [hs] at hS
        cases hr : sumO ((L.erase q).map (sg ts ps)) with
        | none => simp [sumO, hr] at hS
        | some R =>
          simp [sumO, hr] at hS
          have hqm := sub_le h2
          obtain ⟨r', hr1, hr2⟩ := D.low_all k (m - q) (by omega) (by omega) _ R h3 hr
          obtain ⟨r, e1, e2⟩ := hlow q ⟨h2, hqj⟩ s r' hs hr1
          exact ⟨r, e1, by omega⟩
/-- what the rows say is the price of a partition -/
theorem Dp.get_all {ts : List Tk} {ps : List Pg} {rs : List (Option Row)} (D : Dp ts ps rs) : ∀ (k m : Nat) (r : Row), m < k → rs[m]? = some (some r) → ∃ L, Part m L ∧ sumO (L.map (sg ts ps)) = some r.c
  | 0, m, _, hk, _ => absurd hk (Nat.not_lt_zero m)
  | k + 1, m, r, hk, hr => by
    rcases Nat.eq_zero_or_pos m with h0 | h0
    · subst h0
      rw [D.zero] at hr
      cases hr
      exact ⟨[], .nil, rfl⟩
    · obtain ⟨q, i, t, r', _, h2, h3, _, _, _, h4, h5, h6⟩ := D.get m r h0 hr
      have := sub_le h2
      obtain ⟨L, hL, hS⟩ := D.get_all k (m - q) r' (by omega) h5
      exact ⟨q :: L, .cons h3 h2 hL, by rw [List.map_cons, h4]; simp [sumO, hS, h6]⟩
end K9
end PK90T
section PK90U
set_option maxHeartbeats 2000000
open PySem PySem.Spec PyProof.Rows L2 DL
namespace K9
def putAt (n : Nat) (L : List Nat) (a : Nat) : List Nat := L.take a ++ [(L[a]?).getD 0 + 2 ^ n] ++ L.drop (a + 1)
def pts : Nat → List (List Nat)
  | 0 => [[]]
  | n + 1 => (pts n).flatMap fun L => (L ++ [2 ^ n]) :: (List.range L.length).map (putAt n L)
theorem sub_full {q n : Nat} : Sub q (2 ^ n - 1) ↔ q < 2 ^ n := by
  have hp := Nat.two_pow_pos n
  constructor
  · intro h
    have := sub_le h
    omega
  · intro h
    exact sub_bits.mpr fun i hi => by
      rw [Nat.testBit_two_pow_sub_one]
      exact decide_eq_true (bit_lt h hi)
theorem cut_at {L : List Nat} {a q : Nat} (h : L[a]? = some q) : L = L.take a ++ q :: L.drop (a + 1) := by
  obtain ⟨h1, h2⟩ := List.getElem?_eq_some_iff.mp h
  rw [← h2, ← List.drop_eq_getElem_cons h1, List.take_append_drop]
theorem put_perm {n : Nat} {L : List Nat} {a q : Nat} (h : L[a]? = some q) : (putAt n L a).Perm ((q + 2 ^ n) :: (L.take a ++ L.drop (a + 1))) := by
  unfold putAt
  rw [h, List.append_assoc]
  exact List.perm_middle
theorem old_perm {L : List Nat} {a q : Nat} (h : L[a]? = some q) : L.Perm (q :: (L.take a ++ L.drop (a + 1))) := by
  have := cut_at h
  have e : (L.take a ++ q :: L.drop (a + 1)).Perm (q :: (L.take a ++ L.drop (a + 1))) := List.perm_middle
  rw [← this] at e
  exact e
theorem pow_succ2 (n : Nat) : 2 ^ (n + 1) = 2 ^ n + 2 ^ n := by rw [Nat.pow_succ]; omega
theorem pts_sound : ∀ (n : Nat) (L : List Nat), L ∈ pts n → Part (2 ^ n - 1) L
  | 0, L, h => by
    simp [pts] at h
    subst h
    exact .nil
  | n + 1, L, h => by
    have hp := Nat.two_pow_pos n
    have he := pow_succ2 n
    unfold pts at h
    obtain ⟨L', h1, h2⟩ := List.mem_flatMap.mp h
    have ih := pts_sound n L' h1
    rcases List.mem_cons.mp h2 with rfl | h2
    · have hP : Part (2 ^ (n + 1) - 1) (2 ^ n :: L') := by
        refine .cons hp (sub_full.mpr (by omega)) ?_
        have : 2 ^ (n + 1) - 1 - 2 ^ n = 2 ^ n - 1 := by omega
        rw [this]
        exact ih
      exact hP.perm (List.perm_append_singleton _ _).symm
    · obtain ⟨a, ha, rfl⟩ := List.mem_map.mp h2
      have ha := List.mem_range.mp ha
      have hq : L'[a]? = some L'[a] := by simp
      obtain ⟨q, hqe⟩ : ∃ q, q = L'[a] := ⟨_, rfl⟩
      rw [← hqe] at hq
      obtain ⟨i1, i2, i3⟩ := (ih.perm (old_perm hq)).inv
      have := sub_full.mp i2
      have hP : Part (2 ^ (n + 1) - 1) ((q + 2 ^ n) :: (L'.take a ++ L'.drop (a + 1))) := by
        refine .cons (by omega) (sub_full.mpr (by omega)) ?_
        have : 2 ^ (n + 1) - 1 - (q + 2 ^ n) = 2 ^ n - 1 - q := by omega
        rw [this]
        exact i3
      exact hP.perm (put_perm hq).symm
theorem pts_all : ∀ (n : Nat) (L : List Nat), Part (2 ^ n - 1) L → ∃ L' ∈ pts n, L.Perm L'
  | 0, L, h => by
    cases L with
    | nil => exact ⟨[], by simp [pts], .refl _⟩
    | cons q L =>
      obtain ⟨h1, h2, _⟩ := h.inv
      have := sub_le h2
      simp at this
      omega
  | n + 1, L, h => by
    have hp := Nat.two_pow_pos n
    have he := pow_succ2 n
    obtain ⟨q, hq, hb⟩ := h.has (j := n) (by rw [Nat.testBit_two_pow_sub_one]; simp)
    have pe := List.perm_cons_erase hq
    obtain ⟨h1, h2, h3⟩ := (h.perm pe).inv
    have hlt := sub_full.mp h2
    have hge : 2 ^ n ≤ q := Nat.ge_two_pow_of_testBit hb
    by_cases h0 : q = 2 ^ n
    · have e : 2 ^ (n + 1) - 1 - q = 2 ^ n - 1 := by omega
      rw [e] at h3
      obtain ⟨L', i1, i2⟩ := pts_all n _ h3
      refine ⟨L' ++ [2 ^ n], ?_, ?_⟩
      · unfold pts
        exact List.mem_flatMap.mpr ⟨L', i1, List.mem_cons_self⟩
      · rw [h0] at pe
        rw [h0] at i2
        exact (pe.trans (i2.cons _)).trans (List.perm_append_singleton _ _).symm
    · have h4 : Part (2 ^ n - 1) ((q - 2 ^ n) :: L.erase q) := by
        refine .cons (by omega) (sub_full.mpr (by omega)) ?_
        have e : 2 ^ n - 1 - (q - 2 ^ n) = 2 ^ (n + 1) - 1 - q := by omega
        rw [e]
        exact h3
      obtain ⟨L', i1, i2⟩ := pts_all n _ h4
      have hm : q - 2 ^ n ∈ L' := i2.mem_iff.mp List.mem_cons_self
      obtain ⟨a, ha, hae⟩ := List.getElem_of_mem hm
      have hqa : L'[a]? = some (q - 2 ^ n) := by rw [← hae]; simp
      have p1 := (i2.trans (old_perm hqa)).cons_inv
      have p2 := put_perm (n := n) hqa
      have e : q - 2 ^ n + 2 ^ n = q := by omega
      rw [e] at p2
      refine ⟨putAt n L' a, ?_, (pe.trans (p1.cons q)).trans p2.symm⟩
      unfold pts
      exact List.mem_flatMap.mpr ⟨L', i1, List.mem_cons_of_mem _ (List.mem_map.mpr ⟨a, List.mem_range.mpr ha, rfl⟩)⟩
end K9
end PK90U
section PK90V
set_option maxHeartbeats 2000000
open PySem PySem.Spec PyProof.Rows L2 DL
namespace K9
theorem plc_put {q n : Nat} (h : q < 2 ^ n) (hn : n < 20) : plc (q + 2 ^ n) = plc q ++ [n] := by
  have he := pow_succ2 n
  have e : q + 2 ^ n = 2 ^ n + q := by omega
  have hb : (q + 2 ^ n).testBit n = true := by
    rw [e, Nat.testBit_two_pow_add_eq, Nat.testBit_lt_two_pow h]
    rfl
  rw [← plk_eq (show q + 2 ^ n < 2 ^ (n + 1) by omega) (by omega), plk_succ, if_pos hb, ← plk_eq h (by omega)]
  congr 1
  unfold plk
  refine List.filter_congr fun j hj => ?_
  rw [e, Nat.testBit_two_pow_add_gt (List.mem_range.mp hj)]
theorem plc_pow {n : Nat} (hn : n < 20) : plc (2 ^ n) = [n] := by
  have h0 : plc 0 = [] := by
    unfold plc plk
    rw [List.filter_eq_nil_iff]
    intro j _
    simp
  have := plc_put (q := 0) (Nat.two_pow_pos n) hn
  rw [h0, Nat.zero_add] at this
  exact this
def lotD (q : Nat) : PyData := .list ((plc q).map natD)
def lotsD (L : List Nat) : PyData := .list (L.map lotD)
theorem addL {xs ys : List PyData} (h : xs.length + ys.length ≤ 10000) : gAdd (.list xs) (.list ys) = some (.l (xs ++ ys)) := if_pos (Nat.le_trans h (by rw [sizeLine_eq]; omega))
theorem cut_to {xs : List PyData} {a : Nat} (h : a ≤ xs.length) : DL.cutD xs none (some (a : Int)) = xs.take a := by
  unfold DL.cutD
  rw [HT.sIx_nat, HT.sIx_none, Nat.min_eq_left h]
  simp
theorem cut_from {xs : List PyData} {a : Nat} (h : a ≤ xs.length) : DL.cutD xs (some (a : Int)) none = xs.drop a := by
  unfold DL.cutD
  rw [HT.sIx_nat, HT.sIx_none, Nat.min_eq_left h]
  exact List.take_of_length_le (by simp)
theorem pts_len : ∀ (n : Nat) (L : List Nat), L ∈ pts n → L.length ≤ n
  | 0, L, h => by simp [pts] at h; subst h; simp
  | n + 1, L, h => by
    unfold pts at h
    obtain ⟨L', h1, h2⟩ := List.mem_flatMap.mp h
    have ih := pts_len n L' h1
    rcases List.mem_cons.mp h2 with rfl | h2
    · simp; omega
    · obtain ⟨a, ha, rfl⟩ := List.mem_map.mp h2
      have ha := List.mem_range.mp ha
      unfold putAt
      simp
      omega
def stp (n : Nat) (L : List Nat) : List (List Nat) := (L ++ [2 ^ n]) :: (List.range L.length).map (putAt n L)
theorem stp_len (n : Nat) (L : List Nat) : (stp n L).length = L.length + 1 := by simp [stp]
theorem flat_len {n : Nat} {k : Nat} : ∀ (Ls : List (List Nat)), (∀ L ∈ Ls, L.length ≤ k) → (Ls.flatMap (stp n)).length ≤ (k + 1) * Ls.length
  | [], _ => by simp
  | L :: Ls, h => by
    have h1 := h L List.mem_cons_self
    have h2 := flat_len (n := n) (k := k) Ls fun x hx => h x (List.mem_cons_of_mem _ hx)
    rw [List.flatMap_cons, List.length_append, stp_len, List.length_cons, Nat.mul_succ]
    omega
theorem pts_count : ∀ n : Nat, n ≤ 6 → (pts n).length ≤ 7 ^ n
  | 0, _ => by simp [pts]
  | n + 1, h => by
    have ih := pts_count n (by omega)
    have := flat_len (n := n) (k := n) (pts n) (pts_len n)
    have e : pts (n + 1) = (pts n).flatMap (stp n) := rfl
    rw [e]
    have h7 : (n + 1) * (pts n).length ≤ 7 * 7 ^ n := Nat.mul_le_mul (by omega) ih
    rw [Nat.pow_succ, Nat.mul_comm (7 ^ n) 7]
    omega
theorem pts_mask {n : Nat} {L : List Nat} (h : L ∈ pts n) : ∀ q ∈ L, 0 < q ∧ q < 2 ^ n := fun q hq => by
  obtain ⟨h1, h2⟩ := (pts_sound n L h).sub q hq
  exact ⟨h1, sub_full.mp h2⟩
theorem put_D {n : Nat} (hn : n < 20) {L : List Nat} (hL : ∀ q ∈ L, q < 2 ^ n) {a : Nat} (ha : a < L.length) : lotsD (putAt n L a) = .list ((L.map lotD).take a ++ [.list ((plc L[a]).map natD ++ [natD n])] ++ (L.map lotD).drop (a + 1)) := by
  have hq := hL L[a] (List.getElem_mem ha)
  have e : lotD (L[a] + 2 ^ n) = .list ((plc L[a]).map natD ++ [natD n]) := by
    unfold lotD
    rw [plc_put hq hn, List.map_append]
    rfl
  unfold lotsD putAt
  rw [List.map_append, List.map_append, ← List.map_take, ← List.map_drop, ← e]
  simp [ha]
def PaI (v : Nat) (i : Nat) (k : Nat) (ρ : Rho) : Prop := ∃ s1 s4 s5 : Sl, (s1 = .l ((pts i).map lotsD) ∨ s1 = .d (.list ((pts i).map lotsD))) ∧ ρ = [.d (natD v), s1, .d (natD i), .l ((((pts i).take k).flatMap (stp i)).map lotsD), s4, s5]
theorem pa_turn {v i k : Nat} (hi : i < 6) {L : List Nat} (hk : (pts i)[k]? = some L) (ρ : Rho) (h : PaI v i k ρ) : W (gdName 4 (.d (lotsD L)) ρ) fun ρ1 => W (l__law_partings_2 ρ1) fun
      | .nx ρ2 => PaI v i (k + 1) ρ2
      | _ => False := by
  obtain ⟨s1, s4, s5, h1, rfl⟩ := h
  have hL := List.mem_of_getElem? hk
  have hm := pts_mask hL
  have hlen := pts_len i L hL
  have hcnt := pts_count i (by omega)
  have h6 : 7 ^ i ≤ 16807 := Nat.pow_le_pow_right (n := 7) (by omega) (show i ≤ 5 by omega)
  have hfl : (((pts i).take k).flatMap (stp i)).length ≤ (i + 1) * ((pts i).take k).length := flat_len _ fun x hx => pts_len i x (List.mem_of_mem_take hx)
  have hfl2 : (((pts i).take k).flatMap (stp i)).length ≤ 7 * 16807 := by
    refine Nat.le_trans hfl (Nat.mul_le_mul (by omega) ?_)
    rw [List.length_take]
    omega
  have hz : ∀ x : Nat, x ≤ 10000 → (((pts i).take k).flatMap (stp i)).length + x ≤ sizeLine := fun x hx => by rw [sizeLine_eq]; omega
  have hz1 : (((pts i).take k).flatMap (stp i)).length < sizeLine := by have := hz 1 (by omega); omega
  have ea : gAdd (lotsD L) (.list [.list [natD i]]) = some (.l ((L ++ [2 ^ i]).map lotD)) := by
    unfold lotsD
    rw [addL (by simp; omega), List.map_append]
    simp [lotD, plc_pow (show i < 20 by omega)]
  have hst : ((pts i).take (k + 1)).flatMap (stp i) = ((pts i).take k).flatMap (stp i) ++ stp i L := by
    rw [take_at hk, List.flatMap_append]
    simp
  have hr : range1D [.int (L.length : Int)] = some (rngD 0 1 L.length) := x_range1 (by omega) (by omega)
  have fin : ∀ s1 s4 s5 : Sl, (s1 = .l ((pts i).map lotsD) ∨ s1 = .d (.list ((pts i).map lotsD))) → PaI v i (k + 1) [.d (natD v), s1, .d (natD i), .l ((((pts i).take k).flatMap (stp i) ++ stp i L).map lotsD), s4, s5] := fun s1 s4 s5 h => ⟨s1, s4, s5, h, by rw [hst]⟩
  obtain ⟨F, hF⟩ : ∃ F, F = ((pts i).take k).flatMap (stp i) := ⟨_, rfl⟩
  rw [← hF] at hz hz1 fin ⊢
  simp [l__law_partings_2]
  refine W_seq ?_
  simp [ea, hz1]
  refine SeqK.nx (W_last ?_)
  have hrd : rngD 0 1 L.length = (List.range L.length).map natD := by
    unfold rngD
    refine List.map_congr_left fun a _ => ?_
    exact congrArg PyData.int (show (0 : Int) + (a : Int) * 1 = (a : Int) by omega)
  have hc : ∀ s3 s5 : Sl, eComp [5] (iApp range1D (aCons (eApp DL.gLen (aCons (eVar 4) aNil)) aNil)) (gdName 5) tAll (eBin gAdd (eBin gAdd (eCut (eVar 4) oNone (oSome (eVar 5))) (eApp DL.gLst (aCons (eBin gAdd (eBin gIx (eVar 4) (eVar 5)) (eApp DL.gLst (aCons (eVar 2) aNil))) aNil))) (eCut (eVar 4) (oSome (eBin gAdd (eVar 5) (eK (.int 1)))) oNone)) [.d (natD v), s1, .d (natD i), s3, .d (lotsD L), s5] = some (.l ((List.range L.length).map fun a => lotsD (putAt i L a)), [.d (natD v), s1, .d (natD i), s3, .d (lotsD L), .u]) := fun s3 s5 => by
    refine W_eq.mp (W_compA natD (fun a => lotsD (putAt i L a)) (List.range L.length) (ρ' := [.d (natD v), s1, .d (natD i), s3, .d (lotsD L), s5]) ?_ (fun a ha => ?_) (by rw [List.length_range]; omega) rfl)
    · simp [lotsD, hr, hrd]
    · have ha := List.mem_range.mp ha
      have c1 : DL.cutD (L.map lotD) none (some (a : Int)) = (L.map lotD).take a := cut_to (by simp; omega)
      have c2 : DL.cutD (L.map lotD) (some ((a : Int) + 1)) none = (L.map lotD).drop (a + 1) := cut_from (a := a + 1) (by simp; omega)
      have hat : atI (L.map lotD) (a : Int) = some (.list ((plc L[a]).map natD)) := by rw [DL.atI_nat]; simp [ha, lotD]
      have hpl : (plc L[a]).length ≤ 20 := plk_len _ 20
      have a1 : gAdd (.list ((plc L[a]).map natD)) (.list [natD i]) = some (.l ((plc L[a]).map natD ++ [natD i])) := addL (by simp; omega)
      have a2 : ∀ x, gAdd (.list ((L.map lotD).take a)) (.list [x]) = some (.l ((L.map lotD).take a ++ [x])) := fun x => addL (by simp; omega)
      have a3 : ∀ x, gAdd (.list ((L.map lotD).take a ++ [x])) (.list ((L.map lotD).drop (a + 1))) = some (.l ((L.map lotD).take a ++ [x] ++ (L.map lotD).drop (a + 1))) := fun x => addL (by simp; omega)
      rw [put_D (by omega) (fun q hq => (hm q hq).2) ha]
      simp only [natD] at a1
      simp [lotsD, natD, gCut, c1, c2, hat, a1, a2, a3]
  simp only [q__law_partings_1]
  simp [hc]
  have he : opExtend (F.map lotsD ++ [PyData.list (L.map lotD ++ [lotD (2 ^ i)])]) [.list ((List.range L.length).map fun a => lotsD (putAt i L a))] = some (.none, (F ++ stp i L).map lotsD) := by
    have e : (F ++ stp i L).map lotsD = (F.map lotsD ++ [PyData.list (L.map lotD ++ [lotD (2 ^ i)])]) ++ (List.range L.length).map fun a => lotsD (putAt i L a) := by
      unfold stp
      rw [List.map_append, List.map_cons, List.map_map, List.append_assoc]
      unfold lotsD
      rw [List.map_append]
      rfl
    rw [e]
    refine if_pos ?_
    have := hz (L.length + 1) (by omega)
    rw [List.length_append, List.length_map, List.length_map, List.length_range, List.length_singleton]
    omega
  rw [he]
  exact ⟨_, rfl, fin _ _ _ h1⟩
def PoI (v : Nat) (i : Nat) (ρ : Rho) : Prop := ∃ s1 s2 s3 s4 s5 : Sl, s1 = .l ((pts i).map lotsD) ∧ ρ = [.d (natD v), s1, s2, s3, s4, s5]
theorem po_turn {v i : Nat} (hi : i < 6) (ρ : Rho) (h : PoI v i ρ) : W (gdName 2 (.d (natD i)) ρ) fun ρ1 => W (l__law_partings_3 ρ1) fun
      | .nx ρ2 => PoI v (i + 1) ρ2
      | _ => False := by
  obtain ⟨s1, s2, s3, s4, s5, h1, rfl⟩ := h
  have key := for_nx (gd := gdName 4) (g := l__law_partings_2) lotsD (PaI v i) (xs := pts i) (ρ := [.d (natD v), .d (.list ((pts i).map lotsD)), .d (natD i), .l [], s4, s5])
    ⟨_, s4, s5, .inr rfl, by simp⟩ fun k L hk ρ h => pa_turn hi hk ρ h
  have e : pts (i + 1) = (pts i).flatMap (stp i) := rfl
  simp [l__law_partings_3]
  refine W_seq ?_
  simp
  refine SeqK.nx (W_seq ?_)
  subst h1
  simp [sFor]
  refine key.mono fun o ⟨ρ', e1, t1, t4, t5, e2, e3⟩ => ?_
  subst e1 e3
  refine SeqK.nx (W_last ?_)
  simp only [List.take_length, ← e]
  simp
  exact ⟨_, _, _, _, _, rfl, rfl⟩
theorem partings_v (n : Nat) (hn : n ≤ 6) : m__law_partings [.d (natD n)] = some (.l ((pts n).map lotsD), [.u]) := by
  have hr : range1D [.int (n : Int)] = some (rngD 0 1 n) := x_range1 (by omega) (by omega)
  have hr2 : range1D [natD n] = some (rngD 0 1 n) := hr
  refine W_eq.mp (W_body (W_seq ?_))
  simp
  refine SeqK.nx (W_seq ?_)
  simp [sFor, hr2]
  have key := for_nx (gd := gdName 2) (g := l__law_partings_3) id (PoI n) (xs := rngD 0 1 n) (ρ := [.d (natD n), .l [.list []], .u, .u, .u, .u])
    ⟨_, .u, .u, .u, .u, rfl, rfl⟩ fun i d hd ρ h => by
      obtain ⟨hi, rfl⟩ := rngD_get hd
      have e0 : (0 : Int) + (i : Int) * 1 = (i : Int) := by omega
      have e : PyData.int (0 + (i : Int) * 1) = natD i := congrArg PyData.int e0
      show W (gdName 2 (.d (.int (0 + (i : Int) * 1))) ρ) _
      rw [e]
      exact po_turn (by omega) ρ h
  rw [List.map_id] at key
  refine key.mono fun o ⟨ρ', e1, s1, s2, s3, s4, s5, e2, e3⟩ => ?_
  subst e1 e3
  rw [rngD_len] at e2
  refine SeqK.nx (W_last ?_)
  subst e2
  simp
  exact BodyK.ret (by simp) (by simp [keepP])
end K9
end PK90V
section PK90X
set_option maxHeartbeats 2000000
open PySem PySem.Spec PyProof.Rows L2 DL
namespace K9
def cst (rs : List (Option Row)) (m : Nat) : Option Int := (rs[m]?.join).map Row.c
theorem rows_last {ts : List Tk} {ps : List Pg} {rs : List (Option Row)} (D : Dp ts ps rs) : atI rs (-1) = rs[2 ^ ps.length - 1]? := by
  have h2 := Nat.two_pow_pos ps.length
  have hl := D.len
  unfold L2.atI L2.ixN
  rw [if_neg (by omega), if_pos (by omega)]
  simp only [Option.bind_some]
  congr 1
  omega
theorem atI_map {α β : Type} (f : α → β) (xs : List α) (i : Int) : atI (xs.map f) i = (atI xs i).map f := by
  unfold L2.atI
  rw [List.length_map]
  cases L2.ixN xs.length i <;> simp
theorem least_prices_v {ts : List Tk} {ps : List Pg} (ok : Ok ts ps) {v u : PyData} (hv : SeqOf (ts.map Tk.d) v) (hu : SeqOf (ps.map Pg.d) u) : ∃ rs : List (Option Row), Dp ts ps rs ∧ m_least_prices [.d v, .d u] = some (.l (rs.map fun o => optD (o.map Row.c)), [.u, .u]) := by
  obtain ⟨rs, D, hm⟩ := least_rows_dp ok hv hu
  refine ⟨rs, D, W_eq.mp (W_body (W_last ?_))⟩
  have hl : rs.length ≤ 10000 := by rw [D.len]; have := pow_le ok.p10; omega
  simp only [q_least_prices_1, x_sRet, W_map]
  refine W_compA rowD (fun o => optD (o.map Row.c)) rs (ρ' := [.d v, .d u, .u]) (by simp [hm]) (fun o ho => ?_) hl ?_
  · cases o <;> simp [rowD, Row.d, optD]
  · exact BodyK.ret (by simp) (by simp [keepP])
theorem cheapest_of_v {ts : List Tk} {ps : List Pg} (ok : Ok ts ps) {v u : PyData} (hv : SeqOf (ts.map Tk.d) v) (hu : SeqOf (ps.map Pg.d) u) : ∃ rs : List (Option Row), Dp ts ps rs ∧ m_cheapest_of [.d v, .d u] = some (.d (optD (cst rs (2 ^ ps.length - 1))), [.u, .u]) := by
  obtain ⟨rs, D, hm⟩ := least_prices_v ok hv hu
  refine ⟨rs, D, W_eq.mp (W_body (W_last ?_))⟩
  have h2 := Nat.two_pow_pos ps.length
  have hl := D.len
  have hlt : 2 ^ ps.length - 1 < rs.length := by omega
  have ha : atI (rs.map fun o => optD (o.map Row.c)) (-1) = some (optD (cst rs (2 ^ ps.length - 1))) := by
    rw [atI_map, rows_last D]
    simp [hlt, cst]
  simp [hm, ha]
  exact BodyK.ret (by simp) (by simp [keepP])
theorem cheapest_v {ts : List Tk} {ps : List Pg} (ok : Ok ts ps) {v u : PyData} (hv : SeqOf (ts.map Tk.d) v) (hu : SeqOf (ps.map Pg.d) u) : ∃ rs : List (Option Row), Dp ts ps rs ∧ m_cheapest [.d v, .d u] = some (.d (optD (cst rs (2 ^ ps.length - 1))), [.u, .u]) := by
  obtain ⟨rs, D, hm⟩ := cheapest_of_v ok hv hu
  refine ⟨rs, D, W_eq.mp (W_body (W_seq ?_))⟩
  have h1 := want_tickets_ok ts ok.tok ok.t1 ok.t8 hv
  have h2 := want_passages_ok ps ok.pok ok.p10 hu
  simp [h1]
  refine SeqK.nx (W_last ?_)
  simp [h2, hm]
  exact BodyK.ret (by simp) (by simp [keepP])
end K9
end PK90X
section PK90Y
set_option maxHeartbeats 2000000
open PySem PySem.Spec PyProof.Rows L2 DL
namespace K9
structure Buy where
  q : Nat
  i : Nat
  t : Tk
def Buy.d (b : Buy) : PyData := .tuple [natD b.i, .tuple ((plc b.q).map natD)]
structure Buy.ok (ts : List Tk) (ps : List Pg) (b : Buy) : Prop where
  t : ts[b.i]? = some b.t
  c : covB b.t (pks ps (plc b.q)) = true
def cost (bs : List Buy) : Int := (bs.map fun b => b.t.price).sum
structure CbS (ts : List Tk) (ps : List Pg) (rs : List (Option Row)) (M : Nat) (C : Int) (m : Nat) (bs : List Buy) : Prop where
  lt : m < rs.length
  ok : ∀ b ∈ bs, b.ok ts ps
  part : ∀ R, Part m R → Part M (bs.map Buy.q ++ R)
  row : ∃ r, rs[m]? = some (some r) ∧ cost bs + r.c = C
  len : bs.length + m ≤ M
def CbI (ts : List Tk) (ps : List Pg) (rs : List (Option Row)) (M : Nat) (C : Int) (m : Nat) (ρ : Rho) : Prop := ∃ (bs : List Buy) (s3 s4 s5 : Sl), CbS ts ps rs M C m bs ∧ ρ = [.d (.list (rs.map rowD)), .d (natD m), .l (bs.map Buy.d), s3, s4, s5]
def CbP (ts : List Tk) (ps : List Pg) (rs : List (Option Row)) (M : Nat) (C : Int) (ρ : Rho) : Prop := CbI ts ps rs M C 0 ρ
theorem cb_step {ts : List Tk} {ps : List Pg} {rs : List (Option Row)} (D : Dp ts ps rs) {M m : Nat} {C : Int} {bs : List Buy} (h0 : 0 < m) (S : CbS ts ps rs M C m bs) : ∃ (b : Buy) (r : Row), rs[m]? = some (some r) ∧ r.k = (b.i : Int) ∧ r.p = (b.q : Int) ∧ 0 < b.q ∧ b.q ≤ m ∧ CbS ts ps rs M C (m - b.q) (bs ++ [b]) := by
  obtain ⟨r, hr, hC⟩ := S.row
  obtain ⟨q, i, t, r', e1, e2, e3, e4, e5, e6, e7, e8, e9⟩ := D.get m r h0 hr
  have hq := sub_le e2
  have hlt := S.lt
  have hlen := S.len
  refine ⟨⟨q, i, t⟩, r, hr, e4, e1, e3, hq, ⟨by omega, fun b hb => ?_, fun R hR => ?_, ⟨r', e8, ?_⟩, ?_⟩⟩
  · rcases List.mem_append.mp hb with hb | hb
    · exact S.ok b hb
    · rw [List.mem_singleton.mp hb]
      exact ⟨e5, e6⟩
  · have := S.part (q :: R) (.cons e3 e2 hR)
    rw [List.map_append, List.append_assoc]
    exact this
  · have : cost (bs ++ [⟨q, i, t⟩]) = cost bs + t.price := by simp [cost]
    rw [this]
    omega
  · rw [List.length_append, List.length_singleton]
    show bs.length + 1 + (m - q) ≤ M
    omega
theorem cb_turn {ts : List Tk} {ps : List Pg} {rs : List (Option Row)} (D : Dp ts ps rs) (hp : ps.length ≤ 10) {M m : Nat} {C : Int} (hM : M < 1024) (h0 : 0 < m) (ρ : Rho) (h : CbI ts ps rs M C m ρ) : W (l_cover_by_2 ρ) fun
      | .nx ρ2 => ∃ m', m' < m ∧ CbI ts ps rs M C m' ρ2
      | _ => False := by
  obtain ⟨bs, s3, s4, s5, S, rfl⟩ := h
  obtain ⟨b, r, hr, hk, hpq, hq0, hqm, S'⟩ := cb_step D h0 S
  have hlt := S.lt
  have hl := S.len
  have hL := D.len
  have h1024 := pow_le hp
  have hat : atI (rs.map rowD) (m : Int) = some (.tuple [.int r.c, .int r.k, .int r.p]) := by rw [DL.atI_nat]; simp [hr, rowD, Row.d]
  have hat2 : gIx (.list (rs.map rowD)) (natD m) = some (.d (.tuple [.int r.c, .int (b.i : Int), .int (b.q : Int)])) := by rw [← hk, ← hpq]; simp [natD, hat]
  have hpl := places_in_v b.q (pow20 (k := 10) (by omega) (by omega))
  have hpl2 : m_places_in [.d (.int (b.q : Int))] = some (.l ((plc b.q).map natD), [.u]) := hpl
  have hsz : bs.length < sizeLine := nat_lt_small (by omega)
  have hsub : DL.gSub (natD m) (.int (b.q : Int)) = some (.d (natD (m - b.q))) := by
    unfold natD
    rw [x_subI]
    congr 3
    omega
  have fin : ∀ s3 s4 s5 : Sl, CbI ts ps rs M C (m - b.q) [.d (.list (rs.map rowD)), .d (natD (m - b.q)), .l ((bs ++ [b]).map Buy.d), s3, s4, s5] := fun s3 s4 s5 => ⟨_, s3, s4, s5, S', rfl⟩
  rw [List.map_append] at fin
  simp only [l_cover_by_2]
  refine W_seq ?_
  simp [hat2]
  refine SeqK.nx (W_seq ?_)
  simp [q_cover_by_1, hpl2, hsz]
  have ht : gTuple [.list ((plc b.q).map natD)] = some (.d (.tuple ((plc b.q).map natD))) := rfl
  simp [ht]
  refine SeqK.nx (W_last ?_)
  simp [hsub]
  exact ⟨m - b.q, by omega, fin _ _ _⟩
theorem cover_by_v {ts : List Tk} {ps : List Pg} {rs : List (Option Row)} (D : Dp ts ps rs) (hp : ps.length ≤ 10) {C : Int} (hc : cst rs (2 ^ ps.length - 1) = some C) : ∃ bs : List Buy, (∀ b ∈ bs, b.ok ts ps) ∧ Part (2 ^ ps.length - 1) (bs.map Buy.q) ∧ cost bs = C ∧ bs.length ≤ 1023 ∧ m_cover_by [.d (.list (rs.map rowD))] = some (.l (bs.map Buy.d), [.u]) := by
  suffices h : W (m_cover_by [.d (.list (rs.map rowD))]) fun x => ∃ bs : List Buy, (∀ b ∈ bs, b.ok ts ps) ∧ Part (2 ^ ps.length - 1) (bs.map Buy.q) ∧ cost bs = C ∧ bs.length ≤ 1023 ∧ x = (.l (bs.map Buy.d), [.u]) by
    obtain ⟨x, e, bs, h1, h2, h3, h4, rfl⟩ := h
    exact ⟨bs, h1, h2, h3, h4, e⟩
  obtain ⟨M, hM⟩ : ∃ M, M = 2 ^ ps.length - 1 := ⟨_, rfl⟩
  have h1024 := pow_le hp
  have h2 := Nat.two_pow_pos ps.length
  have hL := D.len
  rw [← hM] at hc ⊢
  have hrow : ∃ r, rs[M]? = some (some r) ∧ r.c = C := by
    unfold cst at hc
    cases hx : rs[M]? with
    | none => rw [hx] at hc; cases hc
    | some o =>
      cases o with
      | none => rw [hx] at hc; cases hc
      | some r => rw [hx] at hc; exact ⟨r, rfl, by simpa using hc⟩
  obtain ⟨r, hr, hrc⟩ := hrow
  have hsub : DL.gSub (.int (rs.length : Int)) (.int 1) = some (.d (natD M)) := by
    unfold natD
    rw [x_subI]
    congr 3
    omega
  refine W_body (W_seq ?_)
  simp [hsub]
  refine SeqK.nx (W_seq ?_)
  have key := while_run (t := tVal (eBin gGt (eVar 1) (eK (.int 0)))) (g := l_cover_by_2) (CbI ts ps rs M C) (CbP ts ps rs M C) (fun m ρ hm => ?_) M [.d (.list (rs.map rowD)), .d (natD M), .l [], .u, .u, .u]
    ⟨[], .u, .u, .u, ⟨by omega, fun b hb => (by cases hb), fun R hR => hR, ⟨r, hr, by simp [cost, hrc]⟩, by simp⟩, rfl⟩
  · refine key.mono fun o ⟨ρ', e1, bs, s3, s4, s5, S, e2⟩ => ?_
    subst e1 e2
    refine SeqK.nx (W_last ?_)
    simp
    obtain ⟨r0, q1, q2⟩ := S.row
    rw [D.zero] at q1
    cases q1
    have hP := S.part [] .nil
    rw [List.append_nil] at hP
    have := S.len
    refine BodyK.ret (by simp) ⟨bs, S.ok, hP, by simpa using q2, by omega, by simp [keepP]⟩
  · by_cases h0 : 0 < m
    · have ht := cb_turn D hp (by omega) h0 ρ hm
      obtain ⟨bs, s3, s4, s5, S, rfl⟩ := hm
      have h0' : (0 : Int) < (m : Int) := by omega
      have hgt : gGt (natD m) (.int 0) = some (.d (.bool true)) := by
        unfold natD
        rw [x_gtI, decide_eq_true h0']
      simp [hgt]
      exact ht
    · have e : m = 0 := by omega
      subst e
      obtain ⟨bs, s3, s4, s5, S, rfl⟩ := hm
      have hgt : gGt (natD 0) (.int 0) = some (.d (.bool false)) := rfl
      simp [hgt]
      exact ⟨bs, s3, s4, s5, S, rfl⟩
end K9
end PK90Y
section PK90Z
set_option maxHeartbeats 2000000
open PySem PySem.Spec PyProof.Rows L2 DL
namespace K9
def CoverOk (ts : List Tk) (ps : List Pg) (C : Int) (bs : List Buy) : Prop := (∀ b ∈ bs, b.ok ts ps) ∧ Part (2 ^ ps.length - 1) (bs.map Buy.q) ∧ cost bs = C ∧ bs.length ≤ 1023
theorem cheapest_cover_v {ts : List Tk} {ps : List Pg} (ok : Ok ts ps) {v u : PyData} (hv : SeqOf (ts.map Tk.d) v) (hu : SeqOf (ps.map Pg.d) u) : ∃ rs : List (Option Row), Dp ts ps rs ∧
    ((cst rs (2 ^ ps.length - 1) = none ∧ m_cheapest_cover [.d v, .d u] = some (.d .none, [.u, .u])) ∨ ∃ C bs, cst rs (2 ^ ps.length - 1) = some C ∧ CoverOk ts ps C bs ∧ m_cheapest_cover [.d v, .d u] = some (.l (bs.map Buy.d), [.u, .u])) := by
  obtain ⟨rs, D, hm⟩ := least_rows_dp ok hv hu
  refine ⟨rs, D, ?_⟩
  have h1 := want_tickets_ok ts ok.tok ok.t1 ok.t8 hv
  have h2 := want_passages_ok ps ok.pok ok.p10 hu
  have h2p := Nat.two_pow_pos ps.length
  have hL := D.len
  have hlt : 2 ^ ps.length - 1 < rs.length := by omega
  have hat : atI (rs.map rowD) (-1) = some (rowD rs[2 ^ ps.length - 1]) := by
    rw [atI_map, rows_last D]
    simp [hlt]
  have hcs : cst rs (2 ^ ps.length - 1) = rs[2 ^ ps.length - 1].map Row.c := by simp [cst, hlt]
  cases hx : rs[2 ^ ps.length - 1] with
  | none =>
    rw [hx] at hat hcs
    refine .inl ⟨hcs, W_eq.mp (W_body (W_seq ?_))⟩
    simp [h1]
    refine SeqK.nx (W_seq ?_)
    simp [h2, hm]
    refine SeqK.nx (W_last ?_)
    simp [hat, rowD]
    exact BodyK.ret (by simp) (by simp [keepP])
  | some r =>
    rw [hx] at hat hcs
    have hcs' : cst rs (2 ^ ps.length - 1) = some r.c := hcs
    obtain ⟨bs, c1, c2, c3, c4, c5⟩ := cover_by_v D ok.p10 hcs'
    refine .inr ⟨r.c, bs, hcs', ⟨c1, c2, c3, c4⟩, W_eq.mp (W_body (W_seq ?_))⟩
    simp [h1]
    refine SeqK.nx (W_seq ?_)
    simp [h2, hm]
    refine SeqK.nx (W_last ?_)
    simp [hat, rowD, Row.d, c5]
    exact BodyK.ret (by simp) (by simp [keepP])
end K9
end PK90Z
section PK90ZA
set_option maxHeartbeats 2000000
open PySem PySem.Spec PyProof.Rows L2 DL
namespace K9
/-- the least price of the partitions of Ls -/
structure LeastL (f : Nat → Option Int) (Ls : List (List Nat)) (o : Option Int) : Prop where
  get : ∀ x, o = some x → ∃ L ∈ Ls, sumO (L.map f) = some x
  low : ∀ L ∈ Ls, ∀ y, sumO (L.map f) = some y → ∃ x, o = some x ∧ x ≤ y
theorem LeastL.eq {f : Nat → Option Int} {Ls : List (List Nat)} {o o' : Option Int} (h : LeastL f Ls o) (h' : LeastL f Ls o') : o = o' := by
  cases o with
  | none =>
    cases o' with
    | none => rfl
    | some y =>
      obtain ⟨L, h1, h2⟩ := h'.get y rfl
      obtain ⟨x, h3, _⟩ := h.low L h1 y h2
      cases h3
  | some x =>
    obtain ⟨L, h1, h2⟩ := h.get x rfl
    obtain ⟨y, h3, h4⟩ := h'.low L h1 x h2
    obtain ⟨L', h5, h6⟩ := h'.get y h3
    obtain ⟨z, h7, h8⟩ := h.low L' h5 y h6
    cases h7
    rw [h3]
    congr 1
    omega
theorem cst_some {rs : List (Option Row)} {m : Nat} {x : Int} : cst rs m = some x ↔ ∃ r, rs[m]? = some (some r) ∧ r.c = x := by
  unfold cst
  cases h : rs[m]? with
  | none => simp
  | some o => cases o <;> simp
theorem Dp.least {ts : List Tk} {ps : List Pg} {rs : List (Option Row)} (D : Dp ts ps rs) : LeastL (sg ts ps) (pts ps.length) (cst rs (2 ^ ps.length - 1)) := by
  have h2 := Nat.two_pow_pos ps.length
  have hl := D.len
  refine ⟨fun x hx => ?_, fun L hL y hy => ?_⟩
  · obtain ⟨r, hr, rfl⟩ := cst_some.mp hx
    obtain ⟨L, h1, h2⟩ := D.get_all _ _ r (Nat.lt_succ_self _) hr
    obtain ⟨L', h3, h4⟩ := pts_all _ L h1
    exact ⟨L', h3, by rw [← sumO_perm (h4.map _)]; exact h2⟩
  · obtain ⟨r, h1, h2⟩ := D.low_all _ _ (Nat.lt_succ_self _) (by omega) L y (pts_sound _ L hL) hy
    exact ⟨r.c, cst_some.mpr ⟨r, h1, rfl⟩, h2⟩
end K9
end PK90ZA
section PK90ZB
set_option maxHeartbeats 2000000
open PySem PySem.Spec PyProof.Rows L2 DL
namespace K9
def ky (q : Nat) : List (Int ⊕ Str) := (plc q).map fun j : Nat => Sum.inl (j : Int)
theorem ky_keyT (q : Nat) : keyT (ky q) = .tuple ((plc q).map natD) := by
  unfold keyT ky
  rw [List.map_map]
  rfl
theorem ky_of (q : Nat) : keyOfT (.tuple ((plc q).map natD)) = some (ky q) := by rw [← ky_keyT]; exact keyOfT_keyT _
def kvD (ts : List Tk) (ps : List Pg) (q : Nat) : PyData × PyData := (keyT (ky q), optD (sg ts ps q))
theorem ky_inj {a b : Nat} (h : ky a = ky b) : plc a = plc b := by
  unfold ky at h
  have h2 := congrArg (List.map fun k : (Int ⊕ Str) => match k with | .inl i => i.toNat | .inr _ => 0) h
  rw [List.map_map, List.map_map] at h2
  simpa [Function.comp_def] using h2
theorem look_known (ts : List Tk) (ps : List Pg) (q : Nat) : ∀ Ks : List Nat, lookD (Ks.map (kvD ts ps)) (ky q) = none ∨ lookD (Ks.map (kvD ts ps)) (ky q) = some (optD (sg ts ps q)) := fun Ks => by
  unfold lookD
  cases h : (Ks.map (kvD ts ps)).find? fun p => decide (keyOfT p.1 = some (ky q)) with
  | none => exact .inl rfl
  | some p =>
    right
    have h1 := List.mem_of_find?_eq_some h
    have h2 := List.find?_some h
    obtain ⟨x, _, rfl⟩ := List.mem_map.mp h1
    have h3 : ky x = ky q := by
      simp only [kvD, keyOfT_keyT, decide_eq_true_eq, Option.some.injEq] at h2
      exact h2
    have h4 := ky_inj h3
    show some (optD (sg ts ps x)) = _
    unfold sg
    rw [h4]
theorem look_put (ts : List Tk) (ps : List Pg) (q : Nat) (Ks : List Nat) : lookD ((Ks ++ [q]).map (kvD ts ps)) (ky q) = some (optD (sg ts ps q)) := by
  rcases look_known ts ps q (Ks ++ [q]) with h | h
  · exfalso
    unfold lookD at h
    rw [Option.map_eq_none_iff, List.find?_eq_none] at h
    have := h (kvD ts ps q) (List.mem_map.mpr ⟨q, by simp, rfl⟩)
    simp [kvD, keyOfT_keyT] at this
  · exact h
end K9
end PK90ZB
section PK90ZC
set_option maxHeartbeats 2000000
open PySem PySem.Spec PyProof.Rows L2 DL
namespace K9
def LcE (ts : List Tk) (ps : List Pg) (least : PyData) (Ks : List Nat) (L : List Nat) (t : Nat) (s6 s7 : Sl) : Rho := [.d (.list (ts.map Tk.d)), .d (.list (ps.map Pg.d)), .d least, .k true (Ks.map (kvD ts ps)), .d (lotsD L), .l ((L.take t).map fun q => optD (sg ts ps q)), s6, s7]
def LcJ (ts : List Tk) (ps : List Pg) (least : PyData) (L : List Nat) (N : Nat) (t : Nat) (ρ : Rho) : Prop := ∃ (Ks : List Nat) (s6 s7 : Sl), Ks.length ≤ N + t ∧ ρ = LcE ts ps least Ks L t s6 s7
theorem lcj_turn {ts : List Tk} {ps : List Pg} (ok : Ok ts ps) {least : PyData} {L : List Nat} {N : Nat} (hN : N ≤ 1000000) (hL : L.length ≤ 10) (hq : ∀ q ∈ L, q < 2 ^ ps.length) (t q : Nat) (ht : L[t]? = some q) (ρ : Rho) (h : LcJ ts ps least L N t ρ) : W (gdName 6 (.d (lotD q)) ρ) fun ρ1 => W (l__law_cheapest_2 ρ1) fun
      | .nx ρ2 => LcJ ts ps least L N (t + 1) ρ2
      | _ => False := by
  obtain ⟨Ks, s6, s7, hK, rfl⟩ := h
  have hqm := List.mem_of_getElem? ht
  obtain ⟨ht1, _⟩ := List.getElem?_eq_some_iff.mp ht
  have h20 := pow20 (hq q hqm) (by have := ok.p10; omega)
  have hlt : ∀ j ∈ plc q, j < ps.length := fun j hj => bit_lt (hq q hqm) ((plc_mem h20).mp hj)
  have hlen : (pks ps (plc q)).length ≤ 1000 := Nat.le_trans (pks_len _ _) (Nat.le_trans (plk_len q 20) (by omega))
  have hzo : ∀ p ∈ pks ps (plc q), p.zones.length ≤ 1000 := fun p hp => Nat.le_trans (ok.pok p (pks_mem hp)).z.2.1 (by omega)
  have hsl := law_single_v ts (pks ps (plc q)) (by have := ok.t8; omega) hlen hzo
  have hgt : gTuple [lotD q] = some (.d (.tuple ((plc q).map natD))) := rfl
  have hky := ky_of q
  have hsz : ((L.take t).map fun q => optD (sg ts ps q)).length < sizeLine := by
    rw [List.length_map, List.length_take]
    refine small_lt ?_
    omega
  have hsz2 : Ks.length < sizeLine := by rw [sizeLine_eq]; omega
  have htk : (L.take (t + 1)).map (fun q => optD (sg ts ps q)) = (L.take t).map (fun q => optD (sg ts ps q)) ++ [optD (sg ts ps q)] := by
    rw [take_at ht, List.map_append]
    rfl
  have fin : ∀ (Ks : List Nat) (s6 s7 : Sl), Ks.length ≤ N + (t + 1) → LcJ ts ps least L N (t + 1) [.d (.list (ts.map Tk.d)), .d (.list (ps.map Pg.d)), .d least, .k true (Ks.map (kvD ts ps)), .d (lotsD L), .l ((L.take t).map (fun q => optD (sg ts ps q)) ++ [optD (sg ts ps q)]), s6, s7] := fun Ks s6 s7 h => ⟨Ks, s6, s7, h, by rw [← htk]; rfl⟩
  have hc : ∀ s2 s3 s4 s5 s7 : Sl, eComp [7] (iSeq (eVar 6)) (gdName 7) tAll (eBin gIx (eVar 1) (eVar 7)) [.d (.list (ts.map Tk.d)), .d (.list (ps.map Pg.d)), s2, s3, s4, s5, .d (lotD q), s7] = some (.l ((pks ps (plc q)).map Pg.d), [.d (.list (ts.map Tk.d)), .d (.list (ps.map Pg.d)), s2, s3, s4, s5, .d (lotD q), .u]) := fun s2 s3 s4 s5 s7 => by
    refine W_eq.mp (W_compA natD (pgD ps) (plc q) (ρ' := [.d (.list (ts.map Tk.d)), .d (.list (ps.map Pg.d)), s2, s3, s4, s5, .d (lotD q), s7]) (by simp [lotD]) (fun j hj => ?_) (Nat.le_trans (plk_len q 20) (by omega)) ?_)
    · have hj' := hlt j hj
      have hi : (ps.map Pg.d)[j]? = some (ps[j].d) := by simp [hj']
      have hi2 : gIx (.list (ps.map Pg.d)) (.int (j : Int)) = some (.d (ps[j].d)) := ix_seq .l hi
      simp [natD, hi2, pgD, hj']
    · rw [pgD_map ps _ hlt]
      rfl
  obtain ⟨PR, hPR⟩ : ∃ PR, PR = (L.take t).map (fun q => optD (sg ts ps q)) := ⟨_, rfl⟩
  rw [← hPR] at hsz fin
  have hE : ∀ s6 s7, LcE ts ps least Ks L t s6 s7 = [.d (.list (ts.map Tk.d)), .d (.list (ps.map Pg.d)), .d least, .k true (Ks.map (kvD ts ps)), .d (lotsD L), .l PR, s6, s7] := fun s6 s7 => by rw [hPR]; rfl
  rw [hE]
  simp [l__law_cheapest_2]
  refine W_seq ?_
  have hkv : ∀ xs, DL.kvsOf (.k true xs) = some xs := fun _ => rfl
  have hput := look_put ts ps q Ks
  rw [List.map_append] at hput
  have hsl2 : m__law_single [.d (.list (ts.map Tk.d)), .d (.list ((pks ps (plc q)).map Pg.d))] = some (.d (optD (sg ts ps q)), [.u, .u]) := hsl
  have fin2 := fin (Ks ++ [q])
  rw [List.map_append] at fin2
  have hk1 : [q].map (kvD ts ps) = [(keyT (ky q), optD (sg ts ps q))] := rfl
  rw [hk1] at fin2 hput
  rcases look_known ts ps q Ks with hk | hk
  · simp [tDNot, hgt, hky, hk, hkv]
    simp [q__law_cheapest_1]
    refine W_seq ?_
    simp [DL.sDPut, hc, hsl2, hgt, hky, hk, hkv, hsz2]
    refine SeqK.nx ?_
    simp
    refine W_last ?_
    simp [eDGet, hgt, hky, hput, hkv, hsz]
    exact fin2 _ _ (by simp; omega)
  · simp [tDNot, hgt, hky, hk, hkv]
    refine W_last ?_
    simp [eDGet, hgt, hky, hk, hkv, hsz]
    exact fin Ks _ _ (by omega)
end K9
end PK90ZC
section PK90ZD
set_option maxHeartbeats 2000000
open PySem PySem.Spec PyProof.Rows L2 DL
namespace K9
theorem sumO_cases : ∀ l : List (Option Int), (∃ ns : List Int, l = ns.map some ∧ sumO l = some ns.sum) ∨ (none ∈ l ∧ sumO l = none)
  | [] => .inl ⟨[], rfl, rfl⟩
  | none :: r => .inr ⟨by simp, rfl⟩
  | some x :: r => by
    rcases sumO_cases r with ⟨ns, h1, h2⟩ | ⟨h1, h2⟩
    · exact .inl ⟨x :: ns, by rw [h1]; rfl, by simp [sumO, h2]⟩
    · exact .inr ⟨List.mem_cons_of_mem _ h1, by simp [sumO, h2]⟩
theorem optD_can (o : Option Int) : (optD o).canLay0 = true := by cases o <;> rfl
theorem in_opts (l : List (Option Int)) : gIn true .none (.list (l.map optD)) = some (.d (.bool (sumO l).isSome)) := by
  unfold gIn
  simp only [x_itemsL, Option.bind_some]
  rw [if_pos (by
    rw [canAll fun x hx => by
      obtain ⟨o, _, rfl⟩ := List.mem_map.mp hx
      exact optD_can o]
    rfl)]
  congr 3
  rcases sumO_cases l with ⟨ns, h1, h2⟩ | ⟨h1, h2⟩
  · rw [h2]
    have : ((l.map optD).any fun y => PyData.eqv y .none) = false := by
      rw [List.any_eq_false]
      intro y hy
      obtain ⟨o, ho, rfl⟩ := List.mem_map.mp hy
      rw [h1] at ho
      obtain ⟨x, _, rfl⟩ := List.mem_map.mp ho
      simp [optD, PyData.eqv]
    rw [this]; rfl
  · rw [h2]
    have : ((l.map optD).any fun y => PyData.eqv y .none) = true := by
      rw [List.any_eq_true]
      exact ⟨.none, List.mem_map.mpr ⟨none, h1, rfl⟩, rfl⟩
    rw [this]; rfl
theorem sum_opts {l : List (Option Int)} {x : Int} (h : sumO l = some x) : gSum [.list (l.map optD)] = some (.d (.int x)) := by
  rcases sumO_cases l with ⟨ns, h1, h2⟩ | ⟨h1, h2⟩
  · rw [h2] at h
    cases h
    subst h1
    rw [List.map_map]
    exact x_sum ns
  · rw [h2] at h
    cases h
theorem LeastL.none_step {f : Nat → Option Int} {Ls : List (List Nat)} {o : Option Int} {L : List Nat} (h : LeastL f Ls o) (hL : sumO (L.map f) = none) : LeastL f (Ls ++ [L]) o := by
  refine ⟨fun x hx => ?_, fun L' hL' y hy => ?_⟩
  · obtain ⟨L', h1, h2⟩ := h.get x hx
    exact ⟨L', List.mem_append_left _ h1, h2⟩
  · rcases List.mem_append.mp hL' with h1 | h1
    · exact h.low L' h1 y hy
    · rw [List.mem_singleton.mp h1, hL] at hy
      cases hy
theorem LeastL.some_step {f : Nat → Option Int} {Ls : List (List Nat)} {o o' : Option Int} {L : List Nat} {s : Int} (h : LeastL f Ls o) (hL : sumO (L.map f) = some s) (hn : o = none → o' = some s) (hs : ∀ x, o = some x → o' = some (if s < x then s else x)) : LeastL f (Ls ++ [L]) o' := by
  refine ⟨fun x hx => ?_, fun L' hL' y hy => ?_⟩
  · cases o with
    | none =>
      rw [hn rfl] at hx
      cases hx
      exact ⟨L, by simp, hL⟩
    | some z =>
      rw [hs z rfl] at hx
      cases hx
      split
      · exact ⟨L, by simp, hL⟩
      · obtain ⟨L', h1, h2⟩ := h.get z rfl
        exact ⟨L', List.mem_append_left _ h1, h2⟩
  · have key : ∃ x, o' = some x ∧ x ≤ s ∧ ∀ z, o = some z → x ≤ z := by
      cases o with
      | none => exact ⟨s, hn rfl, by omega, fun z hz => by cases hz⟩
      | some z =>
        refine ⟨_, hs z rfl, ?_, fun z' hz => ?_⟩
        · split <;> omega
        · cases hz
          split <;> omega
    obtain ⟨x, k1, k2, k3⟩ := key
    rcases List.mem_append.mp hL' with h1 | h1
    · obtain ⟨z, h2, h3⟩ := h.low L' h1 y hy
      exact ⟨x, k1, by have := k3 z h2; omega⟩
    · rw [List.mem_singleton.mp h1, hL] at hy
      cases hy
      exact ⟨x, k1, k2⟩
def LcO (ts : List Tk) (ps : List Pg) (i : Nat) (ρ : Rho) : Prop := ∃ (o : Option Int) (Ks : List Nat) (s4 s5 s6 s7 : Sl), LeastL (sg ts ps) ((pts ps.length).take i) o ∧ Ks.length ≤ 6 * i ∧ ρ = [.d (.list (ts.map Tk.d)), .d (.list (ps.map Pg.d)), .d (optD o), .k true (Ks.map (kvD ts ps)), s4, s5, s6, s7]
theorem lco_turn {ts : List Tk} {ps : List Pg} (ok : Ok ts ps) (hp : ps.length ≤ 6) (i : Nat) (L : List Nat) (hi : (pts ps.length)[i]? = some L) (hI : i < 120000) (ρ : Rho) (h : LcO ts ps i ρ) : W (gdName 4 (.d (lotsD L)) ρ) fun ρ1 => W (l__law_cheapest_4 ρ1) fun
      | .nx ρ2 => LcO ts ps (i + 1) ρ2
      | _ => False := by
  obtain ⟨o, Ks, s4, s5, s6, s7, hLL, hK, rfl⟩ := h
  have hmem := List.mem_of_getElem? hi
  have hlen := pts_len _ _ hmem
  have hmask := pts_mask hmem
  have htake := take_at hi
  have key := for_nx (gd := gdName 6) (g := l__law_cheapest_2) lotD (LcJ ts ps (optD o) L (6 * i)) (xs := L) (ρ := LcE ts ps (optD o) Ks L 0 s6 s7)
    ⟨Ks, s6, s7, by omega, rfl⟩ fun t q hq ρ h => lcj_turn ok (by omega) (by omega) (fun q hq => (hmask q hq).2) t q hq ρ h
  have hE : ∀ Ks s6 s7, LcE ts ps (optD o) Ks L L.length s6 s7 = [.d (.list (ts.map Tk.d)), .d (.list (ps.map Pg.d)), .d (optD o), .k true (Ks.map (kvD ts ps)), .d (lotsD L), .l ((L.map (sg ts ps)).map optD), s6, s7] := fun Ks s6 s7 => by
    unfold LcE
    rw [List.take_length, List.map_map]
    rfl
  have hE0 : LcE ts ps (optD o) Ks L 0 s6 s7 = [.d (.list (ts.map Tk.d)), .d (.list (ps.map Pg.d)), .d (optD o), .k true (Ks.map (kvD ts ps)), .d (lotsD L), .l [], s6, s7] := rfl
  rw [hE0] at key
  have hlots : itemsOf (lotsD L) = some (L.map lotD) := rfl
  simp [l__law_cheapest_4]
  refine W_seq ?_
  simp
  refine SeqK.nx (W_seq ?_)
  simp [sFor, hlots]
  refine key.mono fun out ⟨ρ', e1, Ks', t6, t7, hK', e2⟩ => ?_
  subst e1 e2
  rw [hE]
  refine SeqK.nx (W_last ?_)
  have hin := in_opts (L.map (sg ts ps))
  have hsm : ∀ s, sumO (L.map (sg ts ps)) = some s → gSum [.list ((L.map (sg ts ps)).map optD)] = some (.d (.int s)) := fun s h => sum_opts h
  generalize (L.map (sg ts ps)).map optD = PR at hin hsm ⊢
  have fin : ∀ o', LeastL (sg ts ps) ((pts ps.length).take (i + 1)) o' → ∀ s4 s5 s6 s7, LcO ts ps (i + 1) [.d (.list (ts.map Tk.d)), .d (.list (ps.map Pg.d)), .d (optD o'), .k true (Ks'.map (kvD ts ps)), s4, s5, s6, s7] := fun o' ho s4 s5 s6 s7 => ⟨o', Ks', s4, s5, s6, s7, ho, by omega, rfl⟩
  rw [htake] at fin
  cases hs : sumO (L.map (sg ts ps)) with
  | none =>
    rw [hs] at hin
    have := fin o (hLL.none_step hs)
    simp [q__law_cheapest_3, hin]
    exact this _ _ _ _
  | some s =>
    rw [hs] at hin
    have hsum := hsm s hs
    cases o with
    | none =>
      have := fin (some s) (hLL.some_step hs (fun _ => rfl) (fun x hx => by cases hx))
      simp [q__law_cheapest_3, hin, hsum, optD]
      refine W_last ?_
      simp [hsum]
      exact this _ _ _ _
    | some x =>
      by_cases hx : s < x
      · have := fin (some s) (hLL.some_step hs (fun h => by cases h) (fun z hz => by cases hz; rw [if_pos hx]))
        simp [q__law_cheapest_3, hin, hsum, optD, hx]
        refine W_last ?_
        simp [hsum]
        exact this _ _ _ _
      · have := fin (some x) (hLL.some_step hs (fun h => by cases h) (fun z hz => by cases hz; rw [if_neg hx]))
        simp [q__law_cheapest_3, hin, hsum, optD, hx]
        exact this _ _ _ _
theorem law_cheapest_v {ts : List Tk} {ps : List Pg} (ok : Ok ts ps) (hp : ps.length ≤ 6) : ∃ o, LeastL (sg ts ps) (pts ps.length) o ∧ m__law_cheapest [.d (.list (ts.map Tk.d)), .d (.list (ps.map Pg.d))] = some (.d (optD o), [.u, .u]) := by
  suffices h : W (m__law_cheapest [.d (.list (ts.map Tk.d)), .d (.list (ps.map Pg.d))]) fun x => ∃ o, LeastL (sg ts ps) (pts ps.length) o ∧ x = (.d (optD o), [.u, .u]) by
    obtain ⟨x, e, o, h1, rfl⟩ := h
    exact ⟨o, h1, e⟩
  have hpv := partings_v ps.length hp
  have hpv2 : m__law_partings [.d (.int (ps.length : Int))] = some (.l ((pts ps.length).map lotsD), [.u]) := hpv
  have hcount := pts_count ps.length hp
  have h7 : 7 ^ ps.length ≤ 7 ^ 6 := Nat.pow_le_pow_right (by omega) hp
  have h76 : 7 ^ 6 = 117649 := by decide
  have key := for_nx (gd := gdName 4) (g := l__law_cheapest_4) lotsD (LcO ts ps) (xs := pts ps.length) (ρ := [.d (.list (ts.map Tk.d)), .d (.list (ps.map Pg.d)), .d .none, .k true [], .u, .u, .u, .u])
    ⟨none, [], .u, .u, .u, .u, ⟨fun x hx => (by cases hx), fun L hL => (by cases hL)⟩, by simp, rfl⟩ fun i L hL ρ h => lco_turn ok hp i L hL (by
      have := (List.getElem?_eq_some_iff.mp hL).1
      omega) ρ h
  refine W_body (W_seq ?_)
  simp
  refine SeqK.nx (W_seq ?_)
  simp [sFor, hpv2]
  refine key.mono fun out ⟨ρ', e1, o, Ks, s4, s5, s6, s7, h1, h2, h3⟩ => ?_
  subst e1 h3
  rw [List.take_length] at h1
  refine SeqK.nx (W_last ?_)
  simp
  exact BodyK.ret (by simp) ⟨o, h1, by simp [keepP]⟩
end K9
end PK90ZD
section PK90ZE
set_option maxHeartbeats 2000000
open PySem PySem.Spec PyProof.Rows L2 DL
namespace K9
/-! what a cover is, of any data -/
def toI : PyData → Int
  | .int i => i
  | _ => 0
def plsB (m : Nat) (xs : List PyData) : Bool := xs.all fun d => btw d 0 ((m : Int) - 1)
def lotB (m : Nat) (xs : List PyData) : Bool := !xs.isEmpty && (plsB m xs && riseB (xs.map toI))
def pksD (ps : List Pg) (xs : List PyData) : List Pg := pks ps (xs.map fun d => (toI d).toNat)
def buyB (ts : List Tk) (ps : List Pg) : PyData → Bool
  | .tuple [k, .tuple xs] => btw k 0 ((ts.length : Int) - 1) && (lotB ps.length xs && covAt ts (pksD ps xs) (toI k).toNat)
  | _ => false
def plsOf : PyData → List Int
  | .tuple [_, .tuple xs] => xs.map toI
  | _ => []
def covrB (ts : List Tk) (ps : List Pg) (v : PyData) : Bool := match itemsOf v with
  | some ds => ds.all (buyB ts ps) && decide (isort (ds.flatMap plsOf) = (List.range ps.length).map fun n : Nat => (n : Int))
  | none => false
/-- what is asked of a value: few parts, short lots -/
structure ElOk (d : PyData) : Prop where
  el : ∀ k xs, d = .tuple [k, .tuple xs] → xs.length ≤ 60 ∧ SeqAt.shaped (.tuple xs) = true
def ValOk (v : PyData) : Prop := ∀ ds, itemsOf v = some ds → ds.length ≤ 2000 ∧ ∀ d ∈ ds, ElOk d
theorem btw_int {d : PyData} {m : Nat} (h : btw d 0 ((m : Int) - 1) = true) : ∃ j : Nat, d = natD j ∧ j < m := by
  cases d with
  | int i =>
    simp only [btw, Bool.and_eq_true, decide_eq_true_eq] at h
    exact ⟨i.toNat, by unfold natD; congr 1; omega, by omega⟩
  | _ => simp [btw] at h
theorem pls_nat {m : Nat} : ∀ {xs : List PyData}, plsB m xs = true → ∃ js : List Nat, xs = js.map natD ∧ ∀ j ∈ js, j < m
  | [], _ => ⟨[], rfl, by simp⟩
  | x :: xs, h => by
    simp only [plsB, List.all_cons, Bool.and_eq_true] at h
    obtain ⟨j, rfl, h1⟩ := btw_int h.1
    obtain ⟨js, rfl, h2⟩ := pls_nat (xs := xs) h.2
    exact ⟨j :: js, rfl, fun i hi => by
      rcases List.mem_cons.mp hi with rfl | hi
      · exact h1
      · exact h2 i hi⟩
theorem toI_nat (js : List Nat) : (js.map natD).map toI = js.map fun n : Nat => (n : Int) := by
  rw [List.map_map]
  rfl
theorem pksD_nat (ps : List Pg) (js : List Nat) : pksD ps (js.map natD) = pks ps js := by
  unfold pksD
  rw [List.map_map]
  have : ((fun d => (toI d).toNat) ∘ natD) = fun j : Nat => j := by
    funext j
    simp [natD, toI]
  rw [this, List.map_id']
/-! the program's own look -/
theorem is_lot_v (v : PyData) (m : Nat) (hv : ∀ xs, v = .tuple xs → xs.length ≤ 1000) : m_is_lot [.d v, .d (.int (m : Int))] = some (.d (.bool (match v with
    | .tuple xs => lotB m xs
    | _ => false)), [.u, .u]) := by
  refine W_eq.mp (W_body (W_seq ?_))
  by_cases ht : isTupD v = true
  · obtain ⟨xs, rfl⟩ := isTup_ex ht
    have hl := hv xs rfl
    cases xs with
    | nil =>
      simp [q_is_lot_2]
      refine W_last ?_
      simp
      exact SeqK.ret (BodyK.ret (by simp) (by simp [keepP, lotB]))
    | cons x xs =>
      have hne : ¬ ((xs.length : Int) + 1 = 0) := by omega
      simp [q_is_lot_2, hne]
      refine SeqK.nx (W_last ?_)
      simp only [q_is_lot_1, x_sRet, x_eAnd, x_eApp, x_aCons, W_bind, W_map]
      refine W_compA id (fun d => .bool (btw d 0 ((m : Int) - 1))) (x :: xs) (ρ' := [.d (.tuple (x :: xs)), .d (.int (m : Int)), .u]) (by simp) (fun d hd => by simp [is_between_v]) (by omega) ?_
      have e : gAll [.list ((x :: xs).map fun d => PyData.bool (btw d 0 ((m : Int) - 1)))] = some (.d (.bool (plsB m (x :: xs)))) := by rw [all_M]; rfl
      simp only [x_data_l, x_aNil, x_oms, W_some, e]
      cases hp : plsB m (x :: xs) with
      | false =>
        simp
        exact BodyK.ret (by simp) (by simp [keepP, lotB, hp])
      | true =>
        obtain ⟨js, hj, _⟩ := pls_nat hp
        have hr := are_rising_v (js.map fun n : Nat => (n : Int)) (by
          have := congrArg List.length hj
          simp at this ⊢
          simp at hl
          omega)
        rw [← toI_nat, ← hj] at hr
        have hx : ((x :: xs).map toI).map PyData.int = x :: xs := by rw [hj, toI_nat, List.map_map]; rfl
        rw [hx] at hr
        simp [hr]
        exact BodyK.ret (by simp) (by simp [keepP, lotB, hp])
  · have hf : isTupD v = false := by simpa using ht
    simp [q_is_lot_2, hf]
    refine W_last ?_
    simp
    refine SeqK.ret (BodyK.ret (by simp) ?_)
    cases v <;> simp [isTupD] at hf <;> simp [keepP]
theorem covAt_some {ts : List Tk} {qs : List Pg} {k : Nat} {t : Tk} (h : ts[k]? = some t) : covAt ts qs k = covB t qs := by
  unfold covAt
  rw [h]
/-- places' passages -/
theorem ix_pg {ps : List Pg} {u : PyData} (hu : SeqOf (ps.map Pg.d) u) {j : Nat} (h : j < ps.length) : gIx u (natD j) = some (.d (pgD ps j)) := by
  refine ix_seq hu ?_
  simp [pgD, h]
theorem is_bought_v {ts : List Tk} {ps : List Pg} (ok : Ok ts ps) {v u : PyData} (hv : SeqOf (ts.map Tk.d) v) (hu : SeqOf (ps.map Pg.d) u) (d : PyData) (hd : ElOk d) : m_is_bought [.d v, .d u, .d d] = some (.d (.bool (buyB ts ps d)), [.u, .u, .u]) := by
  have hlv := len_seq hv
  have hlu := len_seq hu
  rw [List.length_map] at hlv hlu
  refine W_eq.mp (W_body (W_seq ?_))
  have out : ∀ {b : Bool} {ρ : Rho}, 3 ≤ ρ.length → (ρ.take 3).map keepP = [.u, .u, .u] → buyB ts ps d = b → BodyK 3 (fun x => x = (.d (.bool (buyB ts ps d)), [.u, .u, .u])) (.ret (.d (.bool b)) ρ) := fun h1 h2 h => BodyK.ret h1 (by rw [h, h2])
  by_cases ht : isTupD d = true
  · obtain ⟨ds, rfl⟩ := isTup_ex ht
    match ds, hd with
    | [], _ =>
      simp [q_is_bought_3]
      refine W_last ?_
      simp
      exact SeqK.ret (out (by simp) (by simp [keepP]) rfl)
    | [a], _ =>
      simp [q_is_bought_3]
      refine W_last ?_
      simp
      exact SeqK.ret (out (by simp) (by simp [keepP]) rfl)
    | a :: b :: c :: r, _ =>
      have hne : ¬ ((r.length : Int) + 1 + 1 + 1 = 2) := by omega
      simp [q_is_bought_3, hne]
      refine W_last ?_
      simp
      exact SeqK.ret (out (by simp) (by simp [keepP]) (by cases b <;> rfl))
    | [k, l], hd =>
      cases hk : btw k 0 ((ts.length : Int) - 1) with
      | false =>
        simp [q_is_bought_3, hlv, is_between_v, hk]
        refine W_last ?_
        simp
        refine SeqK.ret (out (by simp) (by simp [keepP]) ?_)
        cases l <;> simp [buyB, hk]
      | true =>
        obtain ⟨i, rfl, hi⟩ := btw_int hk
        simp [q_is_bought_3, hlv, is_between_v, hk]
        refine SeqK.nx (W_seq ?_)
        have hlot := is_lot_v l ps.length fun xs e => by
          have := (hd.el _ xs (by rw [e])).1
          omega
        cases l with
        | tuple xs =>
          simp only at hlot
          have hxl := (hd.el _ xs rfl).1
          cases hb : lotB ps.length xs with
          | false =>
            rw [hb] at hlot
            simp [q_is_bought_2, hlu, hlot]
            refine W_last ?_
            simp
            exact SeqK.ret (out (by simp) (by simp [keepP]) (by simp [buyB, hb]))
          | true =>
            rw [hb] at hlot
            simp [q_is_bought_2, hlu, hlot]
            refine SeqK.nx (W_last ?_)
            have hb' := hb
            simp only [lotB, Bool.and_eq_true] at hb'
            obtain ⟨js, rfl, hj⟩ := pls_nat hb'.2.1
            have hne : js ≠ [] := fun z => by subst z; simp at hb'
            have ht : ts[i]? = some ts[i] := by simp [hi]
            have htd : gIx v (natD i) = some (.d ts[i].d) := ix_seq hv (by simp [hi])
            have hzo : ∀ p ∈ pks ps js, p.zones.length ≤ 10000 := fun p hp => Nat.le_trans (ok.pok p (pks_mem hp)).z.2.1 (by omega)
            have hpl : (pks ps js).length ≤ 1000 := Nat.le_trans (pks_len _ _) (by simp at hxl; omega)
            have hdc := does_cover_v ts[i] (pks ps js) (pks_ne hne hj) hpl hzo (by have := (ok.tok ts[i] (by simp)).n; omega)
            simp [q_is_bought_1, htd]
            refine W_compA natD (pgD ps) js (ρ' := [.d v, .d u, .d (.tuple [natD i, .tuple (js.map natD)]), .u]) (by simp) (fun j hj2 => by simp [ix_pg hu (hj j hj2)]) (by simp at hxl; omega) ?_
            rw [pgD_map ps js hj]
            simp [hdc]
            refine out (by simp) (by simp [keepP]) ?_
            have : (toI (natD i)).toNat = i := by simp [natD, toI]
            simp [buyB, hk, hb, pksD_nat, this, covAt_some ht]
        | _ =>
          simp [q_is_bought_2, hlu, hlot]
          refine W_last ?_
          simp
          exact SeqK.ret (out (by simp) (by simp [keepP]) rfl)
  · have hf : isTupD d = false := by simpa using ht
    simp [q_is_bought_3, hf]
    refine W_last ?_
    simp
    refine SeqK.ret (out (by simp) (by simp [keepP]) ?_)
    cases d <;> simp [isTupD] at hf <;> rfl
end K9
end PK90ZE
section PK90ZF
set_option maxHeartbeats 2000000
open PySem PySem.Spec PyProof.Rows L2 DL
namespace K9
theorem buy_pls {ts : List Tk} {ps : List Pg} {d : PyData} (h : buyB ts ps d = true) : ∃ (i : Nat) (js : List Nat), d = .tuple [natD i, .tuple (js.map natD)] ∧ i < ts.length ∧ (∀ j ∈ js, j < ps.length) ∧ plsOf d = js.map fun n : Nat => (n : Int) := by
  unfold buyB at h
  split at h
  · rename_i k xs
    simp only [Bool.and_eq_true, lotB] at h
    obtain ⟨i, rfl, hi⟩ := btw_int h.1
    obtain ⟨js, rfl, hj⟩ := pls_nat h.2.1.2.1
    exact ⟨i, js, rfl, hi, hj, toI_nat js⟩
  · cases h
theorem flat_take {α β : Type} (f : α → List β) {xs : List α} {i : Nat} {x : α} (h : xs[i]? = some x) : (xs.take (i + 1)).flatMap f = (xs.take i).flatMap f ++ f x := by
  rw [take_at h, List.flatMap_append]
  simp
theorem flat_len_le {ds : List PyData} (h : ∀ d ∈ ds, (plsOf d).length ≤ 60) : (ds.flatMap plsOf).length ≤ ds.length * 60 := by
  induction ds with
  | nil => simp
  | cons d ds ih =>
    have h1 := h d List.mem_cons_self
    have h2 := ih fun x hx => h x (List.mem_cons_of_mem _ hx)
    simp only [List.flatMap_cons, List.length_append, List.length_cons, Nat.add_mul]
    omega
theorem pls_len {d : PyData} (h : ElOk d) : (plsOf d).length ≤ 60 := by
  unfold plsOf
  split
  · rename_i k xs
    have := (h.el k xs rfl).1
    simpa using this
  · simp
theorem rng_list (n : Nat) (h : n ≤ 1000) : ∀ ρ : Rho, ∀ f : EM, f ρ = some (.d (.int (n : Int)), ρ) → eListR1 f ρ = some (.l (((List.range n).map fun k : Nat => (k : Int)).map .int), ρ) := fun ρ f e => by
  have hok : rgOkB 0 (n : Int) = true := by
    unfold rgOkB
    have h1 : ((n : Int) - 0).toNat ≤ 2 ^ 24 := by
      have : (2 : Nat) ^ 24 = 16777216 := by decide
      omega
    have h2 : (n : Int) < 2 ^ 62 := by
      have : (2 : Int) ^ 62 = 4611686018427387904 := by decide
      omega
    have h3 : -(2 ^ 62) ≤ (n : Int) := by
      have : (2 : Int) ^ 62 = 4611686018427387904 := by decide
      omega
    simp only [h1, h2, h3, decide_true, Bool.and_true]
    decide
  simp [e, hok]
  apply List.ext_getElem?
  intro i
  by_cases hi : i < n
  · simp [rngD, hi]
  · simp [rngD, hi]
theorem sum_eq (ns : List Int) (n : Nat) : gEq (.list ((isort ns).map .int)) (.list (((List.range n).map fun k : Nat => (k : Int)).map .int)) = some (.d (.bool (decide (isort ns = (List.range n).map fun n : Nat => (n : Int))))) := eq_ints _ _
theorem covers_v {ts : List Tk} {ps : List Pg} (ok : Ok ts ps) {v u : PyData} (hv : SeqOf (ts.map Tk.d) v) (hu : SeqOf (ps.map Pg.d) u) (val : PyData) (hval : ValOk val) : m_covers [.d v, .d u, .d val] = some (.d (.bool (covrB ts ps val)), [.u, .u, .u]) := by
  have hlu := len_seq hu
  rw [List.length_map] at hlu
  refine W_eq.mp (W_body (W_seq ?_))
  cases hit : itemsOf val with
  | none =>
    have h1 : isLstD val = false ∧ isTupD val = false := by cases val <;> simp [itemsOf] at hit <;> exact ⟨rfl, rfl⟩
    simp [q_covers_2, h1.1, h1.2]
    refine W_last ?_
    simp
    exact SeqK.ret (BodyK.ret (by simp) (by simp [keepP, covrB, hit]))
  | some ds =>
    obtain ⟨hdl, hel⟩ := hval ds hit
    have h1 : (isLstD val || isTupD val) = true := by cases val <;> simp [itemsOf] at hit <;> rfl
    simp only [q_covers_2, x_sIf, x_tOr2, x_tNot2, x_tVal, x_eIsi2, x_eVar, x_eApp, x_aCons, W_bind, W_map, List.cons_append, List.nil_append, List.replicate, List.getElem?_cons_succ, List.getElem?_cons_zero, x_data_d, x_isi_lst, x_isi_tup, x_obs, x_oms, W_some, x_boolOf, h1, Bool.not_true, Bool.false_eq_true, if_false]
    refine W_compA id (fun d => .bool (buyB ts ps d)) ds (ρ' := [.d v, .d u, .d val, .u, .u, .u, .u]) (by simp [hit]) (fun d hd => by simp [is_bought_v ok hv hu d (hel d hd)]) (by omega) ?_
    have e : gAll [.list (ds.map fun d => PyData.bool (buyB ts ps d))] = some (.d (.bool (ds.all (buyB ts ps)))) := all_M _ _
    cases hb : ds.all (buyB ts ps) with
    | false =>
      simp [e, hb]
      refine W_last ?_
      simp
      exact SeqK.ret (BodyK.ret (by simp) (by simp [keepP, covrB, hit, hb]))
    | true =>
      simp [e, hb]
      refine SeqK.nx (W_seq ?_)
      simp
      refine SeqK.nx (W_seq ?_)
      simp [sFor, hit]
      have hall := List.all_eq_true.mp hb
      have key := for_nx (gd := gdTup 2 (gdCons (gdName 4) (gdCons (gdName 5) gdNil))) (g := l_covers_1) id (fun i ρ => ∃ s4 s5, ρ = [.d v, .d u, .d val, .l (((ds.take i).flatMap plsOf).map .int), s4, s5, .u]) (xs := ds) (ρ := [.d v, .d u, .d val, .l [], .u, .u, .u]) ⟨.u, .u, by simp⟩ fun i d hi ρ h => by
        obtain ⟨s4, s5, rfl⟩ := h
        have hm := List.mem_of_getElem? hi
        obtain ⟨k, js, rfl, hk, hj, hpl⟩ := buy_pls (hall d hm)
        have hft := flat_take plsOf hi
        rw [hpl] at hft
        have hl : ((ds.take i).flatMap plsOf).length ≤ (ds.take i).length * 60 := flat_len_le fun d hd => pls_len (hel d (List.mem_of_mem_take hd))
        have hl2 : (ds.take i).length ≤ ds.length := by rw [List.length_take]; omega
        have hl3 := (hel _ hm).el _ _ rfl
        have hsz : ((ds.take i).flatMap plsOf).length + js.length ≤ sizeLine := by
          have := hl3.1
          simp at this
          rw [sizeLine_eq]; omega
        simp only [id]
        simp [l_covers_1]
        refine W_last ?_
        have hz2 : (List.map PyData.int ((ds.take i).flatMap plsOf)).length + (js.map natD).length ≤ sizeLine := by simpa using hsz
        simp only [x_sExpr, x_eMeth, x_aCons, x_eVar, x_aNil, x_obs, x_oms, W_map, W_bind, List.getElem?_cons_succ, List.getElem?_cons_zero, x_listOf_l, W_some, x_data_d, opExtend, if_pos hz2]
        have hfin : List.map PyData.int (((ds.take (i + 1)).flatMap plsOf)) = List.map PyData.int ((ds.take i).flatMap plsOf) ++ js.map natD := by
          rw [hft, List.map_append, List.map_map]
          rfl
        rw [hfin]
        exact ⟨_, _, rfl⟩
      rw [List.map_id] at key
      refine key.mono fun o ⟨ρ', e1, s4, s5, e2⟩ => ?_
      subst e1 e2
      refine SeqK.nx (W_last ?_)
      rw [List.take_length]
      have hrl := rng_list ps.length (by have := ok.p10; omega) [.d v, .d u, .d val, .d (.list ((ds.flatMap plsOf).map .int)), s4, s5, .u] (eApp gLen (aCons (eVar 1) aNil)) (by simp [hlu])
      simp only [x_sRet, x_eBin, x_eApp, x_aCons, x_eVar, x_aNil, x_obs, x_oms, W_map, W_bind, List.getElem?_cons_succ, List.getElem?_cons_zero, W_some, x_data_d, x_data_l, sorted_L, List.set_cons_succ, List.set_cons_zero, hrl, sum_eq]
      exact BodyK.ret (by simp) (by simp [keepP, covrB, hit, hb])
theorem is_cover_v {ts : List Tk} {ps : List Pg} (ok : Ok ts ps) {v u : PyData} (hv : SeqOf (ts.map Tk.d) v) (hu : SeqOf (ps.map Pg.d) u) (val : PyData) (hval : ValOk val) : m_is_cover [.d v, .d u, .d val] = some (.d (.bool (covrB ts ps val)), [.u, .u, .u]) := by
  have h1 := want_tickets_ok ts ok.tok ok.t1 ok.t8 hv
  have h2 := want_passages_ok ps ok.pok ok.p10 hu
  have h3 := covers_v ok hv hu val hval
  refine W_eq.mp (W_body (W_seq ?_))
  simp [h1]
  refine SeqK.nx (W_last ?_)
  simp [h2, h3]
  exact BodyK.ret (by simp) (by simp [keepP])
end K9
end PK90ZF
section PK90ZG
set_option maxHeartbeats 2000000
open PySem PySem.Spec PyProof.Rows L2 DL
namespace K9
/-! the law's own look at any value -/
theorem is_place_v (d : PyData) (m : Nat) : m__law_is_place [.d d, .d (.int (m : Int))] = some (.d (.bool (btw d 0 ((m : Int) - 1))), [.u, .u]) := by
  refine W_eq.mp (W_body (W_last ?_))
  have out : ∀ {b : Bool}, btw d 0 ((m : Int) - 1) = b → BodyK 2 (fun x => x = (.d (.bool (btw d 0 ((m : Int) - 1))), [.u, .u])) (.ret (.d (.bool b)) [.d d, .d (.int (m : Int))]) := fun h => BodyK.ret (by simp) (by simp [keepP, h])
  cases d with
  | int i =>
    by_cases h0 : 0 ≤ i
    · by_cases h1 : i < (m : Int)
      · simp [h0, h1]
        exact out (by simp [btw, h0]; omega)
      · simp [h0, h1]
        exact out (by simp [btw, h0]; omega)
    · simp [h0]
      exact out (by simp [btw, h0])
  | bool b => simp [isIntD, isBoolD]; exact out rfl
  | none => simp [isIntD, isBoolD]; exact out rfl
  | str _ => simp [isIntD, isBoolD]; exact out rfl
  | list _ => simp [isIntD, isBoolD]; exact out rfl
  | tuple _ => simp [isIntD, isBoolD]; exact out rfl
  | dict _ => simp [isIntD, isBoolD]; exact out rfl
theorem usort_iff (ns : List Int) : ns = usort ns ↔ riseB ns = true := by
  rw [riseB_iff]
  constructor
  · intro h
    rw [h]
    exact usort_sorted ns
  · intro h
    exact usort_only h fun k => Iff.rfl
theorem eq_nilT {xs : List PyData} (h : SeqAt.shaped (.tuple xs) = true) : gEq (.tuple xs) (.tuple []) = some (.d (.bool xs.isEmpty)) := by
  unfold gEq
  rw [if_pos (by rw [h]; rfl)]
  cases xs <;> simp [PyData.eqv, PyData.eqvAll]
def LiS (v u val : PyData) (ns : List Int) (s4 s5 : Sl) : Rho := [.d v, .d u, .d val, .l (ns.map .int), s4, s5]
theorem li_turn {ts : List Tk} {ps : List Pg} (ok : Ok ts ps) (val : PyData) {ds : List PyData} (hdl : ds.length ≤ 2000) (hel : ∀ d ∈ ds, ElOk d) (i : Nat) (d : PyData) (hi : ds[i]? = some d) (s4 : Sl) : W (gdName 4 (.d d) (LiS (.list (ts.map Tk.d)) (.list (ps.map Pg.d)) val ((ds.take i).flatMap plsOf) s4 .u)) fun ρ1 => W (l__law_is_cover_4 ρ1) fun
      | .nx ρ2 => buyB ts ps d = true ∧ ∃ s4, ρ2 = LiS (.list (ts.map Tk.d)) (.list (ps.map Pg.d)) val ((ds.take (i + 1)).flatMap plsOf) s4 .u
      | .ret r ρ2 => r = .d (.bool false) ∧ buyB ts ps d = false ∧ ∃ s3 s4, ρ2 = [.d (.list (ts.map Tk.d)), .d (.list (ps.map Pg.d)), .d val, s3, s4, .u]
      | _ => False := by
  have hm := List.mem_of_getElem? hi
  have hE := hel d hm
  have hl : ((ds.take i).flatMap plsOf).length ≤ (ds.take i).length * 60 := flat_len_le fun d hd => pls_len (hel d (List.mem_of_mem_take hd))
  have hl2 : (ds.take i).length ≤ ds.length := by rw [List.length_take]; omega
  have hft := flat_take plsOf hi
  obtain ⟨NS, hNS⟩ : ∃ NS, NS = (ds.take i).flatMap plsOf := ⟨_, rfl⟩
  rw [hft, ← hNS]
  rw [← hNS] at hl
  simp [LiS, l__law_is_cover_4]
  refine W_seq ?_
  have tlen : ((ts.map Tk.d).length : Int) = (ts.length : Int) := by simp
  have plen : ((ps.map Pg.d).length : Int) = (ps.length : Int) := by simp
  by_cases ht : isTupD d = true
  · obtain ⟨es, rfl⟩ := isTup_ex ht
    match es, hE, hi, hm, hft with
    | [], _, _, _, _ =>
      simp [q__law_is_cover_3]
      refine W_last ?_
      simp
      exact SeqK.ret ⟨rfl, rfl, _, _, rfl⟩
    | [a], _, _, _, _ =>
      simp [q__law_is_cover_3]
      refine W_last ?_
      simp
      exact SeqK.ret ⟨rfl, rfl, _, _, rfl⟩
    | a :: b :: c :: r, _, _, _, _ =>
      have hne : ¬ ((r.length : Int) + 1 + 1 + 1 = 2) := by omega
      simp [q__law_is_cover_3, hne]
      refine W_last ?_
      simp
      exact SeqK.ret ⟨rfl, by cases b <;> rfl, _, _, rfl⟩
    | [k, l], hE, _, _, _ =>
      cases hk : btw k 0 ((ts.length : Int) - 1) with
      | false =>
        simp [q__law_is_cover_3, is_place_v, hk]
        refine W_last ?_
        simp
        exact SeqK.ret ⟨rfl, by cases l <;> simp [buyB, hk], _, _, rfl⟩
      | true =>
        obtain ⟨n, rfl, hn⟩ := btw_int hk
        simp [q__law_is_cover_3, is_place_v, hk]
        refine SeqK.nx (W_seq ?_)
        by_cases hlt : isTupD l = true
        · obtain ⟨xs, rfl⟩ := isTup_ex hlt
          obtain ⟨hxl, hsh⟩ := hE.el _ xs rfl
          have heq := eq_nilT hsh
          cases hem : xs.isEmpty with
          | true =>
            rw [hem] at heq
            simp [q__law_is_cover_2, heq]
            refine W_last ?_
            simp
            exact SeqK.ret ⟨rfl, by simp [buyB, lotB, hem], _, _, rfl⟩
          | false =>
            rw [hem] at heq
            simp [q__law_is_cover_2, heq]
            refine W_compA id (fun d => .bool (btw d 0 ((ps.length : Int) - 1))) xs (ρ' := [.d (.list (ts.map Tk.d)), .d (.list (ps.map Pg.d)), .d val, .l (NS.map .int), .d (.tuple [natD n, .tuple xs]), .u]) (by simp) (fun d hd => by simp [is_place_v]) (by omega) ?_
            have e : gAll [.list (xs.map fun d => PyData.bool (btw d 0 ((ps.length : Int) - 1)))] = some (.d (.bool (plsB ps.length xs))) := all_M _ _
            cases hp : plsB ps.length xs with
            | false =>
              simp [e, hp]
              refine W_last ?_
              simp
              exact SeqK.ret ⟨rfl, by simp [buyB, lotB, hp], _, _, rfl⟩
            | true =>
              simp [e, hp]
              refine SeqK.nx (W_seq ?_)
              obtain ⟨js, rfl, hj⟩ := pls_nat hp
              have hjl : js.length ≤ 60 := by simpa using hxl
              have hints : js.map natD = (js.map fun n : Nat => (n : Int)).map .int := by rw [List.map_map]; rfl
              have hss : gSortSet (.tuple (js.map natD)) = some (.l ((usort (js.map fun n : Nat => (n : Int))).map .int)) := by
                rw [hints]
                simp only [gSortSet, intsOf_map, x_obs]
                rw [if_pos (by simp; omega)]
              have hne : gNe (.list (js.map natD)) (.list ((usort (js.map fun n : Nat => (n : Int))).map .int)) = some (.d (.bool (!riseB (js.map fun n : Nat => (n : Int))))) := by
                rw [hints, ne_ints]
                congr 3
                congr 1
                rw [Bool.eq_iff_iff, decide_eq_true_eq, usort_iff]
              have hgl : gList [.tuple (js.map natD)] = some (.l (js.map natD)) := rfl
              cases hr : riseB (js.map fun n : Nat => (n : Int)) with
              | false =>
                rw [hr] at hne
                simp [q__law_is_cover_1, hgl, hss, hne]
                refine W_last ?_
                simp
                exact SeqK.ret ⟨rfl, by simp only [buyB, lotB, toI_nat, hr, Bool.and_false, Bool.false_and], _, _, rfl⟩
              | true =>
                rw [hr] at hne
                have hjne : js ≠ [] := fun z => by subst z; simp at hem
                have ht : ts[n]? = some ts[n] := by simp [hn]
                have htd : gIx (.list (ts.map Tk.d)) (natD n) = some (.d ts[n].d) := ix_seq .l (by simp [hn])
                have hzo : ∀ p ∈ pks ps js, p.zones.length ≤ 1000 := fun p hp => Nat.le_trans (ok.pok p (pks_mem hp)).z.2.1 (by omega)
                have hpl : (pks ps js).length ≤ 1000 := Nat.le_trans (pks_len _ _) (by omega)
                have hdc := law_covers_v ts[n] (pks ps js) hpl hzo
                have hbuy : buyB ts ps (.tuple [natD n, .tuple (js.map natD)]) = covB ts[n] (pks ps js) := by
                  have : (toI (natD n)).toNat = n := by simp [natD, toI]
                  have h2 : lotB ps.length (js.map natD) = true := by simp only [lotB, hem, hp, toI_nat, hr]; rfl
                  simp [buyB, hk, h2, pksD_nat, this, covAt_some ht]
                simp [q__law_is_cover_1, hgl, hss, hne, htd]
                refine W_compA natD (pgD ps) js (ρ' := [.d (.list (ts.map Tk.d)), .d (.list (ps.map Pg.d)), .d val, .l (NS.map .int), .d (.tuple [natD n, .tuple (js.map natD)]), .u]) (by simp) (fun j hj2 => by simp [ix_pg .l (hj j hj2)]) (by omega) ?_
                rw [pgD_map ps js hj]
                cases hcv : covB ts[n] (pks ps js) with
                | false =>
                  rw [hcv] at hdc hbuy
                  simp [hdc]
                  refine W_last ?_
                  simp
                  exact SeqK.ret ⟨rfl, hbuy, _, _, rfl⟩
                | true =>
                  rw [hcv] at hdc hbuy
                  simp [hdc]
                  refine SeqK.nx (W_last ?_)
                  have hz2 : (NS.map PyData.int).length + (js.map natD).length ≤ sizeLine := by
                    simp
                    rw [sizeLine_eq]
                    omega
                  have hfin : List.map PyData.int (plsOf (.tuple [natD n, .tuple (js.map natD)])) = js.map natD := by
                    have : plsOf (.tuple [natD n, .tuple (js.map natD)]) = js.map fun n : Nat => (n : Int) := toI_nat js
                    rw [this, List.map_map]
                    rfl
                  simp only [x_sExpr, x_eMeth, x_eBin, x_eK, x_aCons, x_eVar, x_aNil, x_obs, x_oms, W_map, W_bind, List.getElem?_cons_succ, List.getElem?_cons_zero, x_listOf_l, W_some, x_data_d, x_ixT, x_at1, Option.map_some, opExtend, if_pos hz2]
                  rw [hfin]
                  exact ⟨hbuy, _, rfl⟩
        · have hf : isTupD l = false := by simpa using hlt
          simp [q__law_is_cover_2, hf]
          refine W_last ?_
          simp
          exact SeqK.ret ⟨rfl, by cases l <;> simp [isTupD] at hf <;> rfl, _, _, rfl⟩
  · have hf : isTupD d = false := by simpa using ht
    simp [q__law_is_cover_3, hf]
    refine W_last ?_
    simp
    exact SeqK.ret ⟨rfl, by cases d <;> simp [isTupD] at hf <;> rfl, _, _, rfl⟩
theorem law_is_cover_v {ts : List Tk} {ps : List Pg} (ok : Ok ts ps) (val : PyData) (hval : ValOk val) : m__law_is_cover [.d (.list (ts.map Tk.d)), .d (.list (ps.map Pg.d)), .d val] = some (.d (.bool (covrB ts ps val)), [.u, .u, .u]) := by
  refine W_eq.mp (W_body (W_seq ?_))
  cases hit : itemsOf val with
  | none =>
    have h1 : isLstD val = false ∧ isTupD val = false := by cases val <;> simp [itemsOf] at hit <;> exact ⟨rfl, rfl⟩
    simp [h1.1, h1.2]
    refine W_last ?_
    simp
    exact SeqK.ret (BodyK.ret (by simp) (by simp [keepP, covrB, hit]))
  | some ds =>
    obtain ⟨hdl, hel⟩ := hval ds hit
    have h1 : (isLstD val || isTupD val) = true := by cases val <;> simp [itemsOf] at hit <;> rfl
    simp only [x_sIf, x_tNot2, x_tVal, x_eIsi2, x_eVar, W_bind, W_map, List.cons_append, List.nil_append, List.replicate, List.getElem?_cons_succ, List.getElem?_cons_zero, x_data_d, x_isi_lst, x_isi_tup, x_obs, x_oms, W_some, x_boolOf, h1, Bool.not_true, Bool.false_eq_true, if_false, x_sNil]
    refine SeqK.nx (W_seq ?_)
    simp
    refine SeqK.nx (W_seq ?_)
    simp [sFor, hit]
    have key := for_gen (gd := gdName 4) (g := l__law_is_cover_4) id (fun i ρ => (∀ d ∈ ds.take i, buyB ts ps d = true) ∧ ∃ s4, ρ = LiS (.list (ts.map Tk.d)) (.list (ps.map Pg.d)) val ((ds.take i).flatMap plsOf) s4 .u)
      (fun i r ρ => r = .d (.bool false) ∧ (∃ d ∈ ds, buyB ts ps d = false) ∧ ∃ s3 s4, ρ = [.d (.list (ts.map Tk.d)), .d (.list (ps.map Pg.d)), .d val, s3, s4, .u]) ds 0 [.d (.list (ts.map Tk.d)), .d (.list (ps.map Pg.d)), .d val, .l [], .u, .u] ⟨by simp, .u, by simp [LiS]⟩ fun i d hi ρ h => by
      rw [Nat.zero_add] at h ⊢
      obtain ⟨hall, s4, rfl⟩ := h
      refine (li_turn ok val hdl hel i d hi s4).mono fun ρ1 h1 => h1.mono fun o ho => ?_
      cases o with
      | nx ρ2 =>
        obtain ⟨a, b⟩ := ho
        refine ⟨fun x hx => ?_, b⟩
        rw [take_at hi] at hx
        rcases List.mem_append.mp hx with hx | hx
        · exact hall x hx
        · rw [List.mem_singleton.mp hx]; exact a
      | ret r ρ2 => exact ⟨ho.1, ⟨d, List.mem_of_getElem? hi, ho.2.1⟩, ho.2.2⟩
      | bk ρ2 => exact ho.elim
      | ct ρ2 => exact ho.elim
    rw [List.map_id] at key
    refine key.mono fun o ho => ?_
    rcases ho with ⟨ρ', e1, hall, s4, e2⟩ | ⟨i, r, ρ', hi, e1, e2, ⟨d, hd, hb⟩, s3, s4, e3⟩
    · subst e1 e2
      rw [Nat.zero_add, List.take_length] at hall ⊢
      have hb : ds.all (buyB ts ps) = true := List.all_eq_true.mpr hall
      refine SeqK.nx (W_last ?_)
      have hrl := rng_list ps.length (by have := ok.p10; omega) [.d (.list (ts.map Tk.d)), .d (.list (ps.map Pg.d)), .d val, .d (.list ((ds.flatMap plsOf).map .int)), s4, .u] (eApp gLen (aCons (eVar 1) aNil)) (by simp)
      unfold LiS
      simp only [x_sRet, x_eBin, x_eApp, x_aCons, x_eVar, x_aNil, x_obs, x_oms, W_map, W_bind, List.getElem?_cons_succ, List.getElem?_cons_zero, W_some, x_data_d, x_data_l, sorted_L, List.set_cons_succ, List.set_cons_zero, hrl, sum_eq]
      exact BodyK.ret (by simp) (by simp [keepP, covrB, hit, hb])
    · subst e1 e2 e3
      have hb2 : ds.all (buyB ts ps) = false := List.all_eq_false.mpr ⟨d, hd, by simp [hb]⟩
      exact SeqK.ret (BodyK.ret (by simp) (by simp [keepP, covrB, hit, hb2]))
end K9
end PK90ZG
section PK90ZH
set_option maxHeartbeats 2000000
open PySem PySem.Spec PyProof.Rows L2 DL
namespace K9
/-! which covers are right -/
theorem plk_split {m q : Nat} (h : Sub q m) : ∀ p, (plk m p).Perm (plk q p ++ plk (m - q) p)
  | 0 => .refl _
  | p + 1 => by
    have ih := plk_split h p
    have hb := sub_minus h p
    have hs := sub_bits.mp h p
    rw [plk_succ, plk_succ, plk_succ]
    cases hm : m.testBit p with
    | false =>
      have hq : q.testBit p = false := by
        cases hq : q.testBit p with
        | false => rfl
        | true => rw [hs hq] at hm; cases hm
      rw [hb, hm, hq]
      simpa using ih
    | true =>
      cases hq : q.testBit p with
      | true =>
        rw [hb, hm, hq]
        simp
        refine (ih.append_right [p]).trans ?_
        rw [List.append_assoc]
        exact List.perm_append_comm.append_left _
      | false =>
        rw [hb, hm, hq]
        simp
        rw [← List.append_assoc]
        exact ih.append_right [p]
theorem Part.flat {m : Nat} {L : List Nat} (h : Part m L) : (L.flatMap plc).Perm (plc m) := by
  induction h with
  | nil =>
    have : plc 0 = [] := by decide
    rw [this]
    exact .refl _
  | @cons m q L h0 hs hp ih =>
    rw [List.flatMap_cons]
    exact (ih.append_left _).trans (plk_split hs 20).symm
theorem plc_full {n : Nat} (hn : n ≤ 20) : plc (2 ^ n - 1) = List.range n := by
  have h2 := Nat.two_pow_pos n
  rw [← plk_eq (p := n) (by omega) hn]
  unfold plk
  rw [List.filter_eq_self]
  intro j hj
  rw [List.mem_range] at hj
  rw [Nat.testBit_two_pow_sub_one]
  simpa using hj
theorem plc_sorted (q : Nat) : (plc q).Pairwise (· < ·) := List.Pairwise.filter _ List.pairwise_lt_range
theorem plc_rise (q : Nat) : riseB ((plc q).map fun n : Nat => (n : Int)) = true := (riseB_iff _).mpr (List.pairwise_map.mpr ((plc_sorted q).imp fun h => by omega))
theorem pls_of_nat {m : Nat} {js : List Nat} (h : ∀ j ∈ js, j < m) : plsB m (js.map natD) = true := by
  unfold plsB
  rw [List.all_map, List.all_eq_true]
  intro j hj
  have := h j hj
  simp [btw, natD]
  omega
theorem lot_ok {m : Nat} {js : List Nat} (h0 : js ≠ []) (h : ∀ j ∈ js, j < m) (hr : riseB (js.map fun n : Nat => (n : Int)) = true) : lotB m (js.map natD) = true := by
  unfold lotB
  rw [pls_of_nat h, toI_nat, hr]
  cases js with
  | nil => exact absurd rfl h0
  | cons _ _ => rfl
theorem btw_nat {i m : Nat} (h : i < m) : btw (natD i) 0 ((m : Int) - 1) = true := by
  simp [btw, natD]
  omega
theorem buy_nat {ts : List Tk} {ps : List Pg} {i : Nat} {js : List Nat} {t : Tk} (ht : ts[i]? = some t) (hl : lotB ps.length (js.map natD) = true) : buyB ts ps (.tuple [natD i, .tuple (js.map natD)]) = covB t (pks ps js) := by
  have hi := (List.getElem?_eq_some_iff.mp ht).1
  have : (toI (natD i)).toNat = i := by simp [natD, toI]
  simp only [buyB, btw_nat hi, hl, pksD_nat, this, covAt_some ht, Bool.true_and]
theorem plsOf_nat (k : PyData) (js : List Nat) : plsOf (.tuple [k, .tuple (js.map natD)]) = js.map fun n : Nat => (n : Int) := toI_nat js
theorem lay_nat (js : List Nat) : SeqAt.shaped (.tuple (js.map natD)) = true := shapedT fun x hx => by
  obtain ⟨n, _, rfl⟩ := List.mem_map.mp hx
  exact ⟨rfl, by simp [natD, PyData.depth]⟩
theorem el_nat (k : PyData) {js : List Nat} (h : js.length ≤ 60) : ElOk (.tuple [k, .tuple (js.map natD)]) := ⟨fun k' xs e => by
  cases e
  exact ⟨by simpa using h, lay_nat js⟩⟩
theorem Buy.el (b : Buy) : ElOk b.d := el_nat _ (Nat.le_trans (plk_len _ _) (by omega))
theorem val_buys {bs : List Buy} (h : bs.length ≤ 1023) : ValOk (.list (bs.map Buy.d)) := fun ds e => by
  cases e
  refine ⟨by simp; omega, fun d hd => ?_⟩
  obtain ⟨b, _, rfl⟩ := List.mem_map.mp hd
  exact b.el
theorem flat_nat {α : Type} (f : α → List Nat) : ∀ xs : List α, (xs.flatMap fun x => (f x).map fun n : Nat => (n : Int)) = (xs.flatMap f).map fun n : Nat => (n : Int)
  | [] => rfl
  | x :: xs => by rw [List.flatMap_cons, List.flatMap_cons, List.map_append, flat_nat f xs]
theorem sorted_rng (n : Nat) : ((List.range n).map fun n : Nat => (n : Int)).Pairwise (· ≤ ·) := List.pairwise_map.mpr (List.pairwise_lt_range.imp fun h => by omega)
theorem isort_rng {js : List Nat} {n : Nat} (h : js.Perm (List.range n)) : isort (js.map fun n : Nat => (n : Int)) = (List.range n).map fun n : Nat => (n : Int) := (isort_only (h.symm.map _) (sorted_rng n)).symm
theorem flatMap_map' {α β γ : Type} (f : α → β) (g : β → List γ) (xs : List α) : (xs.map f).flatMap g = xs.flatMap fun x => g (f x) := by
  induction xs with
  | nil => rfl
  | cons x xs ih => rw [List.map_cons, List.flatMap_cons, List.flatMap_cons, ih]
theorem cover_right {ts : List Tk} {ps : List Pg} (ok : Ok ts ps) {C : Int} {bs : List Buy} (h : CoverOk ts ps C bs) : covrB ts ps (.list (bs.map Buy.d)) = true := by
  obtain ⟨h1, h2, h3, h4⟩ := h
  have hn := ok.p10
  have hfull := plc_full (n := ps.length) (by omega)
  unfold covrB
  simp only [x_itemsL]
  rw [Bool.and_eq_true, decide_eq_true_eq]
  constructor
  · rw [List.all_map, List.all_eq_true]
    intro b hb
    have hq := h2.sub b.q (List.mem_map.mpr ⟨b, hb, rfl⟩)
    have hlt := sub_full.mp hq.2
    have h20 := pow20 hlt (by omega)
    have hl : lotB ps.length ((plc b.q).map natD) = true := lot_ok (plc_ne hq.1 h20) (fun j hj => bit_lt hlt ((plc_mem h20).mp hj)) (plc_rise _)
    show buyB ts ps b.d = true
    have := buy_nat (h1 b hb).t hl
    exact this.trans (h1 b hb).c
  · rw [flatMap_map']
    have e : (bs.flatMap fun b => plsOf b.d) = ((bs.map Buy.q).flatMap plc).map fun n : Nat => (n : Int) := by
      rw [flatMap_map', ← flat_nat]
      congr 1
      funext b
      exact plsOf_nat _ _
    rw [e]
    exact isort_rng (hfull ▸ h2.flat)
/-- a list of lots short of some place -/
theorem cover_short {ts : List Tk} {ps : List Pg} {ds : List PyData} (h : (ds.flatMap plsOf).length ≠ ps.length) : covrB ts ps (.list ds) = false := by
  unfold covrB
  simp only [x_itemsL]
  rw [Bool.and_eq_false_iff]
  right
  rw [decide_eq_false_iff_not]
  intro e
  have := congrArg List.length e
  rw [(isort_perm _).length_eq, List.length_map, List.length_range] at this
  exact h this
/-! single passages -/
theorem cnt_one (p : Pg) (m : Int) : cnt [p] m ≤ 1 := by
  unfold cnt
  have := List.length_filter_le (fun o => at' o m) [p]
  simp only [List.length_singleton] at this
  omega
theorem minB_one (p : Pg) : minB [p] = p.b := rfl
theorem cov_one {t : Tk} (ht : t.ok) (p : Pg) : covB t [p] = inZ t p := by
  unfold covB
  have h1 := ht.m.1
  have h2 := ht.n.1
  have h3 := cnt_one p p.b
  have e1 : okAt t (minB [p]) p = inZ t p := by
    unfold okAt
    rw [minB_one]
    rw [decide_eq_false (show ¬ t.minutes ≤ p.b - p.b by omega)]
    rfl
  have e2 : decide (cnt [p] p.b ≤ t.persons) = true := decide_eq_true (by omega)
  simp [e1, e2]
theorem cov_has {t : Tk} {ps : List Pg} (h : covB t ps = true) {p : Pg} (hp : p ∈ ps) : inZ t p = true := by
  unfold covB at h
  simp only [Bool.and_eq_true, List.all_eq_true] at h
  have := h.1 p hp
  unfold okAt at this
  rw [Bool.and_eq_true] at this
  exact this.2
def hopeless (ts : List Tk) (p : Pg) : Bool := (sgl ts [p]).isNone
theorem sgl_none {ts : List Tk} {qs : List Pg} : sgl ts qs = none ↔ ∀ t ∈ ts, covB t qs = false := by
  unfold sgl
  rw [minO_none, List.map_eq_nil_iff, List.filter_eq_nil_iff]
  exact ⟨fun h t ht => by simpa using h t ht, fun h t ht => by simpa using h t ht⟩
theorem pks_one {ps : List Pg} {j : Nat} {p : Pg} (h : ps[j]? = some p) : pks ps [j] = [p] := by simp [pks, h]
theorem sumO_none_mem {l : List (Option Int)} (h : none ∈ l) : sumO l = none := by
  rcases sumO_cases l with ⟨ns, rfl, _⟩ | ⟨_, h2⟩
  · simp at h
  · exact h2
/-- no price just where some passage is in no ticket's zones -/
theorem least_none_iff {ts : List Tk} {ps : List Pg} (ok : Ok ts ps) {o : Option Int} (h : LeastL (sg ts ps) (pts ps.length) o) : o = none ↔ ∃ p ∈ ps, hopeless ts p = true := by
  have hn := ok.p10
  constructor
  · intro e
    subst e
    refine Classical.byContradiction fun hno => ?_
    have hone : ∀ j : Nat, j < ps.length → ∃ x, sg ts ps (2 ^ j) = some x := fun j hj => by
      have hp : ps[j]? = some ps[j] := by simp [hj]
      unfold sg
      rw [plc_pow (by omega), pks_one hp]
      cases hs : sgl ts [ps[j]] with
      | some x => exact ⟨x, rfl⟩
      | none => exact absurd ⟨ps[j], by simp, by simp [hopeless, hs]⟩ hno
    have hpart : ∀ k, k ≤ ps.length → ∃ L, Part (2 ^ k - 1) L ∧ ∃ s, sumO (L.map (sg ts ps)) = some s := by
      intro k
      induction k with
      | zero => intro _; exact ⟨[], .nil, 0, rfl⟩
      | succ k ih =>
        intro hk
        obtain ⟨L, h1, s, h2⟩ := ih (by omega)
        obtain ⟨x, hx⟩ := hone k (by omega)
        have hp2 := Nat.two_pow_pos k
        have hp3 := pow_succ2 k
        refine ⟨2 ^ k :: L, .cons hp2 (sub_full.mpr (by omega)) ?_, x + s, ?_⟩
        · have : 2 ^ (k + 1) - 1 - 2 ^ k = 2 ^ k - 1 := by omega
          rw [this]; exact h1
        · simp [sumO, hx, h2]
    obtain ⟨L, h1, s, h2⟩ := hpart ps.length (Nat.le_refl _)
    obtain ⟨L', h3, h4⟩ := pts_all _ L h1
    rw [sumO_perm (h4.map _)] at h2
    obtain ⟨x, h5, _⟩ := h.low L' h3 s h2
    cases h5
  · rintro ⟨p, hp, hh⟩
    cases o with
    | none => rfl
    | some x =>
      obtain ⟨L, h1, h2⟩ := h.get x rfl
      have hP := pts_sound _ L h1
      obtain ⟨j, hj, hj2⟩ := List.getElem_of_mem hp
      have hjp : ps[j]? = some p := by simp [hj, hj2]
      obtain ⟨q, hq, hb⟩ := hP.has (j := j) (by rw [Nat.testBit_two_pow_sub_one]; simpa using hj)
      have hlt := sub_full.mp (hP.sub q hq).2
      have h20 := pow20 hlt (by omega)
      have hnone : sg ts ps q = none := by
        unfold sg
        rw [sgl_none]
        intro t ht
        have hone := sgl_none.mp (by simpa [hopeless] using hh) t ht
        rw [cov_one (ok.tok t ht)] at hone
        cases hc : covB t (pks ps (plc q)) with
        | false => rfl
        | true =>
          have := cov_has hc (p := p) (by
            unfold pks
            exact List.mem_filterMap.mpr ⟨j, (plc_mem h20).mpr hb, hjp⟩)
          rw [this] at hone
          cases hone
      have := sumO_none_mem (l := L.map (sg ts ps)) (List.mem_map.mpr ⟨q, hq, hnone⟩)
      rw [this] at h2
      cases h2
/-- the first ticket for each passage, where some passage is hopeless -/
def firstD (n : Nat) : PyData := .list ((List.range n).map fun j => .tuple [natD 0, .tuple [natD j]])
theorem first_wrong {ts : List Tk} {ps : List Pg} (ok : Ok ts ps) (h : ∃ p ∈ ps, hopeless ts p = true) : covrB ts ps (firstD ps.length) = false := by
  obtain ⟨p, hp, hh⟩ := h
  obtain ⟨j, hj, hj2⟩ := List.getElem_of_mem hp
  have hjp : ps[j]? = some p := by simp [hj, hj2]
  have h1 := ok.t1
  have ht : ts[0]? = some ts[0] := by simp
  unfold covrB firstD
  simp only [x_itemsL]
  rw [Bool.and_eq_false_iff]
  left
  rw [List.all_eq_false]
  refine ⟨_, List.mem_map.mpr ⟨j, List.mem_range.mpr hj, rfl⟩, ?_⟩
  have hl : lotB ps.length ([j].map natD) = true := lot_ok (by simp) (by simpa using hj) (by simp [riseB])
  have := buy_nat ht hl
  rw [pks_one hjp] at this
  have hone := sgl_none.mp (by simpa [hopeless] using hh) ts[0] (by simp)
  rw [hone] at this
  have e : ([j].map natD) = [natD j] := rfl
  rw [e] at this
  rw [this]
  simp
theorem first_val (n : Nat) (h : n ≤ 10) : ValOk (firstD n) := fun ds e => by
  cases e
  refine ⟨by simp; omega, fun d hd => ?_⟩
  obtain ⟨j, _, rfl⟩ := List.mem_map.mp hd
  exact el_nat (natD 0) (js := [j]) (by simp)
end K9
end PK90ZH
section PK90ZI
set_option maxHeartbeats 2000000
open PySem PySem.Spec PyProof.Rows L2 DL
namespace K9
/-! one thing of a cover otherwise -/
structure Lt (d : PyData) : Prop where
  f : Fit 1 1300 d
  l : ∀ ys, d = .tuple ys → ys.length ≤ 30
structure EL (d : PyData) : Prop where
  f : Fit 2 4000 d
  e : ElOk d
structure VRep (v : PyData) : Prop where
  ok : ValOk v
  r : gRepr [v] = some (.d (.str v.shown))
  s : PyData.strOk v.shown = true
theorem Lt.int {i : Int} (h : i.natAbs < 10 ^ 12) : Lt (.int i) := ⟨(Fit.int h).up (by omega) (by omega), fun ys e => nomatch e⟩
theorem Lt.bool (b : Bool) : Lt (.bool b) := ⟨(Fit.bool b).up (by omega) (by omega), fun ys e => nomatch e⟩
theorem Lt.none : Lt .none := ⟨Fit.none.up (by omega) (by omega), fun ys e => nomatch e⟩
theorem Lt.tup {xs : List PyData} (h : ∀ x ∈ xs, Fit 0 41 x) (hl : xs.length ≤ 30) : Lt (.tuple xs) := ⟨(Fit.tup h hl).up (by omega) (by omega), fun ys e => by cases e; exact hl⟩
theorem Lt.list {xs : List PyData} (h : ∀ x ∈ xs, Fit 0 41 x) (hl : xs.length ≤ 30) : Lt (.list xs) := ⟨(Fit.list h hl).up (by omega) (by omega), fun ys e => nomatch e⟩
theorem EL.tup {xs : List PyData} (h : ∀ x ∈ xs, Lt x) (hl : xs.length ≤ 3) : EL (.tuple xs) := ⟨(Fit.tup (fun x hx => (h x hx).f) hl).up (by omega) (by omega), ⟨fun k ys e => by
  cases e
  have := h (.tuple ys) (by simp)
  exact ⟨Nat.le_trans (this.l ys rfl) (by omega), this.f.shaped (by omega)⟩⟩⟩
theorem EL.list {xs : List PyData} (h : ∀ x ∈ xs, Lt x) (hl : xs.length ≤ 3) : EL (.list xs) := ⟨(Fit.list (fun x hx => (h x hx).f) hl).up (by omega) (by omega), ⟨fun k ys e => nomatch e⟩⟩
theorem EL.none : EL .none := ⟨Fit.none.up (by omega) (by omega), ⟨fun k ys e => nomatch e⟩⟩
theorem EL.str {x : Str} (h : Fit 0 100 (.str x)) : EL (.str x) := ⟨h.up (by omega) (by omega), ⟨fun k ys e => nomatch e⟩⟩
theorem EL.tup0 : EL (.tuple []) := EL.tup (by simp) (by simp)
theorem VRep.list {ds : List PyData} (h : ∀ d ∈ ds, EL d) (hl : ds.length ≤ 30) : VRep (.list ds) := by
  have hf := Fit.list (k := 30) (fun d hd => (h d hd).f) hl
  refine ⟨fun es e => ?_, hf.repr (by omega) (by omega), hf.so⟩
  cases e
  exact ⟨by omega, fun d hd => (h d hd).e⟩
theorem VRep.tup {ds : List PyData} (h : ∀ d ∈ ds, EL d) (hl : ds.length ≤ 30) : VRep (.tuple ds) := by
  have hf := Fit.tup (k := 30) (fun d hd => (h d hd).f) hl
  refine ⟨fun es e => ?_, hf.repr (by omega) (by omega), hf.so⟩
  cases e
  exact ⟨by omega, fun d hd => (h d hd).e⟩
theorem VRep.fit {d : PyData} (h : Fit 2 4000 d) (hi : itemsOf d = Option.none) : VRep d := ⟨fun es e => (by rw [hi] at e; cases e), h.repr (by omega) (by omega), h.so⟩
theorem VRep.nod : VRep (.dict []) := by
  refine ⟨(fun es e => nomatch e), ?_, by decide +kernel⟩
  show (if DL.reprOk (.dict []) = true then some (Rs.d (.str (PyData.shown (.dict [])))) else Option.none) = _
  rw [if_pos (by decide +kernel)]
theorem fit_str (x : Str) (h : (PyData.strOk x && PyData.strOk (reprText x) && decide (x.cps.size ≤ 41)) = true) : Fit 0 41 (.str x) := by
  simp only [Bool.and_eq_true, decide_eq_true_eq] at h
  exact Fit.str h.1.1 h.1.2 h.2
theorem fit_nat {n : Nat} (h : n < 1000) : Fit 0 41 (natD n) := Fit.int (by omega)
theorem str_nat {n : Nat} (h : n < 8) : ∃ x : Str, gStr1 [natD n] = some (.d (.str x)) ∧ Fit 0 41 (.str x) := by
  refine ⟨toString (n : Int), ?_, ?_⟩
  · have : ((n : Int)).natAbs.log2 < 1920 := by
      have : ((n : Int)).natAbs = n := by omega
      rw [this]
      by_cases z : n = 0
      · subst z; decide
      · have := (Nat.log2_lt (n := n) (k := 3) z).mpr (by omega)
        omega
    show (if ((n : Int)).natAbs.log2 < 1920 then some (Rs.d (.str (toString (n : Int)))) else Option.none) = _
    rw [if_pos this]
  · match n, h with
    | 0, _ => exact fit_str _ (by decide +kernel)
    | 1, _ => exact fit_str _ (by decide +kernel)
    | 2, _ => exact fit_str _ (by decide +kernel)
    | 3, _ => exact fit_str _ (by decide +kernel)
    | 4, _ => exact fit_str _ (by decide +kernel)
    | 5, _ => exact fit_str _ (by decide +kernel)
    | 6, _ => exact fit_str _ (by decide +kernel)
    | 7, _ => exact fit_str _ (by decide +kernel)
theorem fit_nats {js : List Nat} (h : ∀ j ∈ js, j < 1000) : ∀ x ∈ js.map natD, Fit 0 41 x := fun x hx => by
  obtain ⟨j, hj, rfl⟩ := List.mem_map.mp hx
  exact fit_nat (h j hj)
/-- what a cover's element is -/
structure Kl (m : Nat) (d : PyData) : Prop where
  ex : ∃ (i : Nat) (js : List Nat), d = .tuple [natD i, .tuple (js.map natD)] ∧ i < m ∧ (∀ j ∈ js, j < 10) ∧ js.length ≤ 10
theorem kl_el {m : Nat} (hm : m ≤ 8) {d : PyData} (h : Kl m d) : EL d := by
  obtain ⟨i, js, rfl, h1, h2, h3⟩ := h
  refine EL.tup (fun x hx => ?_) (by simp)
  simp only [List.mem_cons, List.not_mem_nil, or_false] at hx
  rcases hx with rfl | rfl
  · exact Lt.int (by omega)
  · exact Lt.tup (fit_nats fun j hj => by have := h2 j hj; omega) (by simp; omega)
def BentP (x : Rs × Rho) : Prop := ∃ (r : Rs) (a b : Int), 0 ≤ a ∧ VRep r.data ∧ x = (r, [pot a b, .u, .u, .u])
theorem two_el {k l : PyData} (hk : Lt k) (hl : Lt l) : EL (.tuple [k, l]) := EL.tup (fun x hx => by
  simp only [List.mem_cons, List.not_mem_nil, or_false] at hx
  rcases hx with rfl | rfl <;> assumption) (by simp)
theorem two_elL {k l : PyData} (hk : Lt k) (hl : Lt l) : EL (.list [k, l]) := EL.list (fun x hx => by
  simp only [List.mem_cons, List.not_mem_nil, or_false] at hx
  rcases hx with rfl | rfl <;> assumption) (by simp)
theorem one_el {k : PyData} (hk : Lt k) : EL (.tuple [k]) := EL.tup (fun x hx => by
  simp only [List.mem_cons, List.not_mem_nil, or_false] at hx
  subst hx
  assumption) (by simp)
theorem three_el {k l m : PyData} (hk : Lt k) (hl : Lt l) (hm : Lt m) : EL (.tuple [k, l, m]) := EL.tup (fun x hx => by
  simp only [List.mem_cons, List.not_mem_nil, or_false] at hx
  rcases hx with rfl | rfl | rfl <;> assumption) (by simp)
/-- found == [] -/
theorem bent_none (T Q : PyData) (a b : Int) (ha : 0 ≤ a) : W (m__law_bent [pot a b, .d T, .d Q, .d (.list [])]) BentP := by
  have hnil : gEq (.list []) (.list []) = some (.d (.bool true)) := rfl
  have hgl : gList [.list []] = some (.l []) := rfl
  refine W_body (W_seq ?_)
  simp [hgl]
  refine SeqK.nx (W_seq ?_)
  simp [hnil]
  refine W_last ?_
  simp only [q__law_bent_1, x_sRet, W_map]
  refine W_pick rfl ?_
  simp
  refine ⟨_, .inl rfl, by simp, by simp, a, b, ha, rfl, fun d hd a b ha => ?_⟩
  have hv : VRep d := by
    simp only [List.mem_cons, List.not_mem_nil, or_false] at hd
    have l0 : Lt (.int 0) := Lt.int (by decide)
    rcases hd with rfl | rfl | rfl | rfl | rfl | rfl | rfl | rfl
    · exact VRep.list (fun d hd => by rw [List.mem_singleton.mp hd]; exact two_el l0 (Lt.tup (by simp) (by simp))) (by simp)
    · exact VRep.fit (Fit.none.up (by omega) (by omega)) rfl
    · exact VRep.fit ((fit_str _ (by decide +kernel)).up (by omega) (by omega)) rfl
    · exact VRep.list (fun d hd => by rw [List.mem_singleton.mp hd]; exact EL.tup0) (by simp)
    · exact VRep.nod
    · exact VRep.fit ((Fit.int (by decide)).up (by omega) (by omega)) rfl
    · exact VRep.tup (by simp) (by simp)
    · have hx0 : ∀ x ∈ [PyData.int 0], Fit 0 41 x := fun x hx => by
        rw [List.mem_singleton.mp hx]
        exact Fit.int (by decide)
      exact VRep.list (fun d hd => by rw [List.mem_singleton.mp hd]; exact two_el l0 (Lt.tup hx0 (by simp))) (by simp)
  exact SeqK.ret (BodyK.ret (by simp) ⟨.d d, a, b, ha, hv, by simp [keepP]⟩)
/-- the state from the draws on -/
def BeS (a b : Int) (T Q C : PyData) (F : List PyData) (at' to w : Nat) (i : Nat) (js : List Nat) : Rho := [pot a b, .d T, .d Q, .d C, .l F, .d (natD at'), .d (natD to), .d (natD w), .d (natD i), .d (.tuple (js.map natD)), .u, .u, .u]
theorem ixN_nat {n k : Nat} (h : k < n) : ixN n (k : Int) = some k := by
  unfold ixN
  rw [if_pos (by omega), if_pos (by omega)]
  simp
theorem at_map {F : List PyData} {k : Nat} (h : k < F.length) : atI F (k : Int) = some F[k] := by
  rw [DL.atI_nat]
  simp [h]
end K9
end PK90ZI
section PK90ZJ
set_option maxHeartbeats 4000000
open PySem PySem.Spec PyProof.Rows L2 DL
namespace K9
theorem bent_end {r : Rs} {a b : Int} {ρ : Rho} (ha : 0 ≤ a) (hv : VRep r.data) (hl : 3 ≤ ρ.length) (hk : (ρ.take 3).map keepP = [.u, .u, .u]) : BodyK 4 BentP (.ret r (pot a b :: ρ)) := BodyK.ret (by simpa using hl) ⟨r, a, b, ha, hv, by simp [keepP, hk]⟩
theorem set_el {F : List PyData} {k : Nat} {d : PyData} (h : ∀ x ∈ F, EL x) (hd : EL d) : ∀ x ∈ F.set k d, EL x := fun x hx => by
  rcases List.mem_or_eq_of_mem_set hx with hx | rfl
  · exact h x hx
  · exact hd
theorem natD_def (n : Nat) : PyData.int (n : Int) = natD n := rfl
/-- the ways that set an element -/
theorem bent_tail {a b : Int} (ha : 0 ≤ a) {T Q C : PyData} {G : List PyData} {s5 s6 s7 s8 s9 s10 s11 s12 : Sl} (h : ∀ x ∈ G, EL x) (hl : G.length ≤ 30) : SeqK (sSeq (sRet (eMove 4)) sNil) (BodyK 4 BentP) (.nx [pot a b, .d T, .d Q, .d C, .l G, s5, s6, s7, s8, s9, s10, s11, s12]) := by
  refine SeqK.nx (W_last ?_)
  simp
  exact bent_end ha (VRep.list h hl) (by simp) (by simp [keepP])
def fD (F : List PyData) (k : Nat) : PyData := (F[k]?).getD .none
theorem enum_F (F : List PyData) : enum1D [.list F] = some ((List.range F.length).map fun k : Nat => PyData.tuple [natD k, fD F k]) := by
  simp only [enum1D, x_itemsL, Option.map_some, Option.some.injEq]
  apply List.ext_getElem?
  intro k
  by_cases h : k < F.length
  · simp [enumD, fD, h, natD]
  · simp [enumD, h]
section
variable {Tl Ql F : List PyData} {C : PyData} {at' to i : Nat} {js : List Nat}
/-- one more -/
theorem bent_more (a b : Int) (ha : 0 ≤ a) (w : Nat) (hT : Tl.length ≤ 8) (hQ : Ql.length ≤ 10) (hF : ∀ d ∈ F, EL d) (hFl : F.length ≤ 10) {R : SM} : W (q__law_bent_7 (BeS a b (.list Tl) (.list Ql) C F at' to w i js)) (SeqK R (BodyK 4 BentP)) := by
  simp only [BeS, q__law_bent_7, x_sRet, x_eBin, x_eApp, x_aCons, x_eVar, x_aNil, W_bind, W_map, List.getElem?_cons_succ, List.getElem?_cons_zero, W_some, x_data_d, x_data_l, List.set_cons_succ, List.set_cons_zero]
  refine W_pick rfl ?_
  simp
  refine ⟨_, .inl rfl, by simp, by simp, a, b, ha, rfl, fun d hd a b ha => ?_⟩
  have hadd := addL (xs := F) (ys := [d]) (by simp; omega)
  simp [hadd]
  refine SeqK.ret (bent_end ha (VRep.list (ds := F ++ [d]) (fun x hx => ?_) (by simp; omega)) (by simp) (by simp [keepP]))
  have l0 : Lt (.int 0) := Lt.int (by decide)
  have hel : EL d := by
    simp only [List.mem_cons, List.not_mem_nil, or_false] at hd
    rcases hd with rfl | rfl | rfl | rfl | rfl
    · exact two_el l0 (Lt.tup (by simp) (by simp))
    · exact EL.none
    · exact EL.tup0
    · exact EL.str ((fit_str _ (by decide +kernel)).up (by omega) (by omega))
    · refine two_el l0 (Lt.tup (xs := [.int (Ql.length : Int)]) (fun x hx => ?_) (by simp))
      rw [List.mem_singleton.mp hx]
      exact Fit.int (by omega)
  rcases List.mem_append.mp hx with hx | hx
  · exact hF x hx
  · rw [List.mem_singleton.mp hx]
    exact hel
/-- the ways from 2 on -/
theorem bent_ways (a b : Int) (ha : 0 ≤ a) (w : Nat) (hw : w < 12) (hT1 : 1 ≤ Tl.length) (hT : Tl.length ≤ 8) (hQ1 : 1 ≤ Ql.length) (hQ : Ql.length ≤ 10) (hF : ∀ d ∈ F, Kl Tl.length d) (hFl : F.length ≤ 10) (hat : at' < F.length) (hto : to < F.length) (hd : F[at'] = .tuple [natD i, .tuple (js.map natD)]) (hi : i < Tl.length) (hj : ∀ j ∈ js, j < 10) (hjl : js.length ≤ 10) :
    W (sSeq q__law_bent_15 (sSeq (sIf (tVal (eBin gEq (eVar 7) (eK (.int 1)))) (sSeq (sRet (eBin gAdd (eVar 4) (eApp gLst (aCons (eBin gIx (eVar 4) (eVar 5)) aNil)))) sNil) sNil) (sSeq q__law_bent_14 (sSeq (sRet (eMove 4)) sNil))) (BeS a b (.list Tl) (.list Ql) C F at' to w i js)) (BodyK 4 BentP) := by
  have hFe : ∀ d ∈ F, EL d := fun d hd => kl_el hT (hF d hd)
  have hixn : ixN F.length (at' : Int) = some at' := ixN_nat hat
  have hatv : atI F (at' : Int) = some (.tuple [natD i, .tuple (js.map natD)]) := by rw [at_map hat, hd]
  have hFs : ∀ d, EL d → ∀ x ∈ F.set at' d, EL x := fun d h => set_el hFe h
  have hFsl : ∀ d, (F.set at' d).length ≤ 30 := fun d => by rw [List.length_set]; omega
  have li : Lt (natD i) := Lt.int (by omega)
  have lot : ∀ ks : List Nat, (∀ j ∈ ks, j < 1000) → ks.length ≤ 30 → Lt (.tuple (ks.map natD)) := fun ks h h2 => Lt.tup (fit_nats h) (by simpa using h2)
  have hj1000 : ∀ j ∈ js, j < 1000 := fun j h => by have := hj j h; omega
  have fits : ∀ x ∈ js.map natD, Fit 0 41 x := fit_nats hj1000
  have l9 : Lt (.tuple (js.map natD)) := lot js hj1000 (by omega)
  have hcutL : DL.cutD F none (some (at' : Int)) = F.take at' := cut_to (by omega)
  have hcutR : DL.cutD F (some ((at' : Int) + 1)) none = F.drop (at' + 1) := by
    have := cut_from (xs := F) (a := at' + 1) (by omega)
    rw [← this]
    congr 2
  have htk : ∀ d ∈ F.take at', EL d := fun d h => hFe d (List.mem_of_mem_take h)
  have hdr : ∀ d ∈ F.drop (at' + 1), EL d := fun d h => hFe d (List.mem_of_mem_drop h)
  have htl : (F.take at').length + (F.drop (at' + 1)).length ≤ 10 := by simp; omega
  unfold BeS
  refine W_seq ?_
  match w, hw with
  | 0, _ =>
    have hadd := addL (xs := F.take at') (ys := F.drop (at' + 1)) (by omega)
    simp [q__law_bent_15, natD, hcutL, hcutR, hadd]
    refine W_last ?_
    simp [hcutL, hcutR, hadd]
    refine SeqK.ret (bent_end ha (VRep.list (fun d h => ?_) (by simp; omega)) (by simp) (by simp [keepP]))
    rcases List.mem_append.mp h with h | h
    · exact htk d h
    · exact hdr d h
  | 1, _ =>
    have hadd := addL (xs := F) (ys := [F[at']]) (by simp; omega)
    rw [hd] at hadd
    simp [q__law_bent_15, natD]
    refine SeqK.nx (W_seq ?_)
    simp
    refine W_last ?_
    simp only [natD] at hatv hadd
    simp [hatv, hadd]
    refine SeqK.ret (bent_end ha (VRep.list (fun d h => ?_) (by simp; omega)) (by simp) (by simp [keepP]))
    rcases List.mem_append.mp h with h | h
    · exact hFe d h
    · rw [List.mem_singleton.mp h]
      exact two_el li l9
  | 2, _ =>
    simp [q__law_bent_15, natD]
    refine SeqK.nx (W_seq ?_)
    simp
    refine SeqK.nx (W_seq ?_)
    simp [q__law_bent_14]
    refine W_last ?_
    simp only [x_sAsgD, x_eApp, x_aCons, W_bind, W_map]
    refine W_draw (n := (Tl.length : Int)) rfl ha (by simp) (by omega) (by omega) fun d1 a b h1 h2 ha => ?_
    simp [gdIx, hixn]
    refine bent_tail ha (hFs _ (two_el (Lt.int (by omega)) l9)) (hFsl _)
  | 3, _ =>
    simp [q__law_bent_15, natD]
    refine SeqK.nx (W_seq ?_)
    simp
    refine SeqK.nx (W_seq ?_)
    simp [q__law_bent_14]
    refine W_last ?_
    simp [q__law_bent_13]
    refine W_last ?_
    simp [gdIx, hixn]
    refine bent_tail ha (hFs _ (two_el li ?_)) (hFsl _)
    have := lot js.reverse (fun j h => hj1000 j (by simpa using h)) (by simpa using by omega)
    simpa [natD, Function.comp_def] using this
  | 4, _ =>
    simp [q__law_bent_15, natD]
    refine SeqK.nx (W_seq ?_)
    simp
    refine SeqK.nx (W_seq ?_)
    simp [q__law_bent_14]
    refine W_last ?_
    simp [q__law_bent_13]
    refine W_last ?_
    simp [q__law_bent_12]
    refine W_last ?_
    simp only [q__law_bent_2, x_sAsgD, W_bind, W_map]
    refine W_pick rfl ?_
    obtain ⟨sx, hs1, hs2⟩ := str_nat (n := i) (by omega)
    have hs1' : gStr1 [.int (i : Int)] = some (.d (.str sx)) := hs1
    have hgl : gList [.tuple (js.map natD)] = some (.l (js.map natD)) := rfl
    simp [hs1', hgl]
    refine ⟨_, .inl rfl, by simp, by simp, a, b, ha, rfl, fun d hdm a b ha => ?_⟩
    simp [gdIx, hixn]
    refine bent_tail ha (hFs _ ?_) (hFsl _)
    have l9' : Lt (.tuple (js.map fun n : Nat => PyData.int (n : Int))) := l9
    have l9l : Lt (.list (js.map fun n : Nat => PyData.int (n : Int))) := Lt.list fits (by simp; omega)
    simp only [List.mem_cons, List.not_mem_nil, or_false] at hdm
    rcases hdm with rfl | rfl | rfl | rfl | rfl | rfl | rfl | rfl
    · exact two_el li l9l
    · exact two_elL li l9'
    · exact one_el li
    · exact three_el li l9' (Lt.int (by decide))
    · exact two_el (Lt.bool _) l9'
    · exact two_el ⟨hs2.up (by omega) (by omega), fun ys e => nomatch e⟩ l9'
    · exact two_el (Lt.int (by omega)) l9'
    · exact two_el (Lt.int (by decide)) l9'
  | 5, _ =>
    simp [q__law_bent_15, natD]
    refine SeqK.nx (W_seq ?_)
    simp
    refine SeqK.nx (W_seq ?_)
    simp [q__law_bent_14]
    refine W_last ?_
    simp [q__law_bent_13]
    refine W_last ?_
    simp [q__law_bent_12]
    refine W_last ?_
    simp
    refine W_last ?_
    simp only [q__law_bent_3, x_sAsgD, x_eApp, x_aCons, x_eBin, x_eVar, x_aNil, W_bind, W_map, List.getElem?_cons_succ, List.getElem?_cons_zero, W_some, x_data_d]
    refine W_draw (n := (Ql.length : Int)) rfl ha (by simp) (by omega) (by omega) fun d1 a b h1 h2 ha => ?_
    have hadd : gAdd (.tuple (js.map natD)) (.tuple [.int d1]) = some (.d (.tuple (js.map natD ++ [.int d1]))) := if_pos (by simp; rw [sizeLine_eq]; omega)
    simp [gdIx, hixn, hadd]
    refine bent_tail ha (hFs _ (two_el li (Lt.tup (xs := js.map natD ++ [.int d1]) (fun x hx => ?_) (by simp; omega)))) (hFsl _)
    rcases List.mem_append.mp hx with hx | hx
    · exact fits x hx
    · rw [List.mem_singleton.mp hx]
      exact Fit.int (by omega)
  | 6, _ =>
    simp [q__law_bent_15, natD]
    refine SeqK.nx (W_seq ?_)
    simp
    refine SeqK.nx (W_seq ?_)
    simp [q__law_bent_14]
    refine W_last ?_
    simp [q__law_bent_13]
    refine W_last ?_
    simp [q__law_bent_12]
    refine W_last ?_
    simp
    refine W_last ?_
    simp [q__law_bent_11]
    refine W_last ?_
    simp [gdIx, hixn]
    refine bent_tail ha (hFs _ (two_el li ?_)) (hFsl _)
    rw [cut1]
    exact Lt.tup (fun x hx => fits x (List.mem_of_mem_drop hx)) (by rw [List.length_drop, List.length_map]; omega)
  | 7, _ =>
    simp [q__law_bent_15, natD]
    refine SeqK.nx (W_seq ?_)
    simp
    refine SeqK.nx (W_seq ?_)
    simp [q__law_bent_14]
    refine W_last ?_
    simp [q__law_bent_13]
    refine W_last ?_
    simp [q__law_bent_12]
    refine W_last ?_
    simp
    refine W_last ?_
    simp [q__law_bent_11]
    refine W_last ?_
    by_cases he : at' = to
    · subst he
      simp [q__law_bent_10]
      refine W_last ?_
      simp [q__law_bent_9]
      refine W_last ?_
      simp [q__law_bent_8]
      refine W_last ?_
      simp
      refine W_last ?_
      exact bent_more (at' := at') (to := at') (i := i) (js := js) a b ha 7 hT hQ hFe hFl
    · have he' : ¬ ((at' : Int) = (to : Int)) := by omega
      obtain ⟨i2, js2, e2, hi2, hj2, hjl2⟩ := hF F[to] (List.getElem_mem hto)
      have hto2 : atI F (to : Int) = some (.tuple [natD i2, .tuple (js2.map natD)]) := by rw [at_map hto, e2]
      have hadd : gAdd (.tuple (js.map natD)) (.tuple (js2.map natD)) = some (.d (.tuple (js.map natD ++ js2.map natD))) := if_pos (by simp; rw [sizeLine_eq]; omega)
      obtain ⟨BT, hsort, hlb⟩ : ∃ BT, gSorted [.tuple (js.map natD ++ js2.map natD)] = some (.l BT) ∧ Lt (.tuple BT) := by
        refine ⟨(isort ((js ++ js2).map fun n : Nat => (n : Int))).map .int, ?_, Lt.tup (fun x hx => ?_) ?_⟩
        · rw [← sorted_T, List.map_map, ← List.map_append]
          rfl
        · obtain ⟨n, hn, rfl⟩ := List.mem_map.mp hx
          obtain ⟨m, hm, rfl⟩ := List.mem_map.mp ((isort_perm _).mem_iff.mp hn)
          rcases List.mem_append.mp hm with hm | hm
          · exact fit_nat (hj1000 m hm)
          · exact fit_nat (by have := hj2 m hm; omega)
        · rw [List.length_map, (isort_perm _).length_eq, List.length_map, List.length_append]
          omega
      have hgt : ∀ xs, gTuple [.list xs] = some (.d (.tuple xs)) := fun _ => rfl
      simp [q__law_bent_10, he']
      refine W_seq ?_
      simp [hto2, hadd, hsort, hgt]
      refine SeqK.nx (W_last ?_)
      simp only [q__law_bent_4, x_sSet, x_eBin, W_bind, W_map]
      have hin : ∀ k : Nat, gIn true (.int (k : Int)) (.tuple [.int (at' : Int), .int (to : Int)]) = some (.d (.bool (!decide ((k : Int) ∈ [(at' : Int), (to : Int)])))) := fun k => by
        have := in_ints true (k : Int) [(at' : Int), (to : Int)]
        simpa using this
      refine W_comp (fun k => PyData.tuple [natD k, fD F k]) (fun k => !decide ((k : Int) ∈ [(at' : Int), (to : Int)])) (fD F) (List.range F.length) (ρ' := [pot a b, .d (.list Tl), .d (.list Ql), .d C, .d (.list F), .d (.int (at' : Int)), .d (.int (to : Int)), .d (.int 7), .d (.int (i : Int)), .d (.tuple (js.map natD)), .d (.tuple BT), .u, .u]) (by simp [enum_F]) (fun k hk => ?_) (by simp; omega) ?_
      · simp [hin, natD, -List.mem_cons]
      · simp
        refine W_draw (n := (Tl.length : Int)) rfl ha (by simp) (by omega) (by omega) fun d1 a b h1 h2 ha => ?_
        have hfl := List.length_filter_le (fun k : Nat => !decide ((k : Int) ∈ [(at' : Int), (to : Int)])) (List.range F.length)
        rw [List.length_range] at hfl
        have hadd2 : ∀ (xs : List PyData) d, xs.length ≤ 10 → gAdd (.list xs) (.list [d]) = some (.l (xs ++ [d])) := fun xs d h => addL (by simp; omega)
        generalize hL : List.filter (fun k : Nat => !decide ((k : Int) = (at' : Int)) && !decide ((k : Int) = (to : Int))) (List.range F.length) = L
        have hLs : ∀ k ∈ L, k < F.length := fun k hk => by
          rw [← hL] at hk
          exact List.mem_range.mp (List.mem_filter.mp hk).1
        have hLl : (L.map (fD F)).length ≤ 10 := by
          rw [List.length_map, ← hL]
          exact Nat.le_trans (List.length_filter_le _ _) (by rw [List.length_range]; omega)
        have hLe : ∀ d ∈ L.map (fD F), EL d := fun d h => by
          obtain ⟨k, hk, rfl⟩ := List.mem_map.mp h
          have hk2 := hLs k hk
          have : fD F k = F[k] := by simp [fD, hk2]
          rw [this]
          exact hFe _ (List.getElem_mem hk2)
        have hadd3 := hadd2 (L.map (fD F)) (.tuple [.int d1, .tuple BT]) hLl
        simp [hadd3]
        refine bent_tail ha (G := L.map (fD F) ++ [.tuple [.int d1, .tuple BT]]) (fun d h => ?_) (by rw [List.length_append, List.length_singleton]; omega)
        rcases List.mem_append.mp h with h | h
        · exact hLe d h
        · rw [List.mem_singleton.mp h]
          exact two_el (Lt.int (by omega)) hlb
  | 8, _ =>
    simp [q__law_bent_15, natD]
    refine SeqK.nx (W_seq ?_)
    simp
    refine SeqK.nx (W_seq ?_)
    simp [q__law_bent_14]
    refine W_last ?_
    simp [q__law_bent_13]
    refine W_last ?_
    simp [q__law_bent_12]
    refine W_last ?_
    simp
    refine W_last ?_
    simp [q__law_bent_11]
    refine W_last ?_
    simp [q__law_bent_10]
    refine W_last ?_
    by_cases hl1 : (1 : Int) < (js.length : Int)
    · simp [q__law_bent_9, hl1]
      refine W_last ?_
      have hc1 : DL.cutD (js.map natD) none (some 1) = (js.map natD).take 1 := cut_to (a := 1) (by simp; omega)
      have hadd1 := addL (xs := F.take at') (ys := [.tuple [natD i, .tuple ((js.map natD).take 1)], .tuple [natD i, .tuple ((js.map natD).drop 1)]]) (by simp; omega)
      have hadd2 := addL (xs := F.take at' ++ [.tuple [natD i, .tuple ((js.map natD).take 1)], .tuple [natD i, .tuple ((js.map natD).drop 1)]]) (ys := F.drop (at' + 1)) (by simp; omega)
      have hG : ∀ d ∈ F.take at' ++ [PyData.tuple [natD i, .tuple ((js.map natD).take 1)], .tuple [natD i, .tuple ((js.map natD).drop 1)]] ++ F.drop (at' + 1), EL d := fun d h => by
        rcases List.mem_append.mp h with h | h
        · rcases List.mem_append.mp h with h | h
          · exact htk d h
          · simp only [List.mem_cons, List.not_mem_nil, or_false] at h
            rcases h with rfl | rfl
            · exact two_el li (Lt.tup (fun x hx => fits x (List.mem_of_mem_take hx)) (by rw [List.length_take, List.length_map]; omega))
            · exact two_el li (Lt.tup (fun x hx => fits x (List.mem_of_mem_drop hx)) (by rw [List.length_drop, List.length_map]; omega))
        · exact hdr d h
      have hGl : (F.take at' ++ [PyData.tuple [natD i, .tuple ((js.map natD).take 1)], .tuple [natD i, .tuple ((js.map natD).drop 1)]] ++ F.drop (at' + 1)).length ≤ 30 := by
        rw [List.length_append, List.length_append]
        simp only [List.length_cons, List.length_nil]
        omega
      simp only [natD] at hadd1 hadd2 hG hGl
      simp only [q__law_bent_5, x_sSet, x_eBin, x_eCut, x_oNone, x_oSome, x_eApp, x_aCons, x_aNil, x_eVar, x_eK, W_bind, W_map, W_some, x_obs, x_oms, List.getElem?_cons_succ, List.getElem?_cons_zero, x_data_d, x_data_l, x_intOf, x_gCutL, x_gCutT, List.set_cons_succ, List.set_cons_zero, x_addI, hcutL, hcutR, hc1, cut1, x_gTup, x_gLst, List.length_cons, List.length_nil, hadd1, hadd2, x_sl_l, x_sl_d]
      have g2 : ∀ x y : PyData, DL.gTup [x, y] = some (.d (.tuple [x, y])) := fun x y => x_gTup (by simp)
      have g2l : ∀ x y : PyData, gLst [x, y] = some (.l [x, y]) := fun x y => x_gLst (by simp)
      simp only [g2, g2l, W_some, x_data_d, x_data_l, hadd1, hadd2, x_sl_l]
      exact bent_tail ha hG hGl
    · simp [q__law_bent_9, hl1]
      refine W_last ?_
      simp [q__law_bent_8]
      refine W_last ?_
      simp
      refine W_last ?_
      exact bent_more (at' := at') (to := to) (i := i) (js := js) a b ha 8 hT hQ hFe hFl
  | 9, _ =>
    simp [q__law_bent_15, natD]
    refine SeqK.nx (W_seq ?_)
    simp
    refine SeqK.nx (W_seq ?_)
    simp [q__law_bent_14]
    refine W_last ?_
    simp [q__law_bent_13]
    refine W_last ?_
    simp [q__law_bent_12]
    refine W_last ?_
    simp
    refine W_last ?_
    simp [q__law_bent_11]
    refine W_last ?_
    simp [q__law_bent_10]
    refine W_last ?_
    simp [q__law_bent_9]
    refine W_last ?_
    simp [q__law_bent_8]
    refine W_last ?_
    have hgt : ∀ xs, gTuple [.list xs] = some (.d (.tuple xs)) := fun _ => rfl
    simp only [q__law_bent_6, x_sAsgD, x_eApp, x_aCons, x_eVar, x_aNil, W_bind, W_map, W_some, List.getElem?_cons_succ, List.getElem?_cons_zero, x_data_d]
    refine W_compI (fun k acc ρ => acc.length = k ∧ (∀ x ∈ acc, Fit 0 41 x) ∧ ∃ a b, 0 ≤ a ∧ ρ = [pot a b, .d (.list Tl), .d (.list Ql), .d C, .l F, .d (.int (at' : Int)), .d (.int (to : Int)), .d (.int 9), .d (.int (i : Int)), .d (.tuple (js.map natD)), .u, .u, .u]) (js.map natD) (ρ' := [pot a b, .d (.list Tl), .d (.list Ql), .d C, .l F, .d (.int (at' : Int)), .d (.int (to : Int)), .d (.int 9), .d (.int (i : Int)), .d (.tuple (js.map natD)), .u, .u, .u]) (by simp) ⟨rfl, by simp, a, b, ha, rfl⟩ (fun k d hk acc ρ hI => ?_) (fun acc ρ hI => ?_)
    · obtain ⟨h1, h2, a, b, ha, rfl⟩ := hI
      have hdf := fits d (List.mem_of_getElem? hk)
      have hkl := (List.getElem?_eq_some_iff.mp hk).1
      rw [List.length_map] at hkl
      have hsz : acc.length < sizeLine := by rw [sizeLine_eq]; omega
      simp
      refine W_pick rfl ?_
      simp
      refine ⟨_, .inl rfl, by simp, by simp, a, b, ha, rfl, fun d1 hd1 a b ha => ?_⟩
      refine ⟨hsz, h1, fun x hx => ?_, a, ha, b, rfl⟩
      have hdm : d1 = d ∨ d1 = .bool true ∨ d1 = .none ∨ d1 = .int (Ql.length : Int) := by simpa using hd1
      rcases hx with hx | hx
      · exact h2 x hx
      · have hx' : x = d1 := hx
        rw [hx']
        rcases hdm with rfl | rfl | rfl | rfl
        · exact hdf
        · exact (Fit.bool _).up (by omega) (by omega)
        · exact Fit.none.up (by omega) (by omega)
        · exact Fit.int (by omega)
    · obtain ⟨h1, h2, a, b, ha, rfl⟩ := hI
      simp [hgt, gdIx, hixn]
      refine bent_tail ha (hFs _ (two_el li (Lt.tup (xs := acc) h2 ?_))) (hFsl _)
      rw [h1, List.length_map]
      omega
  | 10, _ =>
    simp [q__law_bent_15, natD]
    refine SeqK.nx (W_seq ?_)
    simp
    refine SeqK.nx (W_seq ?_)
    simp [q__law_bent_14]
    refine W_last ?_
    simp [q__law_bent_13]
    refine W_last ?_
    simp [q__law_bent_12]
    refine W_last ?_
    simp
    refine W_last ?_
    simp [q__law_bent_11]
    refine W_last ?_
    simp [q__law_bent_10]
    refine W_last ?_
    simp [q__law_bent_9]
    refine W_last ?_
    simp [q__law_bent_8]
    refine W_last ?_
    have hgt : ∀ xs, gTuple [.list xs] = some (.d (.tuple xs)) := fun _ => rfl
    simp
    refine W_last ?_
    simp [hgt]
    exact SeqK.ret (bent_end ha (VRep.tup (ds := F.reverse) (fun d h => hFe d (by simpa using h)) (by simp; omega)) (by simp) (by simp [keepP]))
  | 11, _ =>
    simp [q__law_bent_15, natD]
    refine SeqK.nx (W_seq ?_)
    simp
    refine SeqK.nx (W_seq ?_)
    simp [q__law_bent_14]
    refine W_last ?_
    simp [q__law_bent_13]
    refine W_last ?_
    simp [q__law_bent_12]
    refine W_last ?_
    simp
    refine W_last ?_
    simp [q__law_bent_11]
    refine W_last ?_
    simp [q__law_bent_10]
    refine W_last ?_
    simp [q__law_bent_9]
    refine W_last ?_
    simp [q__law_bent_8]
    refine W_last ?_
    simp
    refine W_last ?_
    exact bent_more (at' := at') (to := to) (i := i) (js := js) a b ha 11 hT hQ hFe hFl
end
/-- _law_bent of a cover -/
theorem bent_W {Tl Ql F : List PyData} (a b : Int) (ha : 0 ≤ a) (hT1 : 1 ≤ Tl.length) (hT : Tl.length ≤ 8) (hQ1 : F ≠ [] → 1 ≤ Ql.length) (hQ : Ql.length ≤ 10) (hF : ∀ d ∈ F, Kl Tl.length d) (hFl : F.length ≤ 10) : W (m__law_bent [pot a b, .d (.list Tl), .d (.list Ql), .d (.list F)]) BentP := by
  by_cases h0 : F = []
  · subst h0
    exact bent_none _ _ a b ha
  · have hpos := List.length_pos_iff.mpr h0
    have hFe : ∀ d ∈ F, EL d := fun d hd => kl_el hT (hF d hd)
    have hsh : SeqAt.shaped (.list F) = true := (Fit.list (k := 30) (fun d hd => (hFe d hd).f) (by omega)).shaped (by omega)
    have heq := eq_nil hsh
    have hem : F.isEmpty = false := by cases F <;> simp at h0 ⊢
    rw [hem] at heq
    have hgl : gList [.list F] = some (.l F) := rfl
    refine W_body (W_seq ?_)
    simp [hgl]
    refine SeqK.nx (W_seq ?_)
    simp [heq]
    refine SeqK.nx (W_seq ?_)
    simp only [q__law_bent_16, x_sAsgD, x_eApp, x_aCons, x_aNil, W_bind, W_map]
    refine W_draw (n := (F.length : Int)) rfl ha (by simp) (by omega) (by omega) fun d1 a b g1 g2 ha => ?_
    simp
    refine W_draw (n := (F.length : Int)) rfl ha (by simp) (by omega) (by omega) fun d2 a b g3 g4 ha => ?_
    simp
    refine W_draw (n := 12) rfl ha (by simp) (by omega) (by omega) fun d3 a b g5 g6 ha => ?_
    simp
    obtain ⟨n1, rfl⟩ : ∃ n : Nat, d1 = (n : Int) := ⟨d1.toNat, by omega⟩
    obtain ⟨n2, rfl⟩ : ∃ n : Nat, d2 = (n : Int) := ⟨d2.toNat, by omega⟩
    obtain ⟨n3, rfl⟩ : ∃ n : Nat, d3 = (n : Int) := ⟨d3.toNat, by omega⟩
    obtain ⟨i, js, hd, hi, hj, hjl⟩ := (hF F[n1] (List.getElem_mem (by omega))).ex
    have hat : atI F (n1 : Int) = some (.tuple [natD i, .tuple (js.map natD)]) := by rw [at_map (by omega), hd]
    refine SeqK.nx (W_seq ?_)
    simp [hat]
    refine SeqK.nx ?_
    exact bent_ways (C := .list F) (at' := n1) (to := n2) a b ha n3 (by omega) hT1 hT (hQ1 h0) hQ hF hFl (by omega) (by omega) hd hi hj hjl
end K9
end PK90ZJ
section PK90ZK
set_option maxHeartbeats 2000000
open PySem PySem.Spec PyProof.Rows L2 DL
namespace K9
/-! six to ten passages, alike or one behind another: plain law -/
theorem least_is {f : Nat → Option Int} {n : Nat} {o : Option Int} (h : LeastL f (pts n) o) {x : Int} (hget : ∃ L, Part (2 ^ n - 1) L ∧ sumO (L.map f) = some x) (hlow : ∀ L y, Part (2 ^ n - 1) L → sumO (L.map f) = some y → x ≤ y) : o = some x := by
  obtain ⟨L, h1, h2⟩ := hget
  obtain ⟨L', h3, h4⟩ := pts_all _ L h1
  rw [sumO_perm (h4.map _)] at h2
  obtain ⟨z, h5, h6⟩ := h.low L' h3 x h2
  obtain ⟨L2, h7, h8⟩ := h.get z h5
  have := hlow L2 z (pts_sound _ L2 h7) h8
  rw [h5]
  congr 1
  omega
def ln (q : Nat) : Nat := (plc q).length
theorem flat_ln : ∀ L : List Nat, (L.flatMap plc).length = (L.map ln).sum
  | [] => rfl
  | q :: L => by rw [List.flatMap_cons, List.length_append, flat_ln L]; rfl
theorem part_ln {n : Nat} (hn : n ≤ 10) {L : List Nat} (h : Part (2 ^ n - 1) L) : (L.map ln).sum = n ∧ ∀ q ∈ L, 0 < q ∧ q < 2 ^ n ∧ 1 ≤ ln q := by
  refine ⟨?_, fun q hq => ?_⟩
  · rw [← flat_ln, h.flat.length_eq, plc_full (by omega), List.length_range]
  · have h1 := h.sub q hq
    have h2 := sub_full.mp h1.2
    exact ⟨h1.1, h2, List.length_pos_iff.mpr (plc_ne h1.1 (pow20 h2 (by omega)))⟩
theorem ln_pow {m : Nat} (h : m < 20) : ln (2 ^ m) = 1 := by unfold ln; rw [plc_pow h]; rfl
theorem ln_two {m : Nat} (h : m + 1 < 20) : ln (2 ^ m + 2 ^ (m + 1)) = 2 := by
  unfold ln
  rw [plc_put (Nat.pow_lt_pow_right (by omega) (by omega)) h, plc_pow (by omega)]
  rfl
theorem part_up1 {m : Nat} {L : List Nat} (h : Part (2 ^ m - 1) L) : Part (2 ^ (m + 1) - 1) (2 ^ m :: L) := by
  have h2 := Nat.two_pow_pos m
  have h3 := pow_succ2 m
  refine .cons h2 (sub_full.mpr (by omega)) ?_
  have : 2 ^ (m + 1) - 1 - 2 ^ m = 2 ^ m - 1 := by omega
  rw [this]
  exact h
theorem part_up2 {m : Nat} {L : List Nat} (h : Part (2 ^ m - 1) L) : Part (2 ^ (m + 2) - 1) ((2 ^ m + 2 ^ (m + 1)) :: L) := by
  have h2 := Nat.two_pow_pos m
  have h3 := pow_succ2 m
  have h4 := pow_succ2 (m + 1)
  refine .cons (by omega) (sub_full.mpr (by show _ < 2 ^ (m + 1 + 1); omega)) ?_
  have : 2 ^ (m + 2) - 1 - (2 ^ m + 2 ^ (m + 1)) = 2 ^ m - 1 := by
    show 2 ^ (m + 1 + 1) - 1 - (2 ^ m + 2 ^ (m + 1)) = 2 ^ m - 1
    omega
  rw [this]
  exact h
/-! alike -/
theorem alike_low {f : Nat → Option Int} {s1 s2 : Int} : ∀ (L : List Nat) (y : Int), (∀ q ∈ L, 1 ≤ ln q) → (∀ q ∈ L, (ln q = 1 → f q = some s1) ∧ (ln q = 2 → f q = some s2) ∧ (3 ≤ ln q → f q = none)) → sumO (L.map f) = some y → ∃ c1 c2 : Nat, c1 + 2 * c2 = (L.map ln).sum ∧ y = s1 * c1 + s2 * c2
  | [], y, _, _, h => by
    cases h
    exact ⟨0, 0, rfl, by simp⟩
  | q :: L, y, h1, hf, h => by
    obtain ⟨f1, f2, f3⟩ := hf q List.mem_cons_self
    have hq := h1 q List.mem_cons_self
    rw [List.map_cons] at h
    cases hfq : f q with
    | none => rw [hfq] at h; cases h
    | some v =>
      rw [hfq] at h
      simp only [sumO] at h
      cases hs : sumO (L.map f) with
      | none => rw [hs] at h; cases h
      | some z =>
        rw [hs] at h
        simp only [Option.map_some, Option.some.injEq] at h
        subst h
        obtain ⟨c1, c2, e1, e2⟩ := alike_low L z (fun q hq => h1 q (List.mem_cons_of_mem _ hq)) (fun q hq => hf q (List.mem_cons_of_mem _ hq)) hs
        rw [List.map_cons, List.sum_cons]
        by_cases k1 : ln q = 1
        · have := f1 k1
          rw [hfq] at this
          cases this
          refine ⟨c1 + 1, c2, by omega, ?_⟩
          rw [e2]
          have : ((c1 + 1 : Nat) : Int) = (c1 : Int) + 1 := by omega
          rw [this, Int.mul_add]
          omega
        · by_cases k2 : ln q = 2
          · have := f2 k2
            rw [hfq] at this
            cases this
            refine ⟨c1, c2 + 1, by omega, ?_⟩
            rw [e2]
            have : ((c2 + 1 : Nat) : Int) = (c2 : Int) + 1 := by omega
            rw [this, Int.mul_add]
            omega
          · have := f3 (by omega)
            rw [hfq] at this
            cases this
theorem alike_get {f : Nat → Option Int} {s1 s2 : Int} {n : Nat} (h1 : ∀ m, m < n → f (2 ^ m) = some s1) (h2 : ∀ m, m + 1 < n → f (2 ^ m + 2 ^ (m + 1)) = some s2) : ∀ c1 c2 : Nat, c1 + 2 * c2 ≤ n → ∃ L, Part (2 ^ (c1 + 2 * c2) - 1) L ∧ sumO (L.map f) = some (s1 * c1 + s2 * c2) := by
  intro c1
  induction c1 with
  | zero =>
    intro c2
    induction c2 with
    | zero => intro _; exact ⟨[], .nil, by simp [sumO]⟩
    | succ c2 ih =>
      intro h
      obtain ⟨L, a, b⟩ := ih (by omega)
      refine ⟨_, (by have := part_up2 a; rwa [show 0 + 2 * c2 + 2 = 0 + 2 * (c2 + 1) by omega] at this), ?_⟩
      rw [List.map_cons, h2 _ (by omega), sumO, b, Option.map_some]
      congr 1
      have : ((c2 + 1 : Nat) : Int) = (c2 : Int) + 1 := by omega
      rw [this, Int.mul_add]
      omega
  | succ c1 ih =>
    intro c2 h
    obtain ⟨L, a, b⟩ := ih c2 (by omega)
    refine ⟨_, (by have := part_up1 a; rwa [show c1 + 2 * c2 + 1 = c1 + 1 + 2 * c2 by omega] at this), ?_⟩
    rw [List.map_cons, h1 _ (by omega), sumO, b, Option.map_some]
    congr 1
    have : ((c1 + 1 : Nat) : Int) = (c1 : Int) + 1 := by omega
    rw [this, Int.mul_add]
    omega
def dueA (s1 s2 : Int) (n : Nat) : List Int := (List.range (n / 2 + 1)).map fun p : Nat => s1 * ((n : Int) - 2 * (p : Int)) + s2 * (p : Int)
theorem alike_is {f : Nat → Option Int} {s1 s2 : Int} {n : Nat} (hn : n ≤ 10) {o : Option Int} (h : LeastL f (pts n) o) (hf : ∀ q, 0 < q → q < 2 ^ n → (ln q = 1 → f q = some s1) ∧ (ln q = 2 → f q = some s2) ∧ (3 ≤ ln q → f q = none)) {v : Int} {vs : List Int} (hd : dueA s1 s2 n = v :: vs) : o = some (minI v vs) := by
  have hm := minI_mem v vs
  have hle := minI_le v vs
  rw [← hd] at hm
  refine least_is h ?_ ?_
  · obtain ⟨p, hp, e⟩ := List.mem_map.mp hm
    rw [List.mem_range] at hp
    have := alike_get (f := f) (s1 := s1) (s2 := s2) (n := n) (fun m hm => (hf _ (Nat.two_pow_pos m) (Nat.pow_lt_pow_right (by omega) hm)).1 (ln_pow (by omega))) (fun m hm => by
      have e1 := Nat.two_pow_pos m
      have e2 := pow_succ2 m
      have e3 := pow_succ2 (m + 1)
      have e4 : 2 ^ (m + 1 + 1) ≤ 2 ^ n := Nat.pow_le_pow_right (by omega) (by omega)
      exact (hf _ (by omega) (by omega)).2.1 (ln_two (by omega))) (n - 2 * p) p (by omega)
    rw [show n - 2 * p + 2 * p = n by omega] at this
    obtain ⟨L, a, b⟩ := this
    refine ⟨L, a, ?_⟩
    rw [b, ← e]
    have : ((n - 2 * p : Nat) : Int) = (n : Int) - 2 * (p : Int) := by omega
    rw [this]
  · intro L y hL hy
    obtain ⟨h1, h2⟩ := part_ln hn hL
    obtain ⟨c1, c2, e1, e2⟩ := alike_low L y (fun q hq => (h2 q hq).2.2) (fun q hq => hf q (h2 q hq).1 (h2 q hq).2.1) hy
    rw [h1] at e1
    have hin : y ∈ v :: vs := by
      rw [← hd]
      refine List.mem_map.mpr ⟨c2, List.mem_range.mpr (by omega), ?_⟩
      rw [e2]
      have : (n : Int) - 2 * (c2 : Int) = (c1 : Int) := by omega
      rw [this]
    rcases List.mem_cons.mp hin with rfl | hin
    · exact hle.1
    · exact hle.2 y hin
/-! behind -/
theorem behind_low {f : Nat → Option Int} {s day : Int} (h0 : 0 ≤ s) (h1 : 0 ≤ day) : ∀ (L : List Nat) (y : Int), (∀ q ∈ L, 1 ≤ ln q) → (∀ q ∈ L, (ln q = 1 → f q = some s) ∧ (2 ≤ ln q → f q = some day)) → sumO (L.map f) = some y → 0 ≤ y ∧ ((y = s * ((L.map ln).sum : Nat)) ∨ day ≤ y)
  | [], y, _, _, h => by
    cases h
    exact ⟨by omega, .inl (by simp)⟩
  | q :: L, y, g1, hf, h => by
    obtain ⟨f1, f2⟩ := hf q List.mem_cons_self
    have hq := g1 q List.mem_cons_self
    rw [List.map_cons] at h
    cases hfq : f q with
    | none => rw [hfq] at h; cases h
    | some v =>
      rw [hfq] at h
      simp only [sumO] at h
      cases hs : sumO (L.map f) with
      | none => rw [hs] at h; cases h
      | some z =>
        rw [hs] at h
        simp only [Option.map_some, Option.some.injEq] at h
        subst h
        obtain ⟨e0, e1⟩ := behind_low h0 h1 L z (fun q hq => g1 q (List.mem_cons_of_mem _ hq)) (fun q hq => hf q (List.mem_cons_of_mem _ hq)) hs
        by_cases k1 : ln q = 1
        · have := f1 k1
          rw [hfq] at this
          cases this
          refine ⟨by omega, ?_⟩
          rcases e1 with e1 | e1
          · left
            rw [List.map_cons, List.sum_cons, k1, e1]
            have : ((1 + (L.map ln).sum : Nat) : Int) = 1 + ((L.map ln).sum : Nat) := by omega
            rw [this, Int.mul_add]
            omega
          · right; omega
        · have := f2 (by omega)
          rw [hfq] at this
          cases this
          exact ⟨by omega, .inr (by omega)⟩
theorem singles_get {f : Nat → Option Int} {s : Int} {n : Nat} (h1 : ∀ m, m < n → f (2 ^ m) = some s) : ∀ c : Nat, c ≤ n → ∃ L, Part (2 ^ c - 1) L ∧ sumO (L.map f) = some (s * c)
  | 0, _ => ⟨[], .nil, by simp [sumO]⟩
  | c + 1, h => by
    obtain ⟨L, a, b⟩ := singles_get h1 c (by omega)
    refine ⟨_, part_up1 a, ?_⟩
    rw [List.map_cons, h1 _ (by omega), sumO, b, Option.map_some]
    congr 1
    have : ((c + 1 : Nat) : Int) = (c : Int) + 1 := by omega
    rw [this, Int.mul_add]
    omega
theorem behind_is {f : Nat → Option Int} {m day : Int} {n : Nat} (hn : n ≤ 10) (hn2 : 2 ≤ n) (hm : 0 ≤ m) (hday : 0 ≤ day) {o : Option Int} (h : LeastL f (pts n) o) (hf : ∀ q, 0 < q → q < 2 ^ n → (ln q = 1 → f q = some (if day < m then day else m)) ∧ (2 ≤ ln q → f q = some day)) : o = some (if day < m * n then day else m * n) := by
  have hmn : m * 1 ≤ m * (n : Int) := Int.mul_le_mul_of_nonneg_left (by omega) hm
  have hdn : day * 1 ≤ day * (n : Int) := Int.mul_le_mul_of_nonneg_left (by omega) hday
  have h2 := Nat.two_pow_pos n
  refine least_is h ?_ ?_
  · by_cases hc : day < m * n
    · rw [if_pos hc]
      have h4 : 2 ^ 2 ≤ 2 ^ n := Nat.pow_le_pow_right (by omega) hn2
      refine ⟨[2 ^ n - 1], .cons (by omega) (sub_full.mpr (by omega)) (by rw [Nat.sub_self]; exact .nil), ?_⟩
      have hl : ln (2 ^ n - 1) = n := by unfold ln; rw [plc_full (by omega), List.length_range]
      have := (hf (2 ^ n - 1) (by omega) (by omega)).2 (by omega)
      simp [this, sumO]
    · rw [if_neg hc]
      have hs : (if day < m then day else m) = m := if_neg (by omega)
      have := singles_get (f := f) (s := m) (n := n) (fun k hk => by
        rw [← hs]
        exact (hf _ (Nat.two_pow_pos k) (Nat.pow_lt_pow_right (by omega) hk)).1 (ln_pow (by omega))) n (Nat.le_refl _)
      exact this
  · intro L y hL hy
    obtain ⟨h1, h2⟩ := part_ln hn hL
    obtain ⟨e0, e1⟩ := behind_low (s := if day < m then day else m) (day := day) (by split <;> omega) hday L y (fun q hq => (h2 q hq).2.2) (fun q hq => hf q (h2 q hq).1 (h2 q hq).2.1) hy
    rw [h1] at e1
    rcases e1 with e1 | e1
    · rw [e1]
      split <;> split <;> omega
    · split <;> omega
end K9
end PK90ZK
section PK90ZL
set_option maxHeartbeats 2000000
open PySem PySem.Spec PyProof.Rows L2 DL
namespace K9
/-! the prices of great's lots -/
def gts (one two day : Int) : List Tk := [⟨one, 9, [1], 1⟩, ⟨two, 9, [1], 2⟩, ⟨day, 1440, [1], 1⟩]
def p5 : Pg := ⟨5, 25, [1]⟩
def alikeP (n : Nat) : List Pg := List.replicate n p5
def pgB (j : Nat) : Pg := ⟨30 * (j : Int), 30 * (j : Int) + 20, [1]⟩
def behindP (n : Nat) : List Pg := (List.range n).map pgB
theorem zOk1 : zOk [1] := by decide
theorem gts_ok {one two day : Int} (h1 : 1 ≤ one ∧ one ≤ 9999) (h2 : 1 ≤ two ∧ two ≤ 9999) (h3 : 1 ≤ day ∧ day ≤ 9999) : ∀ t ∈ gts one two day, t.ok := fun t ht => by
  simp only [gts, List.mem_cons, List.not_mem_nil, or_false] at ht
  rcases ht with rfl | rfl | rfl
  · exact ⟨h1, (by simp), zOk1, (by simp)⟩
  · exact ⟨h2, (by simp), zOk1, (by simp)⟩
  · exact ⟨h3, (by simp), zOk1, (by simp)⟩
theorem alike_ok (n : Nat) : ∀ p ∈ alikeP n, p.ok := fun p hp => by
  have := List.eq_of_mem_replicate hp
  subst this
  exact ⟨by decide, by decide, by decide, zOk1⟩
theorem behind_ok {n : Nat} (h : n ≤ 10) : ∀ p ∈ behindP n, p.ok := fun p hp => by
  obtain ⟨j, hj, rfl⟩ := List.mem_map.mp hp
  rw [List.mem_range] at hj
  refine ⟨?_, ?_, ?_, zOk1⟩
  · show 0 ≤ 30 * (j : Int)
    omega
  · show 30 * (j : Int) < 30 * (j : Int) + 20
    omega
  · show 30 * (j : Int) + 20 ≤ 9999
    omega
theorem pks_alike (n : Nat) : ∀ js : List Nat, (∀ j ∈ js, j < n) → pks (alikeP n) js = alikeP js.length
  | [], _ => rfl
  | j :: js, h => by
    have h1 := h j List.mem_cons_self
    have h2 := pks_alike n js fun i hi => h i (List.mem_cons_of_mem _ hi)
    have e : (alikeP n)[j]? = some p5 := by simp [alikeP, h1]
    unfold pks at h2 ⊢
    rw [List.filterMap_cons, e]
    simp only [h2]
    rfl
theorem pks_behind (n : Nat) : ∀ js : List Nat, (∀ j ∈ js, j < n) → pks (behindP n) js = js.map pgB
  | [], _ => rfl
  | j :: js, h => by
    have h1 := h j List.mem_cons_self
    have h2 := pks_behind n js fun i hi => h i (List.mem_cons_of_mem _ hi)
    have e : (behindP n)[j]? = some (pgB j) := by simp [behindP, h1]
    unfold pks at h2 ⊢
    rw [List.filterMap_cons, e]
    simp only [h2]
    rfl
theorem minB_le (ps : List Pg) : ∀ p ∈ ps, minB ps ≤ p.b := fun p hp => by
  cases ps with
  | nil => cases hp
  | cons q ps =>
    have := minI_le q.b (ps.map Pg.b)
    rcases List.mem_cons.mp hp with rfl | hp
    · exact this.1
    · exact this.2 _ (List.mem_map.mpr ⟨p, hp, rfl⟩)
theorem minB_mem (ps : List Pg) (h : ps ≠ []) : ∃ p ∈ ps, minB ps = p.b := by
  cases ps with
  | nil => exact absurd rfl h
  | cons q ps =>
    have := minI_mem q.b (ps.map Pg.b)
    rcases List.mem_cons.mp this with e | e
    · exact ⟨q, List.mem_cons_self, e⟩
    · obtain ⟨p, hp, e⟩ := List.mem_map.mp e
      exact ⟨p, List.mem_cons_of_mem _ hp, e.symm⟩
theorem covB_iff (t : Tk) (ps : List Pg) : covB t ps = true ↔ ∀ p ∈ ps, (p.b - minB ps < t.minutes ∧ inZ t p = true) ∧ cnt ps p.b ≤ t.persons := by
  unfold covB
  rw [Bool.and_eq_true, List.all_eq_true, List.all_eq_true]
  simp only [okAt, Bool.and_eq_true, Bool.not_eq_true', decide_eq_true_eq, decide_eq_false_iff_not, Int.not_le]
  exact ⟨fun h p hp => ⟨h.1 p hp, h.2 p hp⟩, fun h => ⟨fun p hp => (h p hp).1, fun p hp => (h p hp).2⟩⟩
theorem cov_alike {t : Tk} (hz : t.zones = [1]) (hm : 1 ≤ t.minutes) {k : Nat} (hk : 1 ≤ k) : covB t (alikeP k) = decide ((k : Int) ≤ t.persons) := by
  rw [Bool.eq_iff_iff, covB_iff, decide_eq_true_eq]
  have hne : alikeP k ≠ [] := by
    intro e
    have := congrArg List.length e
    simp [alikeP] at this
    omega
  have hmem : ∀ p ∈ alikeP k, p = p5 := fun p hp => List.eq_of_mem_replicate hp
  have hmin : minB (alikeP k) = 5 := by
    obtain ⟨p, hp, e⟩ := minB_mem _ hne
    rw [e, hmem p hp]
    rfl
  have hcnt : cnt (alikeP k) 5 = k := by
    unfold cnt
    rw [List.filter_eq_self.mpr fun p hp => by rw [hmem p hp]; rfl]
    simp [alikeP]
  have hin : inZ t p5 = true := by simp [inZ, p5, hz]
  constructor
  · intro h
    obtain ⟨p, hp⟩ := List.exists_mem_of_ne_nil _ hne
    have := (h p hp).2
    rw [hmem p hp] at this
    have e : cnt (alikeP k) p5.b = k := hcnt
    omega
  · intro h p hp
    rw [hmem p hp]
    have e : cnt (alikeP k) p5.b = k := hcnt
    have e2 : p5.b = 5 := rfl
    rw [e, hmin, e2]
    exact ⟨⟨by omega, hin⟩, h⟩
theorem sgl_alike (one two day : Int) {k : Nat} (hk : 1 ≤ k) : (k = 1 → sgl (gts one two day) (alikeP k) = some (minI one [two, day])) ∧ (k = 2 → sgl (gts one two day) (alikeP k) = some two) ∧ (3 ≤ k → sgl (gts one two day) (alikeP k) = none) := by
  have c1 := cov_alike (t := ⟨one, 9, [1], 1⟩) rfl (by simp) hk
  have c2 := cov_alike (t := ⟨two, 9, [1], 2⟩) rfl (by simp) hk
  have c3 := cov_alike (t := ⟨day, 1440, [1], 1⟩) rfl (by simp) hk
  simp only at c1 c2 c3
  have e : sgl (gts one two day) (alikeP k) = minO ((List.filter (fun t => covB t (alikeP k)) [⟨one, 9, [1], 1⟩, ⟨two, 9, [1], 2⟩, ⟨day, 1440, [1], 1⟩]).map Tk.price) := rfl
  rw [e]
  refine ⟨fun h => ?_, fun h => ?_, fun h => ?_⟩
  · subst h
    simp only [List.filter_cons, c1, c2, c3, List.filter_nil]
    rfl
  · subst h
    simp only [List.filter_cons, c1, c2, c3, List.filter_nil]
    rfl
  · have d1 : decide ((k : Int) ≤ 1) = false := decide_eq_false (by omega)
    have d2 : decide ((k : Int) ≤ 2) = false := decide_eq_false (by omega)
    simp only [List.filter_cons, c1, c2, c3, List.filter_nil, d1, d2]
    rfl
theorem cnt_behind (js : List Nat) (hs : js.Pairwise (· < ·)) (j : Nat) : cnt (js.map pgB) (30 * (j : Int)) ≤ 1 := by
  unfold cnt
  have hp : (js.filter fun i => at' (pgB i) (30 * (j : Int))).Pairwise (· < ·) := hs.filter _
  have hall : ∀ i ∈ js.filter fun i => at' (pgB i) (30 * (j : Int)), i = j := fun i hi => by
    have := (List.mem_filter.mp hi).2
    simp only [at', Bool.and_eq_true, decide_eq_true_eq] at this
    have e1 : 30 * (i : Int) ≤ 30 * (j : Int) := this.1
    have e2 : 30 * (j : Int) < 30 * (i : Int) + 20 := this.2
    omega
  rw [List.filter_map, List.length_map]
  show ((js.filter fun i => at' (pgB i) (30 * (j : Int))).length : Int) ≤ 1
  generalize js.filter (fun i => at' (pgB i) (30 * (j : Int))) = xs at hp hall
  match xs, hp, hall with
  | [], _, _ => simp
  | [_], _, _ => simp
  | a :: b :: r, hp, hall =>
    have h1 := hall a (by simp)
    have h2 := hall b (by simp)
    have h3 := (List.pairwise_cons.mp hp).1 b (by simp)
    omega
theorem sgl_behind (one two day : Int) {js : List Nat} (hs : js.Pairwise (· < ·)) (hj : ∀ j ∈ js, j < 10) (hne : js ≠ []) : (js.length = 1 → sgl (gts one two day) (js.map pgB) = some (minI one [two, day])) ∧ (2 ≤ js.length → sgl (gts one two day) (js.map pgB) = some day) := by
  have e : sgl (gts one two day) (js.map pgB) = minO ((List.filter (fun t => covB t (js.map pgB)) [⟨one, 9, [1], 1⟩, ⟨two, 9, [1], 2⟩, ⟨day, 1440, [1], 1⟩]).map Tk.price) := rfl
  rw [e]
  have hne2 : js.map pgB ≠ [] := by simpa using hne
  have inz : ∀ (t : Tk) (j : Nat), t.zones = [1] → inZ t (pgB j) = true := fun t j h => by simp [inZ, pgB, h]
  have c3 : covB ⟨day, 1440, [1], 1⟩ (js.map pgB) = true := by
    rw [covB_iff]
    intro p hp
    obtain ⟨j, hj1, rfl⟩ := List.mem_map.mp hp
    obtain ⟨q, hq, e⟩ := minB_mem _ hne2
    obtain ⟨i, hi, rfl⟩ := List.mem_map.mp hq
    have hj2 := hj j hj1
    refine ⟨⟨?_, inz _ _ rfl⟩, cnt_behind js hs j⟩
    rw [e]
    show 30 * (j : Int) - 30 * (i : Int) < 1440
    omega
  constructor
  · intro h
    match js, h with
    | [j], _ =>
      have c : ∀ t : Tk, t.ok → t.zones = [1] → covB t ([j].map pgB) = true := fun t ht h => by
        show covB t [pgB j] = true
        rw [cov_one ht]
        exact inz t j h
      have g1 : covB ⟨one, 9, [1], 1⟩ ([j].map pgB) = true := by
        rw [covB_iff]
        intro p hp
        obtain ⟨j', hj1, rfl⟩ := List.mem_map.mp hp
        have : j' = j := by simpa using hj1
        subst this
        refine ⟨⟨?_, inz _ _ rfl⟩, cnt_behind _ hs _⟩
        show (pgB j').b - (pgB j').b < 9
        omega
      have g2 : covB ⟨two, 9, [1], 2⟩ ([j].map pgB) = true := by
        rw [covB_iff]
        intro p hp
        obtain ⟨j', hj1, rfl⟩ := List.mem_map.mp hp
        have : j' = j := by simpa using hj1
        subst this
        refine ⟨⟨?_, inz _ _ rfl⟩, Int.le_trans (cnt_behind _ hs _) (by simp)⟩
        show (pgB j').b - (pgB j').b < 9
        omega
      simp only [List.filter_cons, g1, g2, c3, List.filter_nil]
      rfl
  · intro h
    have far : ∀ t : Tk, t.minutes = 9 → covB t (js.map pgB) = false := fun t ht => by
      cases hc : covB t (js.map pgB) with
      | false => rfl
      | true =>
        rw [covB_iff] at hc
        match js, h, hs with
        | a :: b :: r, _, hs =>
          have hab := (List.pairwise_cons.mp hs).1 b (by simp)
          have h1 := (hc (pgB b) (by simp)).1.1
          have h2 := minB_le ((a :: b :: r).map pgB) (pgB a) (by simp)
          rw [ht] at h1
          have e1 : (pgB a).b = 30 * (a : Int) := rfl
          have e2 : (pgB b).b = 30 * (b : Int) := rfl
          omega
    have g1 := far ⟨one, 9, [1], 1⟩ rfl
    have g2 := far ⟨two, 9, [1], 2⟩ rfl
    simp only [List.filter_cons, g1, g2, c3, List.filter_nil]
    rfl
theorem plc_lt {q n : Nat} (h : q < 2 ^ n) (hn : n ≤ 10) : ∀ j ∈ plc q, j < n := fun j hj => bit_lt h ((plc_mem (pow20 h (by omega))).mp hj)
theorem sg_alike (one two day : Int) {n : Nat} (hn : n ≤ 10) : ∀ q, 0 < q → q < 2 ^ n → (ln q = 1 → sg (gts one two day) (alikeP n) q = some (minI one [two, day])) ∧ (ln q = 2 → sg (gts one two day) (alikeP n) q = some two) ∧ (3 ≤ ln q → sg (gts one two day) (alikeP n) q = none) := fun q h0 h => by
  unfold sg
  rw [pks_alike n _ (plc_lt h hn)]
  exact sgl_alike one two day (List.length_pos_iff.mpr (plc_ne h0 (pow20 h (by omega))))
theorem sg_behind (one two day : Int) {n : Nat} (hn : n ≤ 10) : ∀ q, 0 < q → q < 2 ^ n → (ln q = 1 → sg (gts one two day) (behindP n) q = some (minI one [two, day])) ∧ (2 ≤ ln q → sg (gts one two day) (behindP n) q = some day) := fun q h0 h => by
  unfold sg
  rw [pks_behind n _ (plc_lt h hn)]
  exact sgl_behind one two day (plc_sorted q) (fun j hj => by have := plc_lt h hn j hj; omega) (plc_ne h0 (pow20 h (by omega)))
theorem gts_Ok {one two day : Int} (h1 : 1 ≤ one ∧ one ≤ 9999) (h2 : 1 ≤ two ∧ two ≤ 9999) (h3 : 1 ≤ day ∧ day ≤ 9999) {ps : List Pg} (hp : ∀ p ∈ ps, p.ok) (hl : ps.length ≤ 10) : Ok (gts one two day) ps := ⟨gts_ok h1 h2 h3, hp, by simp [gts], by simp [gts], hl⟩
end K9
end PK90ZL
section PK90ZM
set_option maxHeartbeats 2000000
open PySem PySem.Spec PyProof.Rows L2 DL
namespace K9
/-! summaries -/
section
variable {ts : List Tk} {ps : List Pg} {o : Option Int}
theorem cheapest_is (ok : Ok ts ps) (h : LeastL (sg ts ps) (pts ps.length) o) {v u : PyData} (hv : SeqOf (ts.map Tk.d) v) (hu : SeqOf (ps.map Pg.d) u) : m_cheapest [.d v, .d u] = some (.d (optD o), [.u, .u]) := by
  obtain ⟨rs, D, e⟩ := cheapest_v ok hv hu
  rw [e, D.least.eq h]
theorem cover_is (ok : Ok ts ps) (h : LeastL (sg ts ps) (pts ps.length) o) : (o = none ∧ m_cheapest_cover [.d (.list (ts.map Tk.d)), .d (.list (ps.map Pg.d))] = some (.d .none, [.u, .u])) ∨ ∃ C bs, o = some C ∧ CoverOk ts ps C bs ∧ m_cheapest_cover [.d (.list (ts.map Tk.d)), .d (.list (ps.map Pg.d))] = some (.l (bs.map Buy.d), [.u, .u]) := by
  obtain ⟨rs, D, e⟩ := cheapest_cover_v ok .l .l
  rw [D.least.eq h] at e
  exact e
theorem part_short {n : Nat} (hn : n ≤ 10) {L : List Nat} (h : Part (2 ^ n - 1) L) : L.length ≤ n := by
  obtain ⟨h1, h2⟩ := part_ln hn h
  rw [← h1]
  have : ∀ L : List Nat, (∀ q ∈ L, 1 ≤ ln q) → L.length ≤ (L.map ln).sum := fun L => by
    induction L with
    | nil => simp
    | cons q L ih =>
      intro h
      have a := h q List.mem_cons_self
      have b := ih fun x hx => h x (List.mem_cons_of_mem _ hx)
      rw [List.map_cons, List.sum_cons, List.length_cons]
      omega
  exact this L fun q hq => (h2 q hq).2.2
theorem cover_len (ok : Ok ts ps) {C : Int} {bs : List Buy} (h : CoverOk ts ps C bs) : bs.length ≤ ps.length := by
  have := part_short ok.p10 h.2.1
  simpa using this
theorem cover_kl (ok : Ok ts ps) {C : Int} {bs : List Buy} (h : CoverOk ts ps C bs) : ∀ d ∈ bs.map Buy.d, Kl ts.length d := fun d hd => by
  obtain ⟨b, hb, rfl⟩ := List.mem_map.mp hd
  have hn := ok.p10
  have hq := h.2.1.sub b.q (List.mem_map.mpr ⟨b, hb, rfl⟩)
  have hlt := sub_full.mp hq.2
  refine ⟨b.i, plc b.q, rfl, (List.getElem?_eq_some_iff.mp (h.1 b hb).t).1, fun j hj => by have := plc_lt hlt hn j hj; omega, ?_⟩
  rw [← plk_eq hlt (by omega)]
  exact Nat.le_trans (plk_len _ _) hn
theorem cost_le : ∀ {bs : List Buy}, (∀ b ∈ bs, 1 ≤ b.t.price ∧ b.t.price ≤ 9999) → 0 ≤ cost bs ∧ cost bs ≤ 9999 * bs.length
  | [], _ => by simp [cost]
  | b :: bs, h => by
    have h1 := h b List.mem_cons_self
    obtain ⟨h2, h3⟩ := cost_le fun x hx => h x (List.mem_cons_of_mem _ hx)
    have : cost (b :: bs) = b.t.price + cost bs := by simp [cost]
    rw [this, List.length_cons]
    omega
theorem cover_cost (ok : Ok ts ps) {C : Int} {bs : List Buy} (h : CoverOk ts ps C bs) : 0 ≤ C ∧ C ≤ 99990 := by
  have h1 := cost_le (bs := bs) fun b hb => (ok.tok b.t (List.mem_of_getElem? (h.1 b hb).t)).p
  have h2 := cover_len ok h
  have h3 := ok.p10
  rw [h.2.2.1] at h1
  omega
theorem due_fit (ok : Ok ts ps) (h : LeastL (sg ts ps) (pts ps.length) o) : Fit 0 41 (optD o) := by
  rcases cover_is ok h with ⟨rfl, _⟩ | ⟨C, bs, rfl, hc, _⟩
  · exact Fit.none.up (by omega) (by omega)
  · have := cover_cost ok hc
    exact Fit.int (by omega)
/-- what is paid -/
theorem paid (ok : Ok ts ps) {C : Int} {bs : List Buy} (h : CoverOk ts ps C bs) : gSum [.list (bs.map fun b => PyData.int b.t.price)] = some (.d (.int C)) := by
  have := x_sum (bs.map fun b => b.t.price)
  rw [List.map_map] at this
  refine this.trans ?_
  rw [← h.2.2.1]
  rfl
theorem cut_last {xs : List PyData} : DL.cutD xs none (some (-1)) = xs.take (xs.length - 1) := by
  unfold DL.cutD
  have h1 : HT.sIx xs.length 0 none = 0 := rfl
  have h2 : HT.sIx xs.length xs.length (some (-1)) = xs.length - 1 := by
    unfold HT.sIx
    simp
    omega
  rw [h1, h2]
  simp
theorem flat_cover (ok : Ok ts ps) {C : Int} {bs : List Buy} (h : CoverOk ts ps C bs) : ((bs.map Buy.d).flatMap plsOf).length = ps.length := by
  obtain ⟨h1, h2⟩ := part_ln ok.p10 h.2.1
  rw [flatMap_map']
  have : (fun b : Buy => plsOf b.d) = fun b => (plc b.q).map fun n : Nat => (n : Int) := by
    funext b
    exact plsOf_nat _ _
  rw [this, flat_nat, List.length_map, ← h1, ← flat_ln, flatMap_map']
/-- all but the last one -/
theorem short_cover (ok : Ok ts ps) (hn : 1 ≤ ps.length) {C : Int} {bs : List Buy} (h : CoverOk ts ps C bs) : covrB ts ps (.list ((bs.map Buy.d).take ((bs.map Buy.d).length - 1))) = false := by
  refine cover_short ?_
  have h1 := flat_cover ok h
  obtain ⟨_, h2⟩ := part_ln ok.p10 h.2.1
  rcases List.eq_nil_or_concat bs with rfl | ⟨cs, b, rfl⟩
  · simp at h1
    omega
  · have e : ((cs.concat b).map Buy.d) = cs.map Buy.d ++ [b.d] := by simp
    rw [e] at h1 ⊢
    have e2 : (cs.map Buy.d ++ [b.d]).take ((cs.map Buy.d ++ [b.d]).length - 1) = cs.map Buy.d := by simp
    rw [e2]
    rw [List.flatMap_append, List.length_append] at h1
    have h3 := (h2 b.q (by simp)).2.2
    have h4 : ([b.d].flatMap plsOf).length = ln b.q := by
      have : plsOf b.d = (plc b.q).map fun n : Nat => (n : Int) := plsOf_nat _ _
      simp [this, ln]
    omega
theorem val_take {ds : List PyData} (h : ValOk (.list ds)) (k : Nat) : ValOk (.list (ds.take k)) := fun es e => by
  cases e
  obtain ⟨a, b⟩ := h ds rfl
  exact ⟨Nat.le_trans (by rw [List.length_take]; omega) a, fun d hd => b d (List.mem_of_mem_take hd)⟩
theorem val_drop {ds : List PyData} (h : ValOk (.list ds)) (k : Nat) : ValOk (.list (ds.drop k)) := fun es e => by
  cases e
  obtain ⟨a, b⟩ := h ds rfl
  exact ⟨Nat.le_trans (by rw [List.length_drop]; omega) a, fun d hd => b d (List.mem_of_mem_drop hd)⟩
/-- the prices of a cover's lots, in a comprehension -/
theorem price_at (ok : Ok ts ps) {C : Int} {bs : List Buy} (h : CoverOk ts ps C bs) {b : Buy} (hb : b ∈ bs) : gIx (.list (ts.map Tk.d)) (natD b.i) = some (.d b.t.d) := by
  have := (h.1 b hb).t
  exact ix_seq .l (by simp [this])
end
def GrR (x : Rs × Rho) : Prop := ∃ a b : Int, 0 ≤ a ∧ x = (.d (.bool true), [pot a b])
theorem great_tail {ts : List Tk} {ps : List Pg} {C : Int} (ok : Ok ts ps) (hn : 1 ≤ ps.length) (h : LeastL (sg ts ps) (pts ps.length) (some C)) (a b : Int) (ha : 0 ≤ a) {s1 s2 s3 s4 s6 s7 s8 s9 : Sl} : W (sSeq q__law_great_right_3 (sSeq (sSet 12 (eCall 2 m_cheapest_cover (aCons (eVar 5) (aCons (eVar 10) aNil)))) (sSeq q__law_great_right_2 (sSeq q__law_great_right_1 sNil))) [pot a b, s1, s2, s3, s4, .l (ts.map Tk.d), s6, s7, s8, s9, .d (.list (ps.map Pg.d)), .d (.int C), .u, .u, .u, .u, .u]) (BodyK 1 GrR) := by
  have hfit := due_fit ok h
  have hrep : gRepr [.int C] = some (.d (.str (PyData.shown (.int C)))) := hfit.repr
  have hso := hfit.so
  have heq := DL.eq_self hso
  have out : ∀ {a b : Int} {ρ : Rho}, 0 ≤ a → BodyK 1 GrR (.ret (.d (.bool true)) (pot a b :: ρ)) := fun {a b ρ} ha => BodyK.ret (by simp) ⟨a, b, ha, by simp [keepP]⟩
  refine W_seq ?_
  simp only [q__law_great_right_3, x_sIf, x_tVal, x_eBin, W_bind, W_map]
  refine W_draw (n := 2) rfl ha (by simp) (by omega) (by omega) fun d a b h1 h2 ha => ?_
  have hch := cheapest_is ok h (v := .list (ts.map Tk.d)) (u := .list (ps.map Pg.d)) .l .l
  simp only [optD] at hch heq
  by_cases hd : d = 0
  · subst hd
    simp
    refine W_last ?_
    simp [hch, hrep, heq]
    exact SeqK.ret (out ha)
  · simp [hd]
    refine SeqK.nx (W_seq ?_)
    rcases cover_is ok h with ⟨e, _⟩ | ⟨C', bs, e, hc, hm⟩
    · cases e
    cases e
    simp [hm]
    refine SeqK.nx (W_seq ?_)
    have hbl := cover_len ok hc
    have hp10 := ok.p10
    have hv := val_buys (bs := bs) (by omega)
    have hcl := law_is_cover_v ok _ hv
    have hci := is_cover_v ok (v := .list (ts.map Tk.d)) (u := .list (ps.map Pg.d)) .l .l _ (val_take hv ((bs.map Buy.d).length - 1))
    rw [short_cover ok hn hc] at hci
    rw [cover_right ok hc] at hcl
    obtain ⟨BS, hBS⟩ : ∃ BS, BS = bs.map Buy.d := ⟨_, rfl⟩
    rw [← hBS] at hcl hci ⊢
    simp [q__law_great_right_2, hcl, cut_last, hci]
    refine SeqK.nx (W_last ?_)
    simp only [q__law_great_right_1, x_sRet, x_eBin, x_eApp, x_aCons, W_bind, W_map]
    refine W_compA Buy.d (fun b => .int b.t.price) bs (ρ' := [pot a b, s1, s2, s3, s4, .d (.list (ts.map Tk.d)), s6, s7, s8, s9, .d (.list (ps.map Pg.d)), .d (.int C), .d (.list BS), .u, .u, .u, .u]) (by simp [hBS]) (fun b hb => ?_) (by omega) ?_
    · have := price_at ok hc hb
      simp [Buy.d, this]
      simp [Tk.d]
    · have := paid ok hc
      simp [this, hrep, heq]
      exact out ha
end K9
end PK90ZM
section PK90ZN
set_option maxHeartbeats 4000000
open PySem PySem.Spec PyProof.Rows L2 DL
namespace K9
theorem rngD_nat (n : Nat) : rngD 0 1 n = (List.range n).map natD := by
  apply List.ext_getElem?
  intro i
  by_cases hi : i < n
  · simp [rngD, hi, natD]
  · simp [rngD, hi]
theorem min3 (a b c : Int) : minI a [b, c] = if c < (if b < a then b else a) then c else (if b < a then b else a) := by
  unfold minI
  simp only [List.foldl_cons, List.foldl_nil, Int.min_def]
  split <;> split <;> split <;> (try split) <;> omega
theorem mulOk (i j : Int) (h : 0 ≤ i ∧ i ≤ 10000) (h2 : 0 ≤ j ∧ j ≤ 10000) : gMul (.int i) (.int j) = some (.d (.int (i * j))) := by
  have : cMul i j = true := by
    unfold cMul
    simp only [Bool.or_eq_true, Bool.and_eq_true, decide_eq_true_eq]
    omega
  show (if cMul i j = true then some (Rs.d (.int (i * j))) else none) = _
  rw [if_pos this]
theorem gMul_list (xs : List PyData) (k : Int) (h : (decide (-(2 ^ 63) ≤ k) && decide (k < 2 ^ 63) && decide (xs.length * k.toNat ≤ sizeLine)) = true) : gMul (.list xs) (.int k) = some (.l (List.replicate k.toNat xs).flatten) := if_pos h
theorem fdiv2 (n : Nat) : gFdiv (.int (n : Int)) (.int 2) = some (.d (.int ((n : Int) / 2))) := by
  simp [gFdiv, gI]
theorem least_of {ts : List Tk} {ps : List Pg} (ok : Ok ts ps) : ∃ o, LeastL (sg ts ps) (pts ps.length) o := by
  obtain ⟨rs, D, _⟩ := cheapest_v ok (v := .list (ts.map Tk.d)) (u := .list (ps.map Pg.d)) .l .l
  exact ⟨_, D.least⟩
theorem great_alike {one two day : Int} (h1 : 1 ≤ one ∧ one ≤ 9999) (h2 : 1 ≤ two ∧ two ≤ 9999) (h3 : 1 ≤ day ∧ day ≤ 9999) {n : Nat} (hn : n ≤ 10) {v : Int} {vs : List Int} (hd : dueA (minI one [two, day]) two n = v :: vs) : LeastL (sg (gts one two day) (alikeP n)) (pts (alikeP n).length) (some (minI v vs)) := by
  have hl : (alikeP n).length = n := List.length_replicate
  have ok := gts_Ok h1 h2 h3 (alike_ok n) (by omega)
  obtain ⟨o, ho⟩ := least_of ok
  have h := ho
  rw [hl] at h
  rw [alike_is hn h (sg_alike one two day hn) hd] at ho
  exact ho
theorem great_behind {one two day : Int} (h1 : 1 ≤ one ∧ one ≤ 9999) (h2 : 1 ≤ two ∧ two ≤ 9999) (h3 : 1 ≤ day ∧ day ≤ 9999) {n : Nat} (hn : n ≤ 10) (hn2 : 2 ≤ n) : LeastL (sg (gts one two day) (behindP n)) (pts (behindP n).length) (some (if day < (if two < one then two else one) * (n : Int) then day else (if two < one then two else one) * (n : Int))) := by
  have hl : (behindP n).length = n := by simp [behindP]
  have ok := gts_Ok h1 h2 h3 (behind_ok hn) (by omega)
  obtain ⟨o, ho⟩ := least_of ok
  have h := ho
  rw [hl] at h
  have hs := sg_behind one two day hn
  rw [min3] at hs
  rw [behind_is (m := if two < one then two else one) (day := day) hn hn2 (by split <;> omega) (by omega) h hs] at ho
  exact ho
theorem great_W (a b : Int) (ha : 0 ≤ a) : W (m__law_great_right [pot a b]) GrR := by
  refine W_body (W_seq ?_)
  simp only [q__law_great_right_8, x_sAsgD, x_eApp, x_aCons, x_aNil, x_eBin, W_bind, W_map]
  refine W_pick rfl ?_
  simp
  refine ⟨_, .inl rfl, by simp, by simp, a, b, ha, rfl, fun d hd a b ha => ?_⟩
  have hn : ∃ n : Nat, 6 ≤ n ∧ n ≤ 10 ∧ d = .int (n : Int) := by
    simp only [List.mem_cons, List.not_mem_nil, or_false] at hd
    rcases hd with rfl | rfl | rfl | rfl | rfl | rfl | rfl | rfl
    · exact ⟨6, by omega, by omega, rfl⟩
    · exact ⟨6, by omega, by omega, rfl⟩
    · exact ⟨7, by omega, by omega, rfl⟩
    · exact ⟨7, by omega, by omega, rfl⟩
    · exact ⟨8, by omega, by omega, rfl⟩
    · exact ⟨8, by omega, by omega, rfl⟩
    · exact ⟨8, by omega, by omega, rfl⟩
    · exact ⟨10, by omega, by omega, rfl⟩
  obtain ⟨n, n6, n10, rfl⟩ := hn
  simp
  refine W_draw (n := 400) rfl ha (by simp) (by omega) (by omega) fun d1 a b g1 g2 ha => ?_
  simp
  refine W_draw (n := 900) rfl ha (by simp) (by omega) (by omega) fun d2 a b g3 g4 ha => ?_
  simp
  refine W_draw (n := 4000) rfl ha (by simp) (by omega) (by omega) fun d3 a b g5 g6 ha => ?_
  simp
  obtain ⟨one, hone⟩ : ∃ x, x = 1 + d1 := ⟨_, rfl⟩
  obtain ⟨two, htwo⟩ : ∃ x, x = 1 + d2 := ⟨_, rfl⟩
  obtain ⟨day, hday⟩ : ∃ x, x = 1 + d3 := ⟨_, rfl⟩
  rw [← hone, ← htwo, ← hday]
  have h1 : 1 ≤ one ∧ one ≤ 9999 := by omega
  have h2 : 1 ≤ two ∧ two ≤ 9999 := by omega
  have h3 : 1 ≤ day ∧ day ≤ 9999 := by omega
  refine SeqK.nx (W_seq ?_)
  simp [q__law_great_right_7]
  have hts : [PyData.tuple [PyData.str "ticket", PyData.int one, PyData.int 9, PyData.tuple [PyData.int 1], PyData.int 1], PyData.tuple [PyData.str "ticket", PyData.int two, PyData.int 9, PyData.tuple [PyData.int 1], PyData.int 2], PyData.tuple [PyData.str "ticket", PyData.int day, PyData.int 1440, PyData.tuple [PyData.int 1], PyData.int 1]] = (gts one two day).map Tk.d := rfl
  rw [hts]
  obtain ⟨TS, hTS⟩ : ∃ TS, TS = (gts one two day).map Tk.d := ⟨_, rfl⟩
  rw [← hTS]
  refine SeqK.nx (W_seq ?_)
  simp only [q__law_great_right_6, x_sPar, x_eBin, W_bind, W_map]
  have hmul : gMul (.list [.tuple [.int 5, .int 25, .tuple [.int 1]]]) (.int (n : Int)) = some (.l ((alikeP n).map Pg.d)) := by
    have hc : (decide (-(2 ^ 63) ≤ (n : Int)) && decide ((n : Int) < 2 ^ 63) && decide ([PyData.tuple [.int 5, .int 25, .tuple [.int 1]]].length * (n : Int).toNat ≤ sizeLine)) = true := by
      simp only [Bool.and_eq_true, decide_eq_true_eq, List.length_singleton]
      rw [sizeLine_eq]
      omega
    rw [gMul_list _ _ hc]
    have e : (List.replicate (n : Int).toNat [PyData.tuple [.int 5, .int 25, .tuple [.int 1]]]).flatten = (alikeP n).map Pg.d := by
      rw [List.flatten_replicate_singleton, Int.toNat_natCast]
      unfold alikeP
      rw [List.map_replicate]
      rfl
    rw [e]
  have hr : range1D [.int (n : Int)] = some ((List.range n).map natD) := by
    rw [x_range1 (by omega) (by omega), ← rngD_nat]
    rfl
  have e5 : eApp gLst (aCons (eApp DL.gTup (aCons (eK (PyData.int 5)) (aCons (eK (PyData.int 25)) (aCons (eApp DL.gTup (aCons (eK (PyData.int 1)) aNil)) aNil)))) aNil) = fun ρ => some (.l [.tuple [.int 5, .int 25, .tuple [.int 1]]], ρ) := by
    funext ρ
    simp
  simp only [e5, W_some, x_eVar, List.getElem?_cons_succ, List.getElem?_cons_zero, x_data_l, x_data_d, hmul]
  refine W_compA natD (fun k => (pgB k).d) (List.range n) (ρ' := [.p [.int a, .int b], .d (.int (n : Int)), .d (.int one), .d (.int two), .d (.int day), .l TS, .u, .u, .u, .u, .u, .u, .u, .u, .u, .u, .u]) (by simp [hr]) (fun k hk => ?_) (by simp; omega) ?_
  · have hk2 := List.mem_range.mp hk
    have := mulOk 30 (k : Int) (by omega) (by omega)
    simp [natD, this, pgB, Pg.d, zD]
  have hbe : (List.range n).map (fun k => (pgB k).d) = (behindP n).map Pg.d := by
    unfold behindP
    rw [List.map_map]
    rfl
  rw [hbe]
  obtain ⟨AL, hAL⟩ : ∃ x, x = (alikeP n).map Pg.d := ⟨_, rfl⟩
  obtain ⟨BE, hBE⟩ : ∃ x, x = (behindP n).map Pg.d := ⟨_, rfl⟩
  rw [← hAL, ← hBE]
  simp
  refine SeqK.nx (W_seq ?_)
  have hm3 : gMin [.int one, .int two, .int day] = some (.d (.int (minI one [two, day]))) := by rw [min3]; rfl
  simp [hm3]
  refine SeqK.nx (W_seq ?_)
  obtain ⟨ls, hls⟩ : ∃ x, x = minI one [two, day] := ⟨_, rfl⟩
  rw [← hls]
  have hlsb : 1 ≤ ls ∧ ls ≤ 9999 := by
    rw [hls, min3]
    split <;> split <;> omega
  simp only [q__law_great_right_5, x_sSet, x_eApp, x_aCons, W_bind, W_map]
  have hr2 : range1D [.int ((n : Int) / 2 + 1)] = some ((List.range (n / 2 + 1)).map natD) := by
    rw [x_range1 (by omega) (by omega), ← rngD_nat, show ((n : Int) / 2 + 1).toNat = n / 2 + 1 by omega]
  have hfd := fdiv2 n
  refine W_compA natD (fun p : Nat => PyData.int (ls * ((n : Int) - 2 * (p : Int)) + two * (p : Int))) (List.range (n / 2 + 1)) (ρ' := [.p [.int a, .int b], .d (.int (n : Int)), .d (.int one), .d (.int two), .d (.int day), .l TS, .l AL, .l BE, .d (.int ls), .u, .u, .u, .u, .u, .u, .u, .u]) (by simp [hfd, hr2]) (fun k hk => ?_) (by simp; omega) ?_
  · have hk2 := List.mem_range.mp hk
    have m1 := mulOk 2 (k : Int) (by omega) (by omega)
    have m2 := mulOk ls ((n : Int) - 2 * (k : Int)) (by omega) (by omega)
    have m3 := mulOk two (k : Int) (by omega) (by omega)
    simp [natD, m1, m2, m3]
  obtain ⟨v, vs, hd⟩ : ∃ v vs, dueA ls two n = v :: vs := by
    cases h : dueA ls two n with
    | nil =>
      have := congrArg List.length h
      simp [dueA] at this
    | cons v vs => exact ⟨v, vs, rfl⟩
  have hdue : (List.range (n / 2 + 1)).map (fun p : Nat => PyData.int (ls * ((n : Int) - 2 * (p : Int)) + two * (p : Int))) = (v :: vs).map .int := by
    rw [← hd]
    unfold dueA
    rw [List.map_map]
    rfl
  rw [hdue]
  have hmin := min_L v vs
  have hm2 := mulOk (if two < one then two else one) (n : Int) (by split <;> omega) (by omega)
  simp only [x_data_l, x_data_d, hmin, W_some, x_eVar, x_eBin, x_aNil, W_bind, W_map, List.getElem?_cons_succ, List.getElem?_cons_zero, x_obs, x_oms, x_min2, hm2, x_gLst, List.length_cons, List.length_nil]
  obtain ⟨pb, hpb⟩ : ∃ x, x = if day < (if two < one then two else one) * (n : Int) then day else (if two < one then two else one) * (n : Int) := ⟨_, rfl⟩
  obtain ⟨pa, hpa⟩ : ∃ x, x = minI v vs := ⟨_, rfl⟩
  simp [hm2]
  rw [← hpb, ← hpa]
  refine SeqK.nx (W_seq ?_)
  have hA := great_alike h1 h2 h3 n10 (v := v) (vs := vs) (by rw [← hls]; exact hd)
  have hB := great_behind h1 h2 h3 n10 (by omega)
  rw [← hpa] at hA
  rw [← hpb] at hB
  simp only [q__law_great_right_4, x_sAsgD, W_bind]
  refine W_pick rfl ?_
  simp
  refine ⟨_, .inl rfl, by simp, by simp, a, b, ha, rfl, fun d hd a b ha => ?_⟩
  simp only [List.mem_cons, List.not_mem_nil, or_false] at hd
  have okA := gts_Ok h1 h2 h3 (alike_ok n) (ps := alikeP n) (by simp [alikeP]; omega)
  have okB := gts_Ok h1 h2 h3 (behind_ok n10) (ps := behindP n) (by simp [behindP]; omega)
  subst hTS
  rcases hd with rfl | rfl
  · simp
    refine SeqK.nx ?_
    rw [hAL]
    exact great_tail okA (by simp [alikeP]; omega) hA a b ha
  · simp
    refine SeqK.nx ?_
    rw [hBE]
    exact great_tail okB (by simp [behindP]; omega) hB a b ha
end K9
end PK90ZN
section PK90ZO
set_option maxHeartbeats 4000000
open PySem PySem.Spec PyProof.Rows L2 DL
namespace K9
/-- a call that draws, whose arguments may be taken -/
theorem W_fnR {G : GM} {n i m : Nat} {ρ ρ1 : Rho} {a b a0 b0 : Int} {fa : AM} {ds : List PyData} {Pr : Rs → Prop} {Q : Rs × Rho → Prop} (H : W (G (pot a b :: ds.map .d)) fun x => ∃ r a' b', 0 ≤ a' ∧ Pr r ∧ x = (r, pot a' b' :: List.replicate m .u)) (h : ρ[i]? = some (pot a0 b0)) (hf : fa ρ = some (ds, ρ1)) (h1 : ρ1[i]? = some (pot a b)) (hn : ds.length + 1 = n) (k : ∀ r a' b', Pr r → 0 ≤ a' → Q (r, ρ1.set i (pot a' b'))) : W (eCallP n G i fa ρ) Q := by
  obtain ⟨x, e, r, a', b', g1, g2, rfl⟩ := H
  subst hn
  unfold eCallP
  unfold pot at e h h1
  simp only [h, h1, Option.bind_some, x_listOf_p, hf, if_true, e, W_some, x_with_p, List.getElem?_cons_zero, x_pOf, Option.map_some]
  exact k r a' b' g2 g1
theorem rep_bool (b : Bool) : gRepr [.bool b] = some (.d (.str (PyData.shown (.bool b)))) := (Fit.bool b).repr
theorem sl_data (r : Rs) : r.sl = .d r.data ∨ ∃ xs, r.sl = .l xs ∧ r.data = .list xs := by
  cases r with
  | d x => exact .inl rfl
  | l xs => exact .inr ⟨xs, rfl, rfl⟩
section
variable {ts : List Tk} {ps : List Pg} {F : List PyData}
def FiI (ts : List Tk) (ps : List Pg) (F : List PyData) (sh : PyData) (ρ : Rho) : Prop := ∃ (a b : Int) (s4 s5 s6 s7 s8 s9 s10 s11 s12 s13 s14 s15 s16 s17 s18 s19 : Sl), 0 ≤ a ∧ (s9 = .l F ∨ s9 = .d (.list F)) ∧ ρ = [pot a b, .d (.list (ts.map Tk.d)), .d (.list (ps.map Pg.d)), .d sh, s4, s5, s6, s7, s8, s9, s10, s11, s12, s13, s14, s15, s16, s17, s18, s19]
theorem fin_turn (ok : Ok ts ps) (hF : ∀ d ∈ F, Kl ts.length d) (hFl : F.length ≤ 10) (hQ1 : F ≠ [] → 1 ≤ ps.length) (sh : PyData) (k : Nat) (ρ : Rho) (h : FiI ts ps F sh ρ) : W (gdName 11 (.d (natD k)) ρ) fun ρ1 => W (l__law_right_9 ρ1) fun
      | .nx ρ2 => FiI ts ps F sh ρ2
      | _ => False := by
  obtain ⟨a, b, s4, s5, s6, s7, s8, s9, s10, s11, s12, s13, s14, s15, s16, s17, s18, s19, ha, h9, rfl⟩ := h
  have hb := bent_W (Tl := ts.map Tk.d) (Ql := ps.map Pg.d) (F := F) a b ha (by have := ok.t1; simpa using this) (by have := ok.t8; simpa using this) (by simpa using hQ1) (by have := ok.p10; simpa using this) (by simpa using hF) hFl
  simp [l__law_right_9]
  refine W_seq ?_
  simp only [x_sSet, W_map]
  refine W_fnR (m := 3) (ρ1 := [pot a b, .d (.list (ts.map Tk.d)), .d (.list (ps.map Pg.d)), .d sh, s4, s5, s6, s7, s8, .d (.list F), s10, .d (natD k), s12, s13, s14, s15, s16, s17, s18, s19]) (ds := [.list (ts.map Tk.d), .list (ps.map Pg.d), .list F]) (Pr := fun r => VRep r.data) ?_ rfl ?_ rfl rfl fun r a b hv ha => ?_
  · exact hb.mono fun x ⟨r, a, b, h1, h2, h3⟩ => ⟨r, a, b, h1, h2, h3⟩
  · rcases h9 with rfl | rfl <;> simp
  obtain ⟨val, hval⟩ : ∃ v, v = r.data := ⟨_, rfl⟩
  rw [← hval] at hv
  have hrep := hv.r
  have hlc := law_is_cover_v ok val hv.ok
  have hic := is_cover_v ok (v := .list (ts.map Tk.d)) (u := .list (ps.map Pg.d)) .l .l val hv.ok
  have fin : ∀ s4 s5 s6 s7 s8 s10 s11 s12 s13 s14 s15 s16 s17 s18 s19, FiI ts ps F sh [pot a b, .d (.list (ts.map Tk.d)), .d (.list (ps.map Pg.d)), .d sh, s4, s5, s6, s7, s8, .d (.list F), s10, s11, s12, s13, s14, s15, s16, s17, s18, s19] := fun s4 s5 s6 s7 s8 s10 s11 s12 s13 s14 s15 s16 s17 s18 s19 => ⟨a, b, s4, s5, s6, s7, s8, _, s10, s11, s12, s13, s14, s15, s16, s17, s18, s19, ha, .inr rfl, rfl⟩
  have ne1 := ne_self hv.s
  have ne2 : ∀ b : Bool, gNe (.str (PyData.shown (.bool b))) (.str (PyData.shown (.bool b))) = some (.d (.bool false)) := fun b => ne_self (Fit.bool b).so
  have step : ∀ s12, (s12 = Sl.d val ∨ ∃ xs, s12 = .l xs ∧ val = .list xs) → SeqK (sSeq (sPar 13 14 (eApp gRepr (aCons (eVar 12) aNil)) (eCall 3 m__law_is_cover (aCons (eVar 1) (aCons (eVar 2) (aCons (eVar 12) aNil))))) (sSeq q__law_right_8 (sSeq q__law_right_7 sNil))) (fun
      | .nx ρ2 => FiI ts ps F sh ρ2
      | _ => False) (.nx [pot a b, .d (.list (ts.map Tk.d)), .d (.list (ps.map Pg.d)), .d sh, s4, s5, s6, s7, s8, .d (.list F), s10, .d (natD k), s12, s13, s14, s15, s16, s17, s18, s19]) := fun s12 h12 => by
    refine SeqK.nx (W_seq ?_)
    have e12 : ∀ s13 s14 s15, (eVar 12) [pot a b, .d (.list (ts.map Tk.d)), .d (.list (ps.map Pg.d)), .d sh, s4, s5, s6, s7, s8, .d (.list F), s10, .d (natD k), s12, s13, s14, s15, s16, s17, s18, s19] = some (.d val, [pot a b, .d (.list (ts.map Tk.d)), .d (.list (ps.map Pg.d)), .d sh, s4, s5, s6, s7, s8, .d (.list F), s10, .d (natD k), .d val, s13, s14, s15, s16, s17, s18, s19]) := fun s13 s14 s15 => by
      rcases h12 with rfl | ⟨xs, rfl, rfl⟩ <;> simp
    simp only [x_sPar, x_eApp, x_aCons, x_aNil, W_bind, W_map, e12, W_some, x_data_d, hrep]
    simp [hlc]
    refine SeqK.nx (W_seq ?_)
    have hmod : ∃ m : Int, gMod (natD k) (.int 2) = some (.d (.int m)) := ⟨_, rfl⟩
    obtain ⟨m, hm⟩ := hmod
    by_cases hm0 : m = 0
    · simp [q__law_right_8, hm, hm0, hic]
      refine SeqK.nx (W_last ?_)
      simp [q__law_right_7, rep_bool, ne2, hrep, ne1]
      exact fin _ _ _ _ _ _ _ _ _ _ _ _ _ _ _
    · simp [q__law_right_8, hm, hm0, perm, hic]
      refine SeqK.nx (W_last ?_)
      simp [q__law_right_7, rep_bool, ne2, hrep, ne1]
      exact fin _ _ _ _ _ _ _ _ _ _ _ _ _ _ _
  refine step r.sl ?_
  rw [hval]
  exact sl_data r
end
end K9
end PK90ZO
section PK90ZP
set_option maxHeartbeats 4000000
open PySem PySem.Spec PyProof.Rows L2 DL
namespace K9
def RiR (x : Rs × Rho) : Prop := ∃ ρ', x = (.d (.bool true), ρ')
theorem ri_out {ρ : Rho} (h : 1 ≤ ρ.length) : BodyK 1 RiR (.ret (.d (.bool true)) ρ) := BodyK.ret h ⟨_, rfl⟩
theorem fit_str' (x : Str) (h : (PyData.strOk x && PyData.strOk (reprText x) && decide (x.cps.size ≤ 41)) = true) : Fit 0 41 (.str x) := fit_str x h
theorem fit_zD {zs : List Int} (h : zOk zs) : Fit 1 168 (zD zs) := by
  refine (Fit.tup (n := 0) (w := 41) (k := 4) (fun x hx => ?_) (by simpa using h.2.1)).up (by omega) (by omega)
  obtain ⟨z, hz, rfl⟩ := List.mem_map.mp hx
  have := h.2.2.1 z hz
  exact Fit.int (by omega)
theorem fit_Tk {t : Tk} (h : t.ok) : Fit 2 845 t.d := by
  have h1 := h.p
  have h2 := h.m
  have h3 := h.n
  refine (Fit.tup (n := 1) (w := 168) (k := 5) (fun x hx => ?_) (by simp)).up (by omega) (by omega)
  simp only [List.mem_cons, List.not_mem_nil, or_false] at hx
  rcases hx with rfl | rfl | rfl | rfl | rfl
  · exact (fit_str _ (by decide +kernel)).up (by omega) (by omega)
  · exact (Fit.int (by omega)).up (by omega) (by omega)
  · exact (Fit.int (by omega)).up (by omega) (by omega)
  · exact fit_zD h.z
  · exact (Fit.int (by omega)).up (by omega) (by omega)
theorem fit_Pg {p : Pg} (h : p.ok) : Fit 2 845 p.d := by
  have h1 := h.b
  have h2 := h.l
  have h3 := h.e
  refine (Fit.tup (n := 1) (w := 168) (k := 3) (fun x hx => ?_) (by simp)).up (by omega) (by omega)
  simp only [List.mem_cons, List.not_mem_nil, or_false] at hx
  rcases hx with rfl | rfl | rfl
  · exact (Fit.int (by omega)).up (by omega) (by omega)
  · exact (Fit.int (by omega)).up (by omega) (by omega)
  · exact fit_zD h.z
section
variable {ts : List Tk} {ps : List Pg} {o : Option Int}
def TQ (ts : List Tk) (ps : List Pg) : PyData := .list [.list (ts.map Tk.d), .list (ps.map Pg.d)]
theorem fit_TQ (ok : Ok ts ps) : Fit 4 20000 (TQ ts ps) := by
  have h1 : Fit 3 9000 (.list (ts.map Tk.d)) := (Fit.list (n := 2) (w := 845) (k := 8) (fun x hx => by
    obtain ⟨t, ht, rfl⟩ := List.mem_map.mp hx
    exact fit_Tk (ok.tok t ht)) (by have := ok.t8; simpa using this)).up (by omega) (by omega)
  have h2 : Fit 3 9000 (.list (ps.map Pg.d)) := (Fit.list (n := 2) (w := 845) (k := 10) (fun x hx => by
    obtain ⟨t, ht, rfl⟩ := List.mem_map.mp hx
    exact fit_Pg (ok.pok t ht)) (by have := ok.p10; simpa using this)).up (by omega) (by omega)
  refine (Fit.list (n := 3) (w := 9000) (k := 2) (fun x hx => ?_) (by simp)).up (by omega) (by omega)
  simp only [List.mem_cons, List.not_mem_nil, or_false] at hx
  rcases hx with rfl | rfl <;> assumption
def shD (ts : List Tk) (ps : List Pg) : PyData := .str (TQ ts ps).shown
theorem rep_TQ (ok : Ok ts ps) : gRepr [.list [.list (ts.map Tk.d), .list (ps.map Pg.d)]] = some (.d (shD ts ps)) := (fit_TQ ok).repr
theorem eq_TQ (ok : Ok ts ps) : gEq (shD ts ps) (shD ts ps) = some (.d (.bool true)) := DL.eq_self (fit_TQ ok).so
/-- the last loop, and the end -/
theorem loop_end (ok : Ok ts ps) {F : List PyData} (hF : ∀ d ∈ F, Kl ts.length d) (hFl : F.length ≤ 10) (hQ1 : F ≠ [] → 1 ≤ ps.length) (ρ : Rho) (h : FiI ts ps F (shD ts ps) ρ) : W (sSeq (sFor (iApp range1D (aCons (eK (.int 5)) aNil)) (gdName 11) l__law_right_9) (sSeq (sRet (eBin gEq (eApp gRepr (aCons (eApp gLst (aCons (eVar 1) (aCons (eVar 2) aNil))) aNil)) (eVar 3))) sNil) ρ) (BodyK 1 RiR) := by
  have hr : range1D [.int 5] = some ((List.range 5).map natD) := by
    rw [x_range1 (by omega) (by omega), ← rngD_nat]
    rfl
  have key := for_nx (gd := gdName 11) (g := l__law_right_9) natD (fun _ ρ => FiI ts ps F (shD ts ps) ρ) (xs := List.range 5) (ρ := ρ) h fun i k hk ρ h => fin_turn ok hF hFl hQ1 _ k ρ h
  refine W_seq ?_
  simp only [sFor, x_iApp, x_aCons, x_eK, x_aNil, x_obs, x_oms, x_data_d, hr]
  refine key.mono fun out ⟨ρ', e, hI⟩ => ?_
  subst e
  obtain ⟨a, b, s4, s5, s6, s7, s8, s9, s10, s11, s12, s13, s14, s15, s16, s17, s18, s19, ha, h9, rfl⟩ := hI
  refine SeqK.nx (W_last ?_)
  simp [rep_TQ ok, eq_TQ ok]
  exact ri_out (by simp)
def hopD (ts : List Tk) (ps : List Pg) : List PyData := (ps.filter fun p => hopeless ts p).map fun _ => .int 1
theorem hop_ints (ts : List Tk) (ps : List Pg) : hopD ts ps = ((ps.filter fun p => hopeless ts p).map fun _ => (1 : Int)).map .int := by
  unfold hopD
  rw [List.map_map]
  rfl
theorem hop_ne (ts : List Tk) (ps : List Pg) : gNe (.list (hopD ts ps)) (.list []) = some (.d (.bool (!(hopD ts ps).isEmpty))) := ne_nil (by rw [hop_ints]; exact shaped_ints _)
theorem hop_eq (ts : List Tk) (ps : List Pg) : gEq (.list (hopD ts ps)) (.list []) = some (.d (.bool (hopD ts ps).isEmpty)) := eq_nil (by rw [hop_ints]; exact shaped_ints _)
theorem hop_iff (ok : Ok ts ps) (h : LeastL (sg ts ps) (pts ps.length) o) : (hopD ts ps).isEmpty = o.isSome := by
  have := least_none_iff ok h
  rw [Bool.eq_iff_iff]
  unfold hopD
  simp only [List.isEmpty_iff, List.map_eq_nil_iff, List.filter_eq_nil_iff]
  constructor
  · intro hh
    cases o with
    | some x => rfl
    | none =>
      obtain ⟨p, hp, hq⟩ := this.mp rfl
      exact absurd hq (hh p hp)
  · intro hs p hp hq
    rw [this.mpr ⟨p, hp, hq⟩] at hs
    cases hs
/-- from the cover on -/
theorem from_told (ok : Ok ts ps) (h : LeastL (sg ts ps) (pts ps.length) o) (a b : Int) (ha : 0 ≤ a) (s6 s7 s8 : Sl) : W (sSeq q__law_right_14 (sSeq q__law_right_13 (sSeq (sIf (tVal (eBin (gIsB false) (eVar 4) (eK .none))) (sSeq q__law_right_6 sNil) sNil) (sSeq q__law_right_12 (sSeq q__law_right_11 (sSeq (sSet 10 (look (eApp gRepr (aCons (eVar 9) aNil)))) (sSeq (sExpr (eMeth opAppend 9 (aCons (eK .none) aNil))) (sSeq q__law_right_10 (sSeq (sExpr (eMeth opPop 9 aNil)) (sSeq (sFor (iApp range1D (aCons (eK (.int 5)) aNil)) (gdName 11) l__law_right_9) (sSeq (sRet (eBin gEq (eApp gRepr (aCons (eApp gLst (aCons (eVar 1) (aCons (eVar 2) aNil))) aNil)) (eVar 3))) sNil))))))))))
    [pot a b, .d (.list (ts.map Tk.d)), .d (.list (ps.map Pg.d)), .d (shD ts ps), .d (optD o), .d (.list (hopD ts ps)), s6, s7, s8, .u, .u, .u, .u, .u, .u, .u, .u, .u, .u, .u]) (BodyK 1 RiR) := by
  have hn := hop_ne ts ps
  have hi := hop_iff ok h
  rw [hi] at hn
  obtain ⟨HD, hHD⟩ : ∃ x, x = hopD ts ps := ⟨_, rfl⟩
  rw [← hHD] at hn ⊢
  refine W_seq ?_
  have hm2 : gIsB false (optD o) .none = some (.d (.bool (isNone (optD o)))) := by simp
  have go : ∀ (r : Rs), m_cheapest_cover [.d (.list (ts.map Tk.d)), .d (.list (ps.map Pg.d))] = some (r, [.u, .u]) → ∀ P : Out → Prop, (∀ a b : Int, 0 ≤ a → P (.nx [pot a b, .d (.list (ts.map Tk.d)), .d (.list (ps.map Pg.d)), .d (shD ts ps), .d (optD o), .d (.list HD), s6, s7, s8, r.sl, .u, .u, .u, .u, .u, .u, .u, .u, .u, .u])) → W (q__law_right_14 [pot a b, .d (.list (ts.map Tk.d)), .d (.list (ps.map Pg.d)), .d (shD ts ps), .d (optD o), .d (.list HD), s6, s7, s8, .u, .u, .u, .u, .u, .u, .u, .u, .u, .u, .u]) P := fun r hr P k => by
    simp only [q__law_right_14, x_sSet, x_eIf, x_tVal, x_eBin, W_bind, W_map]
    refine W_draw (n := 2) rfl ha (by simp) (by omega) (by omega) fun d a b h1 h2 ha => ?_
    by_cases hd : d = 0
    · simp [hd, hr]
      exact k a b ha
    · simp [hd, perm, hr]
      exact k a b ha
  rcases cover_is ok h with ⟨e, hm⟩ | ⟨C, bs, e, hc, hm⟩
  · subst e
    refine go _ hm _ fun a b ha => ?_
    refine SeqK.nx (W_seq ?_)
    simp only [Option.isSome_none, Bool.not_false] at hn
    simp [q__law_right_13, hn, optD]
    refine SeqK.nx (W_seq ?_)
    simp
    refine W_last ?_
    have hfirst := is_cover_v ok (v := .list (ts.map Tk.d)) (u := .list (ps.map Pg.d)) .l .l (firstD ps.length) (first_val _ ok.p10)
    rw [first_wrong ok ((least_none_iff ok h).mp rfl)] at hfirst
    have hr : range1D [.int (ps.length : Int)] = some ((List.range ps.length).map natD) := by
      rw [x_range1 (by omega) (by have := ok.p10; omega), ← rngD_nat]
      rfl
    simp only [q__law_right_6, x_sRet, x_eAnd, x_eBin, x_eCall, x_aCons, x_eVar, W_bind, W_map, W_some, List.getElem?_cons_succ, List.getElem?_cons_zero]
    refine W_compA natD (fun j => .tuple [natD 0, .tuple [natD j]]) (List.range ps.length) (ρ' := [pot a b, .d (.list (ts.map Tk.d)), .d (.list (ps.map Pg.d)), .d (shD ts ps), .d .none, .d (.list HD), s6, s7, s8, .d .none, .u, .u, .u, .u, .u, .u, .u, .u, .u, .u]) (by simp [hr]) (fun k hk => by simp [natD]) (by have := ok.p10; simp; omega) ?_
    have hfd : PyData.list ((List.range ps.length).map fun j => .tuple [natD 0, .tuple [natD j]]) = firstD ps.length := rfl
    simp only [x_data_l, hfd]
    simp [hfirst, rep_TQ ok, eq_TQ ok]
    exact SeqK.ret (ri_out (by simp))
  · subst e
    refine go _ hm _ fun a b ha => ?_
    refine SeqK.nx (W_seq ?_)
    simp only [Option.isSome_some, Bool.not_true] at hn
    simp [q__law_right_13, hn, optD]
    refine SeqK.nx (W_seq ?_)
    simp
    refine SeqK.nx (W_seq ?_)
    have hbl := cover_len ok hc
    have hp10 := ok.p10
    have hv := val_buys (bs := bs) (by omega)
    have hcl := law_is_cover_v ok _ hv
    have hci := is_cover_v ok (v := .list (ts.map Tk.d)) (u := .list (ps.map Pg.d)) .l .l _ hv
    rw [cover_right ok hc] at hcl hci
    have hkl := cover_kl ok hc
    have hVR : VRep (.list (bs.map Buy.d)) := VRep.list (fun d hd => kl_el ok.t8 (hkl d hd)) (by simp; omega)
    have hrt := hVR.r
    have hne := ne_self hVR.s
    have hfit := due_fit ok h
    have hrd : gRepr [.int C] = some (.d (.str (PyData.shown (.int C)))) := hfit.repr
    have hnd : gNe (.str (PyData.shown (.int C))) (.str (PyData.shown (.int C))) = some (.d (.bool false)) := ne_self hfit.so
    have hQ1 : bs.map Buy.d ≠ [] → 1 ≤ ps.length := fun z => by
      have : 1 ≤ bs.length := by
        cases bs with
        | nil => exact absurd rfl z
        | cons _ _ => simp
      omega
    have hBl : (bs.map Buy.d).length ≤ 10 := by simp; omega
    obtain ⟨BS, hBS⟩ : ∃ BS, BS = bs.map Buy.d := ⟨_, rfl⟩
    rw [← hBS] at hcl hci hrt hne hkl hQ1 hBl hm ⊢
    simp [q__law_right_12, hcl, hci]
    refine SeqK.nx (W_seq ?_)
    simp only [q__law_right_11, x_sIf, x_lookT, x_tVal, x_eBin, x_eApp, x_aCons, W_bind, W_map]
    refine W_compA Buy.d (fun b => .int b.t.price) bs (ρ' := [lookSl (pot a b), .d (.list (ts.map Tk.d)), .d (.list (ps.map Pg.d)), .d (shD ts ps), .d (.int C), .d (.list HD), lookSl s6, lookSl s7, lookSl s8, .d (.list BS), .u, .u, .u, .u, .u, .u, .u, .u, .u, .u]) (by simp [hBS]) (fun b hb => ?_) (by omega) ?_
    · have := price_at ok hc hb
      simp [Buy.d, this]
      simp [Tk.d]
    have hpaid := paid ok hc
    simp [hpaid, hrd, hnd]
    refine SeqK.nx (W_seq ?_)
    simp [hrt]
    refine SeqK.nx (W_seq ?_)
    have hsz : BS.length < sizeLine := small_lt (by omega)
    simp [hsz]
    refine SeqK.nx (W_seq ?_)
    simp [q__law_right_10, hm, hrt, hne]
    refine SeqK.nx (W_seq ?_)
    have hpop : opPop (BS ++ [.none]) [] = some (.none, BS) := by
      unfold opPop
      simp
    simp [hpop]
    refine SeqK.nx ?_
    exact loop_end ok hkl hBl hQ1 _ ⟨a, b, _, _, _, _, _, _, _, _, _, _, _, _, _, _, _, _, ha, .inl rfl, rfl⟩
end
end K9
end PK90ZP
section PK90ZQ
set_option maxHeartbeats 4000000
open PySem PySem.Spec PyProof.Rows L2 DL
namespace K9
/-! the law's own cover: each passage by a ticket of its own -/
def owD (x : Nat × Nat) : PyData := .tuple [natD x.1, .tuple [natD x.2]]
def OwOk (ts : List Tk) (ps : List Pg) (x : Nat × Nat) : Prop := ∃ t p, ts[x.1]? = some t ∧ ps[x.2]? = some p ∧ covB t [p] = true
section
variable {ts : List Tk} {ps : List Pg} {o : Option Int}
theorem ow_kl (ok : Ok ts ps) {x : Nat × Nat} (h : OwOk ts ps x) : Kl ts.length (owD x) := by
  obtain ⟨t, p, h1, h2, _⟩ := h
  have := ok.p10
  have := (List.getElem?_eq_some_iff.mp h2).1
  exact ⟨x.1, [x.2], rfl, (List.getElem?_eq_some_iff.mp h1).1, by simp; omega, by simp⟩
theorem ow_flat (os : List (Nat × Nat)) : (os.map owD).flatMap plsOf = (os.map Prod.snd).map fun n : Nat => (n : Int) := by
  rw [flatMap_map']
  induction os with
  | nil => rfl
  | cons x os ih =>
    rw [List.flatMap_cons, ih]
    rfl
theorem rev_range (n : Nat) : (List.range n).map (fun t => n - 1 - t) = (List.range n).reverse := by
  apply List.ext_getElem?
  intro i
  by_cases h : i < n
  · rw [List.getElem?_reverse (by simpa using h)]
    have h2 : n - 1 - i < n := by omega
    simp [h, h2]
  · simp [h]
theorem ow_right {os : List (Nat × Nat)} (h : ∀ x ∈ os, OwOk ts ps x) (hs : os.map Prod.snd = (List.range ps.length).map fun t => ps.length - 1 - t) : covrB ts ps (.list (os.map owD)) = true := by
  unfold covrB
  simp only [x_itemsL]
  rw [Bool.and_eq_true, decide_eq_true_eq]
  constructor
  · rw [List.all_map, List.all_eq_true]
    intro x hx
    obtain ⟨t, p, h1, h2, h3⟩ := h x hx
    have hj := (List.getElem?_eq_some_iff.mp h2).1
    have hl : lotB ps.length ([x.2].map natD) = true := lot_ok (by simp) (by simpa using hj) (by simp [riseB])
    have := buy_nat h1 hl
    rw [pks_one h2] at this
    exact this.trans h3
  · rw [ow_flat, hs, rev_range]
    exact isort_rng (List.reverse_perm _)
theorem ow_short {os : List (Nat × Nat)} (hn : 1 ≤ ps.length) (hs : os.map Prod.snd = (List.range ps.length).map fun t => ps.length - 1 - t) : covrB ts ps (.list ((os.map owD).drop 1)) = false := by
  refine cover_short ?_
  rw [← List.map_drop, ow_flat, List.length_map, List.length_map, List.length_drop]
  have := congrArg List.length hs
  simp at this
  omega
def OwI (ts : List Tk) (ps : List Pg) (sh du hd : PyData) (i : Nat) (ρ : Rho) : Prop := ∃ (a b : Int) (os : List (Nat × Nat)) (s7 s8 : Sl), 0 ≤ a ∧ (∀ x ∈ os, OwOk ts ps x) ∧ os.map Prod.snd = (List.range i).map (fun t => ps.length - 1 - t) ∧ ρ = [pot a b, .d (.list (ts.map Tk.d)), .d (.list (ps.map Pg.d)), .d sh, .d du, .d hd, .l (os.map owD), s7, s8, .u, .u, .u, .u, .u, .u, .u, .u, .u, .u, .u]
theorem ow_turn (ok : Ok ts ps) (hh : ∀ p ∈ ps, hopeless ts p = false) (sh du hd : PyData) (i : Nat) (hi : i < ps.length) (ρ : Rho) (h : OwI ts ps sh du hd i ρ) : W (gdName 7 (.d (natD (ps.length - 1 - i))) ρ) fun ρ1 => W (l__law_right_3 ρ1) fun
      | .nx ρ2 => OwI ts ps sh du hd (i + 1) ρ2
      | _ => False := by
  obtain ⟨a, b, os, s7, s8, ha, hos, hsn, rfl⟩ := h
  obtain ⟨j, hj⟩ : ∃ j, j = ps.length - 1 - i := ⟨_, rfl⟩
  have hjl : j < ps.length := by omega
  rw [← hj]
  have hp : ps[j]? = some ps[j] := by simp [hjl]
  have hix : gIx (.list (ps.map Pg.d)) (natD j) = some (.d ps[j].d) := ix_seq .l (by simp [hjl])
  have hmem : ps[j] ∈ ps := List.getElem_mem hjl
  have hat : atI (ps.map Pg.d) (j : Int) = some ps[j].d := by
    rw [DL.atI_nat]
    simp [hjl]
  have hzo : ∀ p ∈ [ps[j]], p.zones.length ≤ 1000 := fun p hp => by
    rw [List.mem_singleton.mp hp]
    exact Nat.le_trans (ok.pok _ hmem).z.2.1 (by omega)
  have hen := enum_seq (ts := ts) (v := .list (ts.map Tk.d)) .l
  have ht8 := ok.t8
  have hp10 := ok.p10
  have hkd : kds ts [ps[j]] ≠ [] := fun e => by
    have h1 := hh _ hmem
    unfold hopeless at h1
    have h2 : sgl ts [ps[j]] ≠ none := fun z => by rw [z] at h1; cases h1
    refine h2 (sgl_none.mpr fun t ht => ?_)
    obtain ⟨k, hk, hk2⟩ := List.getElem_of_mem ht
    cases hc : covB t [ps[j]] with
    | false => rfl
    | true =>
      have : k ∈ kds ts [ps[j]] := kds_mem.mpr ⟨t, by simp [hk, hk2], hc⟩
      rw [e] at this
      cases this
  obtain ⟨OS, hOS⟩ : ∃ x, x = os.map owD := ⟨_, rfl⟩
  have hOSl : OS.length < sizeLine := by
    have := congrArg List.length hsn
    simp at this
    rw [hOS, List.length_map, sizeLine_eq]
    omega
  rw [← hOS]
  simp [l__law_right_3]
  refine W_seq ?_
  simp only [q__law_right_2, x_sSet, W_map]
  refine W_comp (fun k : Nat => PyData.tuple [.int (k : Int), tkD ts k]) (fun k => covAt ts [ps[j]] k) natD (List.range ts.length) (ρ' := [pot a b, .d (.list (ts.map Tk.d)), .d (.list (ps.map Pg.d)), .d sh, .d du, .d hd, .l OS, .d (natD j), s8, .u, .u, .u, .u, .u, .u, .u, .u, .u, .u, .u]) (by simp [hen]) (fun k hk => ?_) (by simp; omega) ?_
  · have hk2 := List.mem_range.mp hk
    have htk : tkD ts k = ts[k].d := by simp [tkD, hk2]
    have hlc := law_covers_v ts[k] [ps[j]] (by simp) hzo
    have hlc2 : m__law_covers [.d ts[k].d, .d (.list [ps[j].d])] = some (.d (.bool (covB ts[k] [ps[j]])), [.u, .u]) := hlc
    have hca : covAt ts [ps[j]] k = covB ts[k] [ps[j]] := covAt_some (by simp [hk2])
    simp [htk, hix, hlc2, hca, natD, hat]
  have hkk : ((List.range ts.length).filter fun k => covAt ts [ps[j]] k) = kds ts [ps[j]] := rfl
  rw [hkk]
  refine SeqK.nx (W_last ?_)
  obtain ⟨KS, hKS⟩ : ∃ x, x = (kds ts [ps[j]]).map natD := ⟨_, rfl⟩
  have hKSl : KS.length ≤ 8 := by
    rw [hKS, List.length_map]
    unfold kds
    exact Nat.le_trans (List.length_filter_le _ _) (by rw [List.length_range]; exact ht8)
  rw [← hKS]
  simp [q__law_right_1]
  refine W_pick rfl ?_
  simp
  refine ⟨KS, .inl rfl, by rw [hKS]; simpa using hkd, by omega, a, b, ha, rfl, fun d hdm a b ha => ?_⟩
  rw [hKS] at hdm
  obtain ⟨k, hk, rfl⟩ := List.mem_map.mp hdm
  obtain ⟨t, ht, hc⟩ := kds_mem.mp hk
  simp [hOSl]
  have hfin : OS ++ [.tuple [natD k, .tuple [natD j]]] = (os ++ [(k, j)]).map owD := by
    rw [hOS, List.map_append]
    rfl
  rw [hfin]
  refine ⟨a, b, os ++ [(k, j)], _, _, ha, fun x hx => ?_, ?_, rfl⟩
  · rcases List.mem_append.mp hx with hx | hx
    · exact hos x hx
    · rw [List.mem_singleton.mp hx]
      exact ⟨t, ps[j], ht, hp, hc⟩
  · rw [List.map_append, hsn, List.range_succ, List.map_append]
    simp [hj]
/-- where no passage is hopeless -/
theorem own_part (ok : Ok ts ps) (hh : ∀ p ∈ ps, hopeless ts p = false) (sh du hd : PyData) (a b : Int) (ha : 0 ≤ a) {P : Out → Prop} (k : ∀ a b s6 s7 s8, 0 ≤ a → P (.nx [pot a b, .d (.list (ts.map Tk.d)), .d (.list (ps.map Pg.d)), .d sh, .d du, .d hd, s6, s7, s8, .u, .u, .u, .u, .u, .u, .u, .u, .u, .u, .u])) : W (sSeq (sSet 6 (eApp gLst aNil)) (sSeq q__law_right_5 (sSeq q__law_right_4 sNil)) [pot a b, .d (.list (ts.map Tk.d)), .d (.list (ps.map Pg.d)), .d sh, .d du, .d hd, .u, .u, .u, .u, .u, .u, .u, .u, .u, .u, .u, .u, .u, .u]) P := by
  have hp10 := ok.p10
  refine W_seq ?_
  simp
  refine SeqK.nx (W_seq ?_)
  have hr : range3D [.int ((ps.length : Int) - 1), .int (-1), .int (-1)] = some ((List.range ps.length).map fun t : Nat => PyData.int ((ps.length : Int) - 1 - (t : Int))) := by
    unfold range3D small62
    simp only [Bool.and_eq_true, decide_eq_true_eq]
    rw [if_pos (by refine ⟨⟨by omega, by decide⟩, rfl⟩), show ((ps.length : Int) - 1 - -1).toNat = ps.length by omega]
    congr 1
    apply List.ext_getElem?
    intro i
    by_cases h : i < ps.length
    · simp [rngD, h]
      omega
    · simp [rngD, h]
  have key := for_nx (gd := gdName 7) (g := l__law_right_3) (fun t : Nat => PyData.int ((ps.length : Int) - 1 - (t : Int))) (OwI ts ps sh du hd) (xs := List.range ps.length) (ρ := [pot a b, .d (.list (ts.map Tk.d)), .d (.list (ps.map Pg.d)), .d sh, .d du, .d hd, .l [], .u, .u, .u, .u, .u, .u, .u, .u, .u, .u, .u, .u, .u])
    ⟨a, b, [], .u, .u, ha, by simp, rfl, rfl⟩ fun i t ht ρ h => by
      have hi := (List.getElem?_eq_some_iff.mp ht).1
      have e : t = i := by
        have := (List.getElem?_eq_some_iff.mp ht).2
        simpa using this.symm
      subst e
      rw [List.length_range] at hi
      have e2 : PyData.int ((ps.length : Int) - 1 - (t : Int)) = natD (ps.length - 1 - t) := by
        unfold natD
        congr 1
        omega
      rw [e2]
      exact ow_turn ok hh sh du hd t hi ρ h
  simp [q__law_right_5, sFor, hr]
  refine key.mono fun out ⟨ρ', e, a, b, os, s7, s8, ha, hos, hsn, e2⟩ => ?_
  subst e e2
  rw [List.length_range] at hsn
  have hol : os.length = ps.length := by
    have := congrArg List.length hsn
    simpa using this
  have hkl : ∀ d ∈ os.map owD, EL d := fun d hd => by
    obtain ⟨x, hx, rfl⟩ := List.mem_map.mp hd
    exact kl_el ok.t8 (ow_kl ok (hos x hx))
  have hVR : VRep (.list (os.map owD)) := VRep.list hkl (by simp; omega)
  have hic := is_cover_v ok (v := .list (ts.map Tk.d)) (u := .list (ps.map Pg.d)) .l .l _ hVR.ok
  have hic2 := is_cover_v ok (v := .list (ts.map Tk.d)) (u := .list (ps.map Pg.d)) .l .l _ (val_drop hVR.ok 1)
  rw [ow_right hos hsn] at hic
  have hsh : SeqAt.shaped (.list (os.map owD)) = true := (Fit.list (k := 30) (fun d hd => (hkl d hd).f) (by simp; omega)).shaped (by omega)
  have hne := ne_nil hsh
  refine SeqK.nx (W_last ?_)
  cases hos0 : os with
  | nil =>
    subst hos0
    simp only [List.map_nil, List.isEmpty_nil, Bool.not_true] at hne hic ⊢
    simp [q__law_right_4, hic, hne]
    exact k a b _ s7 s8 ha
  | cons x xs =>
    have hn1 : 1 ≤ ps.length := by rw [← hol, hos0]; simp
    rw [ow_short hn1 hsn] at hic2
    have hem : (os.map owD).isEmpty = false := by rw [hos0]; rfl
    rw [hem] at hne
    rw [← hos0]
    obtain ⟨OS, hOS⟩ : ∃ x, x = os.map owD := ⟨_, rfl⟩
    rw [← hOS] at hic hic2 hne ⊢
    simp [q__law_right_4, hic, hne, cut1]
    simp only [List.drop_one] at hic2
    simp [hic2]
    exact k a b _ s7 s8 ha
end
end K9
end PK90ZQ
section PK90ZR
set_option maxHeartbeats 4000000
open PySem PySem.Spec PyProof.Rows L2 DL
namespace K9
theorem rep_two {ts : List Tk} {ps : List Pg} {o : Option Int} (ok : Ok ts ps) (h : LeastL (sg ts ps) (pts ps.length) o) : ∃ x : Str, gRepr [.list [optD o, optD o]] = some (.d (.str x)) ∧ PyData.strOk x = true := by
  have hf := due_fit ok h
  have h2 : Fit 1 100 (.list [optD o, optD o]) := (Fit.list (n := 0) (w := 41) (k := 2) (fun x hx => by
    simp only [List.mem_cons, List.not_mem_nil, or_false] at hx
    rcases hx with rfl | rfl <;> exact hf) (by simp)).up (by omega) (by omega)
  exact ⟨_, h2.repr, h2.so⟩
/-- a call that draws, whose arguments draw -/
theorem W_fnA {G : GM} {n i m : Nat} {ρ : Rho} {a0 b0 : Int} {fa : AM} {Q : Rs × Rho → Prop} (h : ρ[i]? = some (pot a0 b0)) (hf : W (fa ρ) fun x => ∃ a b : Int, x.1.length + 1 = n ∧ x.2[i]? = some (pot a b) ∧ W (G (pot a b :: x.1.map .d)) fun y => ∃ (r : Rs) (a' b' : Int), y = (r, pot a' b' :: List.replicate m .u) ∧ Q (r, x.2.set i (pot a' b'))) : W (eCallP n G i fa ρ) Q := by
  obtain ⟨⟨ds, ρ1⟩, e, a, b, hn, h1, ⟨y, e2, r, a', b', rfl, hq⟩⟩ := hf
  subst hn
  unfold eCallP
  unfold pot at e2 h h1
  simp only at h1 e2
  simp only [h, h1, Option.bind_some, x_listOf_p, e, if_true, e2, W_some, x_with_p, List.getElem?_cons_zero, x_pOf, Option.map_some]
  exact hq
noncomputable def t14 : SM := (sSeq q__law_right_14 (sSeq q__law_right_13 (sSeq (sIf (tVal (eBin (gIsB false) (eVar 4) (eK .none))) (sSeq q__law_right_6 sNil) sNil) (sSeq q__law_right_12 (sSeq q__law_right_11 (sSeq (sSet 10 (look (eApp gRepr (aCons (eVar 9) aNil)))) (sSeq (sExpr (eMeth opAppend 9 (aCons (eK .none) aNil))) (sSeq q__law_right_10 (sSeq (sExpr (eMeth opPop 9 aNil)) (sSeq (sFor (iApp range1D (aCons (eK (.int 5)) aNil)) (gdName 11) l__law_right_9) (sSeq (sRet (eBin gEq (eApp gRepr (aCons (eApp gLst (aCons (eVar 1) (aCons (eVar 2) aNil))) aNil)) (eVar 3))) sNil)))))))))))
noncomputable def t15 : SM := sSeq q__law_right_15 (sSeq (sIf (tVal (eBin gEq (eVar 5) (eApp gLst aNil))) (sSeq (sSet 6 (eApp gLst aNil)) (sSeq q__law_right_5 (sSeq q__law_right_4 sNil))) sNil) t14)
section
variable {ts : List Tk} {ps : List Pg} {o : Option Int}
theorem from15 (ok : Ok ts ps) (ho : LeastL (sg ts ps) (pts ps.length) o) (a b : Int) (ha : 0 ≤ a) : W (t15 [pot a b, .d (.list (ts.map Tk.d)), .d (.list (ps.map Pg.d)), .d (shD ts ps), .d (optD o), .u, .u, .u, .u, .u, .u, .u, .u, .u, .u, .u, .u, .u, .u, .u]) (BodyK 1 RiR) := by
  have ht8 := ok.t8
  have hp10 := ok.p10
  refine W_seq ?_
  simp only [q__law_right_15, x_sSet, W_map]
  refine W_comp Pg.d (fun p => hopeless ts p) (fun _ => .int 1) ps (ρ' := [pot a b, .d (.list (ts.map Tk.d)), .d (.list (ps.map Pg.d)), .d (shD ts ps), .d (optD o), .u, .u, .u, .u, .u, .u, .u, .u, .u, .u, .u, .u, .u, .u, .u]) (by simp) (fun p hp => ?_) (by omega) ?_
  · have hs := law_single_v ts [p] (by omega) (by simp) (fun q hq => by
      rw [List.mem_singleton.mp hq]
      exact Nat.le_trans (ok.pok p hp).z.2.1 (by omega))
    have hs2 : m__law_single [.d (.list (ts.map Tk.d)), .d (.list [p.d])] = some (.d (optD (sgl ts [p])), [.u, .u]) := hs
    have hnn : isNone (optD (sgl ts [p])) = hopeless ts p := by
      unfold hopeless
      cases sgl ts [p] <;> rfl
    simp [hs2, hnn]
  have hhd : (ps.filter fun p => hopeless ts p).map (fun _ => PyData.int 1) = hopD ts ps := rfl
  rw [hhd]
  have hei := hop_eq ts ps
  have hiff := hop_iff ok ho
  rw [hiff] at hei
  obtain ⟨HD, hHD⟩ : ∃ x, x = hopD ts ps := ⟨_, rfl⟩
  have ht := from_told ok ho
  rw [← hHD] at hei ht ⊢
  refine SeqK.nx (W_seq ?_)
  cases o with
  | none =>
    simp only [Option.isSome_none] at hei
    simp [hei]
    refine SeqK.nx ?_
    exact ht a b ha .u .u .u
  | some C =>
    simp only [Option.isSome_some] at hei
    simp only [x_sIf, x_tVal, x_eBin, x_eApp, x_aNil, x_eVar, x_wipeR_cons, x_wipeR_nil, W_bind, W_map, List.getElem?_cons_succ, List.getElem?_cons_zero, W_some, x_obs, x_oms, x_data_d, x_data_l, x_sl_l, x_gLst (show ([] : List PyData).length ≤ 1000 by simp), List.set_cons_succ, List.set_cons_zero, hei, x_boolOf, if_true]
    refine own_part ok (fun p hp => ?_) _ _ _ a b ha fun a b s6 s7 s8 ha => ?_
    · cases hh : hopeless ts p with
      | false => rfl
      | true => exact absurd ((least_none_iff ok ho).mpr ⟨p, hp, hh⟩) (by simp)
    · refine SeqK.nx ?_
      exact ht a b ha s6 s7 s8
theorem from16 (ok : Ok ts ps) (ho : LeastL (sg ts ps) (pts ps.length) o) (a b : Int) (ha : 0 ≤ a) : W (sSeq q__law_right_16 t15 [pot a b, .d (.list (ts.map Tk.d)), .d (.list (ps.map Pg.d)), .d (shD ts ps), .d (optD o), .u, .u, .u, .u, .u, .u, .u, .u, .u, .u, .u, .u, .u, .u, .u]) (BodyK 1 RiR) := by
  have hc1 := cheapest_is ok ho (v := .list (ts.map Tk.d)) (u := .list (ps.map Pg.d)) .l .l
  have hc2 := cheapest_is ok ho (v := .tuple (ts.map Tk.d)) (u := .tuple (ps.map Pg.d)) .t .t
  have hgt : ∀ xs, gTuple [.list xs] = some (.d (.tuple xs)) := fun _ => rfl
  obtain ⟨x2, hx1, hx2⟩ := rep_two ok ho
  have hne := ne_self hx2
  have hf := from15 ok ho
  refine W_seq ?_
  generalize ts.map Tk.d = TS at *
  generalize ps.map Pg.d = PS at *
  generalize shD ts ps = SH at *
  generalize optD o = OO at *
  have g2l : gLst [OO, OO] = some (.l [OO, OO]) := x_gLst (by simp)
  have hp : perm [1, 0] [PyData.tuple PS, PyData.tuple TS] = [.tuple TS, .tuple PS] := rfl
  simp only [q__law_right_16, x_sIf, x_tVal, x_eBin, x_eApp, x_aCons, x_aNil, x_eVar, x_eCall, x_eCallK, W_bind, W_map, List.getElem?_cons_succ, List.getElem?_cons_zero, W_some, x_obs, x_oms, x_data_d, x_data_l, List.length_cons, List.length_nil, List.map_cons, List.map_nil, if_true, hc1, hgt, hp, and_self, hc2, g2l, hx1, hne, x_boolOf, Bool.false_eq_true, if_false, x_sNil, Nat.zero_add, Nat.reduceAdd]
  refine SeqK.nx ?_
  exact hf a b ha
theorem from17 (ok : Ok ts ps) (hp : ps.length ≤ 6) (a b : Int) (ha : 0 ≤ a) : W (sSeq q__law_right_17 (sSeq q__law_right_16 t15) [pot a b, .d (.list (ts.map Tk.d)), .l (ps.map Pg.d), .u, .u, .u, .u, .u, .u, .u, .u, .u, .u, .u, .u, .u, .u, .u, .u, .u]) (BodyK 1 RiR) := by
  obtain ⟨o, ho, hlc⟩ := law_cheapest_v ok hp
  have hrt := rep_TQ ok
  have hf := from16 ok ho
  refine W_seq ?_
  generalize ts.map Tk.d = TS at *
  generalize ps.map Pg.d = PS at *
  generalize shD ts ps = SH at *
  generalize optD o = OO at *
  have g2l : gLst [.list TS, .list PS] = some (.l [.list TS, .list PS]) := x_gLst (by simp)
  simp only [q__law_right_17, x_sPar, x_eBin, x_eApp, x_aCons, x_aNil, x_eVar, x_eCall, W_bind, W_map, List.getElem?_cons_succ, List.getElem?_cons_zero, W_some, x_obs, x_oms, x_data_d, x_data_l, List.length_cons, List.length_nil, List.map_cons, List.map_nil, if_true, g2l, hrt, hlc, List.set_cons_succ, List.set_cons_zero, x_sl_d, Nat.zero_add, Nat.reduceAdd]
  refine SeqK.nx ?_
  exact hf a b ha
end
theorem many_of {d : PyData} (hdm : d ∈ [PyData.int 0, .int 1, .int 2, .int 3, .int 4, .int 4, .int 5, .int 5, .int 6]) : ∃ n : Nat, n ≤ 6 ∧ d = .int (n : Int) := by
  simp only [List.mem_cons, List.not_mem_nil, or_false] at hdm
  rcases hdm with rfl | rfl | rfl | rfl | rfl | rfl | rfl | rfl | rfl
  · exact ⟨0, by omega, rfl⟩
  · exact ⟨1, by omega, rfl⟩
  · exact ⟨2, by omega, rfl⟩
  · exact ⟨3, by omega, rfl⟩
  · exact ⟨4, by omega, rfl⟩
  · exact ⟨4, by omega, rfl⟩
  · exact ⟨5, by omega, rfl⟩
  · exact ⟨5, by omega, rfl⟩
  · exact ⟨6, by omega, rfl⟩
theorem from18 {ts : List Tk} (ht : ∀ t ∈ ts, t.ok) (ht1 : 1 ≤ ts.length) (ht8 : ts.length ≤ 8) (a b : Int) (ha : 0 ≤ a) : W (sSeq q__law_right_18 (sSeq q__law_right_17 (sSeq q__law_right_16 t15)) [pot a b, .l (ts.map Tk.d), .u, .u, .u, .u, .u, .u, .u, .u, .u, .u, .u, .u, .u, .u, .u, .u, .u, .u]) (BodyK 1 RiR) := by
  refine W_seq ?_
  simp only [q__law_right_18, x_sSet, W_map]
  refine W_fnA (m := 2) (a0 := a) (b0 := b) rfl ?_
  simp only [x_aCons, x_aNil, W_bind, W_map, x_eVar, List.getElem?_cons_succ, List.getElem?_cons_zero, W_some, x_obs, x_oms, x_data_d, List.set_cons_succ, List.set_cons_zero]
  refine W_pick rfl ?_
  simp only [x_aCons, x_eApp, x_eK, x_aNil, W_bind, W_map, W_some, x_obs, x_oms, x_data_d, x_data_l, x_gLst (show [PyData.int 0, .int 1, .int 2, .int 3, .int 4, .int 4, .int 5, .int 5, .int 6].length ≤ 1000 by simp)]
  refine ⟨_, .inl rfl, by simp, by simp, a, b, ha, rfl, fun d hdm a b ha => ?_⟩
  obtain ⟨n, n6, rfl⟩ := many_of hdm
  refine ⟨a, b, rfl, rfl, ?_⟩
  refine (passages_W ts ht ht1 ht8 n (by omega) a b ha).mono fun x ⟨ps, a, b, hps, hpl, ha, e⟩ => ⟨_, a, b, e, ?_⟩
  have ok : Ok ts ps := ⟨ht, hps, ht1, ht8, by omega⟩
  refine SeqK.nx ?_
  exact from17 ok (by omega) a b ha
theorem right_W (a b : Int) (ha : 0 ≤ a) : W (m__law_right [pot a b]) RiR := by
  refine W_body (W_seq ?_)
  simp only [q__law_right_19, x_sIf, x_tVal, x_eBin, W_bind, W_map]
  refine W_draw (n := 8) rfl ha (by simp) (by omega) (by omega) fun d a b h1 h2 ha => ?_
  by_cases hd : d = 0
  · simp [hd]
    refine W_last ?_
    simp
    refine W_fnR (m := 0) (ρ1 := pot a b :: List.replicate 19 .u) (ds := []) (Pr := fun r => r = .d (.bool true)) ((great_W a b ha).mono fun x ⟨a, b, h1, h2⟩ => ⟨_, a, b, h1, rfl, h2⟩) rfl rfl rfl rfl fun r a b hr ha => ?_
    subst hr
    exact SeqK.ret (ri_out (by simp))
  · simp [hd]
    refine SeqK.nx (W_seq ?_)
    simp only [x_sSet, W_map]
    refine W_fnR (m := 0) (ρ1 := pot a b :: List.replicate 19 .u) (ds := []) (Pr := fun r => ∃ ts : List Tk, (∀ t ∈ ts, t.ok) ∧ 1 ≤ ts.length ∧ ts.length ≤ 8 ∧ r = .l (ts.map Tk.d)) ((tickets_W a b ha).mono fun x ⟨ts, a, b, h1, h2, h3, h4, h5⟩ => ⟨_, a, b, h4, ⟨ts, h1, h2, h3, rfl⟩, h5⟩) rfl rfl rfl rfl fun r a b ⟨ts, ht, ht1, ht8, hr⟩ ha => ?_
    subst hr
    refine SeqK.nx ?_
    exact from18 ht ht1 ht8 a b ha
theorem right_ok : ∀ s1 s2 : Int, 0 ≤ s1 → ∃ ρ', m__law_right [.p [.int s1, .int s2]] = some (.d (.bool true), ρ') := fun s1 s2 h => by
  obtain ⟨x, e, ρ', rfl⟩ := right_W s1 s2 h
  exact ⟨ρ', e⟩
end K9
end PK90ZR
section PK90C
set_option maxHeartbeats 1000000
open PySem PySem.Spec PyProof.Rows L2 DL
namespace K9
def spPot (K : PySem.W.Frag) : Sp := fun vs H Q _ => ∃ (a : Addr) (ns : List Int), vs = [.ref a, .int 0] ∧ SqL K H a (ns.map V.int) ∧ ns.length ≤ 63 ∧ ∀ (s1 s2 : Int) (p : Addr) (H' : Hp), 0 ≤ s1 → H' p = some (.lst [.int s1, .int s2]) → Q (.ref p) H'
def spLaw (K : PySem.W.Frag) : Sp := fun vs H Q _ => ∃ (a : Addr) (ns : List Int), vs = [.ref a] ∧ SqL K H a (ns.map V.int) ∧ ns.length ≤ 63 ∧ ∀ H', Q (.bl true) H'
theorem sc__law_pot : FnScope ["script", "k", "cell"] ["script", "k"] (defScope s__law_pot) := ⟨rfl, rfl, rfl, by decide +kernel, rfl, by decide +kernel, by decide +kernel⟩
theorem sc_law : FnScope ["script"] ["script"] (defScope s_law) := ⟨rfl, rfl, rfl, by decide +kernel, rfl, by decide +kernel, by decide +kernel⟩
def b_pot2 : SM := sSeq (sRet (eApp gLst (aCons (eApp gMax (aCons (eK (.int 0)) (aCons (eBin gSub (eVar 2) (eBin gPow (eK (.int 10)) (eK (.int 18)))) aNil))) (aCons (eBin gAdd (eBin gMod (eApp gInt1 (aCons (eBin gAdd (eBin gAdd (eBin gMul (eBin gMod (eApp gInt1 (aCons (eVar 2) aNil)) (eK (.int 2147483549))) (eK (.int 40213))) (eBin gMul (eK (.int 733)) (eVar 1))) (eK (.int 1511))) aNil)) (eK (.int 2147483563))) (eK (.int 1))) aNil)))) sNil
theorem pot2 (c : Int) : ∃ s1 s2 : Int, 0 ≤ s1 ∧ b_pot2 [.u, .d (.int 0), .d (.int c)] = some (.ret (.l [.int s1, .int s2]) [.u, .d (.int 0), .d (.int c)]) := by
  have hp : (10 : Int) ^ 18 = 1000000000000000000 := by decide
  refine ⟨if c - 10 ^ 18 > 0 then c - 10 ^ 18 else 0, (c % 2147483549 * 40213 + 733 * 0 + 1511) % 2147483563 + 1, ?_, ?_⟩
  · split <;> omega
  · have h1 : cMul (c % 2147483549) 40213 = true := by unfold cMul; simp
    have h2 : cMul 733 0 = true := by decide
    have h3 : cPow 10 18 = true := by decide
    have h4 : (2 : Nat) ≤ sizeLine := by rw [sizeLine_eq]; omega
    simp [b_pot2, sSeq, sRet, eApp, aCons, aNil, gMax, eK, eBin, DL.gSub, gI, eVar, gPow, h3, gAdd, gMod, gInt1, gMul, h1, h2, gLst, h4, Rs.data]
section
variable {P : Program} {w : World} {K : PySem.W.Frag} {mg : Str → Option Value} {base : Heap}
theorem ok_pot (T : Top K mg) {f : Addr} {fd : FuncData} (F : Fun K "_law_pot" "_law_pot" s__law_pot f fd) : FnG P w K mg base CX0 1 f fd ["script", "k"] (spPot K) := by
  refine fnG_of (N := ["script", "k", "cell"]) F sc__law_pot (fun vs H Q E h => ?_) fun cdv A outer s H vs Q E hgu hr h => ?_
  · obtain ⟨a, ns, rfl, _⟩ := h
    rfl
  · obtain ⟨a, ns, rfl, hS, hl, k⟩ := h
    refine ⟨_, pss_cons (ps_set (i := 2) sc__law_pot.nd rfl (Or.inl rfl) (pe_ifExp (pt_cmpR op_lt (pv 1) (pe_callB call_len_seq (by rfl) T.z_len bb_len (pa_cons (pv 0) pa_nil)) (nomark _))
      (pe_callB call_abs (by rfl) T.z_abs bb_abs (pa_cons (pe_ix ix_list (pv 0) (pv 1) (fun _ _ => rfl)) pa_nil)) (pe_op op_add (pe_op op_mul pe_int (pv 1)) pe_int)) rfl)
      (dss_cons (g := sRet _) (ds_ret (de_lst (da_cons (de_callB (dc_max2 rfl) (by rfl) T.z_max bb_max (da_cons de_int (da_cons (de_op dop_sub (de_var 2) (de_op dop_pow de_int de_int)) da_nil))) (da_cons (de_op dop_add (de_op dop_mod (de_callTy dc_int (by rfl) T.z_int bb_int (da_cons (de_op dop_add (de_op dop_add (de_op dop_mul (de_op dop_mod (de_callTy dc_int (by rfl) T.z_int bb_int (da_cons (de_var 2) da_nil)) de_int) de_int) (de_op dop_mul de_int (de_var 1))) de_int) da_nil)) de_int) de_int) da_nil)))) dss_nil), ?_⟩
    have rest : ∀ c : Int, tDS K b_pot2 { nx := fun _ H' => Q .non H', rt := Q } [some (.ref a), some (.int 0), some (.int c)] H := fun c => by
      obtain ⟨s1, s2, h1, h2⟩ := pot2 c
      refine ⟨fun _ => none, fun _ => none, fun _ => none, _, _, ⟨rfl, (fun _ _ e => nomatch e), (fun _ _ e => nomatch e), (fun _ e => absurd rfl e), fun i t e => ?_, fun i j b c1 _ => ?_⟩, h2, fun v σ' B' H' S s' q => ?_⟩
      · match i, e with
        | 0, e => cases e; trivial
        | 1, e => cases e; exact ⟨_, rfl, .int _⟩
        | 2, e => cases e; exact ⟨_, rfl, .int _⟩
        | i + 3, e => cases e
      · obtain ⟨t, e, hc, _⟩ := c1
        match i, e with
        | 0, e => cases e; cases hc
        | 1, e => cases e; cases hc
        | 2, e => cases e; cases hc
        | i + 3, e => cases e
      · obtain ⟨p, ws, rfl, _, _, hp, hd, _⟩ := q
        obtain ⟨v1, v2, rfl, d1, d2⟩ := two_of hd
        cases d1
        cases d2
        exact k s1 s2 p H' h1 hp
    refine ⟨.int 0, rfl, .ref a, rfl, a, _, rfl, .inl hS, 0, _, rfl, rfl, _, rfl, ?_⟩
    cases ns with
    | nil =>
      refine iteF ?_
      exact ⟨_, rfl, 1511, 0, rfl, rfl, .inr ⟨by decide, by decide⟩, _, _, rfl, rfl, rest _⟩
    | cons n ns =>
      refine ite2 (fun _ => ?_) fun z => absurd ?_ z
      · exact ⟨_, rfl, _, rfl, a, _, 0, .int n, rfl, rfl, hS, by simp [atI, ixN], n, rfl, rest _⟩
      · rw [List.length_map]
        exact decide_eq_true (by simp)
theorem ok_law (T : Top K mg) (hM : ∀ s1 s2 : Int, 0 ≤ s1 → ∃ ρ', m__law_right [.p [.int s1, .int s2]] = some (.d (.bool true), ρ')) {f : Addr} {fd : FuncData} (F : Fun K "law" "law" s_law f fd) : FnG P w K mg base CX0 11 f fd ["script"] (spLaw K) := by
  obtain ⟨fp, fdp, FP, mp, bp, _⟩ := T.d__law_pot.ex
  obtain ⟨fr, fdr, FR, mr, kr, br, _⟩ := (fn__law_right (P := P) (w := w) (base := base) T).ex
  refine fnG_of (N := ["script"]) F sc_law (fun vs H Q E h => ?_) fun cdv A outer s H vs Q E hgu hr h => ?_
  · obtain ⟨a, ns, rfl, _⟩ := h
    rfl
  · obtain ⟨a, ns, rfl, hS, hl, k⟩ := h
    refine ⟨_, pss_one (ps_ret (peG_call (E := E0) FR hgu (hr.mono (by decide)) (by rfl) mr kr br .nil pass0 (pa_cons (peG_call (E := E0) (ok_pot T FP) hgu (hr.mono (by decide)) (by rfl) mp FP.kp bp .nil pass0 (pa_cons (pv 0) (pa_cons pe_int pa_nil))) pa_nil))), ?_⟩
    refine ⟨.ref a, rfl, a, ns, rfl, hS, hl, fun s1 s2 p H' h1 hp => ?_⟩
    obtain ⟨ρ', hm⟩ := hM s1 s2 h1
    refine ⟨fun _ => none, fun _ => none, fun j => if j = 0 then some p else none, _, _, _, rfl, ⟨rfl, (fun _ _ e => nomatch e), (fun _ _ e => nomatch e), (fun _ e => absurd rfl e), fun i t e => ?_, fun i j b c1 c2 => ?_⟩, fun i b e => ?_, hm, fun v B' H'' S s' q => ?_⟩
    · match i, e with
      | 0, e => cases e; exact ⟨p, _, rfl, rfl, rfl, rfl, hp, .cons (.int _) (.cons (.int _) .nil)⟩
      | i + 1, e => cases e
    · obtain ⟨t, e, _, _⟩ := c1
      obtain ⟨t2, e2, _, _⟩ := c2
      match i, j, e, e2 with
      | 0, 0, _, _ => rfl
      | 0, j + 1, _, e2 => cases e2
      | i + 1, _, e, _ => cases e
    · match i, e with
      | 0, e => cases e; rfl
      | i + 1, e => cases e
    · cases q
      exact k H''
theorem end_mk {fa : Addr} (T : Top K mg) (hM : ∀ s1 s2 : Int, 0 ≤ s1 → ∃ ρ', m__law_right [.p [.int s1, .int s2]] = some (.d (.bool true), ρ')) (hfa : mg "law" = some (.ref fa)) :
    ∃ fd : FuncData, (∀ (s : Shared) (u : Value), BindsTo s fd ⟨[u], []⟩ [("script", u)]) ∧ ∀ base : Heap, K.In base → base.Ns mainGlobals mg → FnG P w K mg base CX0 11 fa fd ["script"] (spLaw K) := by
  obtain ⟨f, fd, F, hm, hb, hk⟩ := T.d_law.ex
  have e := hfa.symm.trans hm
  cases e
  refine ⟨fd, fun s u => ?_, fun base _ _ => ok_law T hM F⟩
  obtain ⟨oc, od, kV, doc, pm, an, cdv, ct, osl, e, lk, hcd⟩ := F.ex
  subst e
  exact .of_eq rfl
end
end K9
end PK90C
open PySem PySem.Spec PyProof.Rows L2 DL in
theorem K9.fin {P : Program} {w : World} {K : PySem.W.Frag} {h : Heap} {mg : PySem.Str → Option Value} {fa : Addr} (X : K.In h) (G : h.Ns mainGlobals mg) (hfa : mg "law" = some (.ref fa))
    (t_is_integer : DL.Def K mg "is_integer" K9.s_is_integer ["value"])
    (t_is_between : DL.Def K mg "is_between" K9.s_is_between ["value", "least", "most"])
    (t_are_rising : DL.Def K mg "are_rising" K9.s_are_rising ["numbers"])
    (t_are_zones : DL.Def K mg "are_zones" K9.s_are_zones ["value"])
    (t_is_ticket : DL.Def K mg "is_ticket" K9.s_is_ticket ["value"])
    (t_is_passage : DL.Def K mg "is_passage" K9.s_is_passage ["value"])
    (t_are_tickets : DL.Def K mg "are_tickets" K9.s_are_tickets ["value"])
    (t_are_passages : DL.Def K mg "are_passages" K9.s_are_passages ["value"])
    (t_want_tickets : DL.Def K mg "want_tickets" K9.s_want_tickets ["value"])
    (t_want_passages : DL.Def K mg "want_passages" K9.s_want_passages ["value"])
    (t_most_at_once : DL.Def K mg "most_at_once" K9.s_most_at_once ["passages"])
    (t_does_cover : DL.Def K mg "does_cover" K9.s_does_cover ["ticket", "passages"])
    (t_places_in : DL.Def K mg "places_in" K9.s_places_in ["number"])
    (t_first_in : DL.Def K mg "first_in" K9.s_first_in ["passages", "number"])
    (t_kinds_that_cover : DL.Def K mg "kinds_that_cover" K9.s_kinds_that_cover ["tickets", "passages", "number"])
    (t_parts_with : DL.Def K mg "parts_with" K9.s_parts_with ["number", "place"])
    (t_least_kinds : DL.Def K mg "least_kinds" K9.s_least_kinds ["tickets", "passages"])
    (t_least_rows : DL.Def K mg "least_rows" K9.s_least_rows ["tickets", "passages"])
    (t_least_prices : DL.Def K mg "least_prices" K9.s_least_prices ["tickets", "passages"])
    (t_cheapest_of : DL.Def K mg "cheapest_of" K9.s_cheapest_of ["tickets", "passages"])
    (t_cover_by : DL.Def K mg "cover_by" K9.s_cover_by ["rows"])
    (t_is_lot : DL.Def K mg "is_lot" K9.s_is_lot ["value", "many"])
    (t_is_bought : DL.Def K mg "is_bought" K9.s_is_bought ["tickets", "passages", "value"])
    (t_covers : DL.Def K mg "covers" K9.s_covers ["tickets", "passages", "value"])
    (t_is_cover : DL.Def K mg "is_cover" K9.s_is_cover ["tickets", "passages", "value"])
    (t_cheapest : DL.Def K mg "cheapest" K9.s_cheapest ["tickets", "passages"])
    (t_cheapest_cover : DL.Def K mg "cheapest_cover" K9.s_cheapest_cover ["tickets", "passages"])
    (t__law_pot : DL.Def K mg "_law_pot" K9.s__law_pot ["script", "k"])
    (t__law_draw : DL.Def K mg "_law_draw" K9.s__law_draw ["pot", "many"])
    (t__law_pick : DL.Def K mg "_law_pick" K9.s__law_pick ["pot", "some"])
    (t__law_zones : DL.Def K mg "_law_zones" K9.s__law_zones ["pot"])
    (t__law_ticket : DL.Def K mg "_law_ticket" K9.s__law_ticket ["pot"])
    (t__law_tickets : DL.Def K mg "_law_tickets" K9.s__law_tickets ["pot"])
    (t__law_passage : DL.Def K mg "_law_passage" K9.s__law_passage ["pot"])
    (t__law_passages : DL.Def K mg "_law_passages" K9.s__law_passages ["pot", "tickets", "many"])
    (t__law_covers : DL.Def K mg "_law_covers" K9.s__law_covers ["ticket", "some"])
    (t__law_partings : DL.Def K mg "_law_partings" K9.s__law_partings ["many"])
    (t__law_single : DL.Def K mg "_law_single" K9.s__law_single ["tickets", "some"])
    (t__law_cheapest : DL.Def K mg "_law_cheapest" K9.s__law_cheapest ["tickets", "passages"])
    (t__law_is_place : DL.Def K mg "_law_is_place" K9.s__law_is_place ["value", "many"])
    (t__law_is_cover : DL.Def K mg "_law_is_cover" K9.s__law_is_cover ["tickets", "passages", "value"])
    (t__law_bent : DL.Def K mg "_law_bent" K9.s__law_bent ["pot", "tickets", "passages", "cover"])
    (t__law_great_right : DL.Def K mg "_law_great_right" K9.s__law_great_right ["pot"])
    (t__law_right : DL.Def K mg "_law_right" K9.s__law_right ["pot"])
    (t_law : DL.Def K mg "law" K9.s_law ["script"])
    (z_abs : PySem.W.nsIn K mainGlobals "abs" = some none)
    (z_all : PySem.W.nsIn K mainGlobals "all" = some none)
    (z_any : PySem.W.nsIn K mainGlobals "any" = some none)
    (z_bool : PySem.W.nsIn K mainGlobals "bool" = some none)
    (z_divmod : PySem.W.nsIn K mainGlobals "divmod" = some none)
    (z_enumerate : PySem.W.nsIn K mainGlobals "enumerate" = some none)
    (z_int : PySem.W.nsIn K mainGlobals "int" = some none)
    (z_isinstance : PySem.W.nsIn K mainGlobals "isinstance" = some none)
    (z_len : PySem.W.nsIn K mainGlobals "len" = some none)
    (z_list : PySem.W.nsIn K mainGlobals "list" = some none)
    (z_max : PySem.W.nsIn K mainGlobals "max" = some none)
    (z_min : PySem.W.nsIn K mainGlobals "min" = some none)
    (z_range : PySem.W.nsIn K mainGlobals "range" = some none)
    (z_repr : PySem.W.nsIn K mainGlobals "repr" = some none)
    (z_set : PySem.W.nsIn K mainGlobals "set" = some none)
    (z_sorted : PySem.W.nsIn K mainGlobals "sorted" = some none)
    (z_str : PySem.W.nsIn K mainGlobals "str" = some none)
    (z_sum : PySem.W.nsIn K mainGlobals "sum" = some none)
    (z_tuple : PySem.W.nsIn K mainGlobals "tuple" = some none)
    (z_zip : PySem.W.nsIn K mainGlobals "zip" = some none)
    {v_LATEST : Value} (g_LATEST : PySem.W.nsIn K mainGlobals "LATEST" = some (some v_LATEST)) (e_LATEST : ∃ t, v_LATEST = .int 9999 t)
    {v_MOST_KINDS : Value} (g_MOST_KINDS : PySem.W.nsIn K mainGlobals "MOST_KINDS" = some (some v_MOST_KINDS)) (e_MOST_KINDS : ∃ t, v_MOST_KINDS = .int 8 t)
    {v_MOST_MINUTES : Value} (g_MOST_MINUTES : PySem.W.nsIn K mainGlobals "MOST_MINUTES" = some (some v_MOST_MINUTES)) (e_MOST_MINUTES : ∃ t, v_MOST_MINUTES = .int 11000 t)
    {v_MOST_PASSAGES : Value} (g_MOST_PASSAGES : PySem.W.nsIn K mainGlobals "MOST_PASSAGES" = some (some v_MOST_PASSAGES)) (e_MOST_PASSAGES : ∃ t, v_MOST_PASSAGES = .int 10 t)
    {v_MOST_PERSONS : Value} (g_MOST_PERSONS : PySem.W.nsIn K mainGlobals "MOST_PERSONS" = some (some v_MOST_PERSONS)) (e_MOST_PERSONS : ∃ t, v_MOST_PERSONS = .int 5 t)
    {v_MOST_PRICE : Value} (g_MOST_PRICE : PySem.W.nsIn K mainGlobals "MOST_PRICE" = some (some v_MOST_PRICE)) (e_MOST_PRICE : ∃ t, v_MOST_PRICE = .int 9999 t)
    {v_MOST_ZONES : Value} (g_MOST_ZONES : PySem.W.nsIn K mainGlobals "MOST_ZONES" = some (some v_MOST_ZONES)) (e_MOST_ZONES : ∃ t, v_MOST_ZONES = .int 4 t)
    : ∃ fd : FuncData, (∀ (s : Shared) (u : Value), BindsTo s fd ⟨[u], []⟩ [("script", u)]) ∧
      ∀ base : Heap, K.In base → base.Ns mainGlobals mg → DL.FnG P w K mg base CX0 11 fa fd ["script"] (K9.spLaw K) :=
  K9.end_mk ⟨t_is_integer, t_is_between, t_are_rising, t_are_zones, t_is_ticket, t_is_passage, t_are_tickets, t_are_passages, t_want_tickets, t_want_passages, t_most_at_once, t_does_cover, t_places_in, t_first_in, t_kinds_that_cover, t_parts_with, t_least_kinds, t_least_rows, t_least_prices, t_cheapest_of, t_cover_by, t_is_lot, t_is_bought, t_covers, t_is_cover, t_cheapest, t_cheapest_cover, t__law_pot, t__law_draw, t__law_pick, t__law_zones, t__law_ticket, t__law_tickets, t__law_passage, t__law_passages, t__law_covers, t__law_partings, t__law_single, t__law_cheapest, t__law_is_place, t__law_is_cover, t__law_bent, t__law_great_right, t__law_right, t_law, PySem.W.mg_none_of X G z_abs, PySem.W.mg_none_of X G z_all, PySem.W.mg_none_of X G z_any, PySem.W.mg_none_of X G z_bool, PySem.W.mg_none_of X G z_divmod, PySem.W.mg_none_of X G z_enumerate, PySem.W.mg_none_of X G z_int, PySem.W.mg_none_of X G z_isinstance, PySem.W.mg_none_of X G z_len, PySem.W.mg_none_of X G z_list, PySem.W.mg_none_of X G z_max, PySem.W.mg_none_of X G z_min, PySem.W.mg_none_of X G z_range, PySem.W.mg_none_of X G z_repr, PySem.W.mg_none_of X G z_set, PySem.W.mg_none_of X G z_sorted, PySem.W.mg_none_of X G z_str, PySem.W.mg_none_of X G z_sum, PySem.W.mg_none_of X G z_tuple, PySem.W.mg_none_of X G z_zip, (e_LATEST.elim fun t e => ⟨t, e ▸ PySem.W.mg_of X G g_LATEST⟩), (e_MOST_KINDS.elim fun t e => ⟨t, e ▸ PySem.W.mg_of X G g_MOST_KINDS⟩), (e_MOST_MINUTES.elim fun t e => ⟨t, e ▸ PySem.W.mg_of X G g_MOST_MINUTES⟩), (e_MOST_PASSAGES.elim fun t e => ⟨t, e ▸ PySem.W.mg_of X G g_MOST_PASSAGES⟩), (e_MOST_PERSONS.elim fun t e => ⟨t, e ▸ PySem.W.mg_of X G g_MOST_PERSONS⟩), (e_MOST_PRICE.elim fun t e => ⟨t, e ▸ PySem.W.mg_of X G g_MOST_PRICE⟩), (e_MOST_ZONES.elim fun t e => ⟨t, e ▸ PySem.W.mg_of X G g_MOST_ZONES⟩)⟩ K9.right_ok hfa
open PySem PySem.W PyProof.Rows
set_option maxRecDepth 100000 in
set_option maxHeartbeats 0 in
theorem PySem.Challenge.cw_citylines_k90_whole_cheapest_by_all_cove_holds : PySem.Challenge.rw_citylines_k90_whole_cheapest_by_all_cove.Holds := by
  w_on; o_law; k_head; (case hw => w_witness2)
  k_fill
  refine DL.headG (l := PySem.Challenge.rw_citylines_k90_whole_cheapest_by_all_cove) (n := 63) (k := 11) (x := "script") (sp := K9.spLaw) rfl (by decide) rfl ⟨rfl, by decide, by decide⟩ (fun w h Y => PySem.W.kIn_of Y) ?F (fun K H a ns hl hS => ⟨a, ns, rfl, hS, hl, fun _ => rfl⟩)
  case F =>
    intro w mg fa h KX G hmg
    refine' K9.fin KX G hmg ?t_is_integer ?t_is_between ?t_are_rising ?t_are_zones ?t_is_ticket ?t_is_passage ?t_are_tickets ?t_are_passages ?t_want_tickets ?t_want_passages ?t_most_at_once ?t_does_cover ?t_places_in ?t_first_in ?t_kinds_that_cover ?t_parts_with ?t_least_kinds ?t_least_rows ?t_least_prices ?t_cheapest_of ?t_cover_by ?t_is_lot ?t_is_bought ?t_covers ?t_is_cover ?t_cheapest ?t_cheapest_cover ?t__law_pot ?t__law_draw ?t__law_pick ?t__law_zones ?t__law_ticket ?t__law_tickets ?t__law_passage ?t__law_passages ?t__law_covers ?t__law_partings ?t__law_single ?t__law_cheapest ?t__law_is_place ?t__law_is_cover ?t__law_bent ?t__law_great_right ?t__law_right ?t_law ?z_abs ?z_all ?z_any ?z_bool ?z_divmod ?z_enumerate ?z_int ?z_isinstance ?z_len ?z_list ?z_max ?z_min ?z_range ?z_repr ?z_set ?z_sorted ?z_str ?z_sum ?z_tuple ?z_zip ?g_LATEST ?e_LATEST ?g_MOST_KINDS ?e_MOST_KINDS ?g_MOST_MINUTES ?e_MOST_MINUTES ?g_MOST_PASSAGES ?e_MOST_PASSAGES ?g_MOST_PERSONS ?e_MOST_PERSONS ?g_MOST_PRICE ?e_MOST_PRICE ?g_MOST_ZONES ?e_MOST_ZONES
    case t_is_integer =>
      refine' DL.def_mk KX G ?a ?l ?c ?k (fun _ _ _ _ _ _ us hl => match us, hl with | [_], _ => rfl)
      (case a => k_is); (case l => k_is); (case c => k_is); (case k => k_is)
    case t_is_between =>
      refine' DL.def_mk KX G ?a ?l ?c ?k (fun _ _ _ _ _ _ us hl => match us, hl with | [_, _, _], _ => rfl)
      (case a => k_is); (case l => k_is); (case c => k_is); (case k => k_is)
    case t_are_rising =>
      refine' DL.def_mk KX G ?a ?l ?c ?k (fun _ _ _ _ _ _ us hl => match us, hl with | [_], _ => rfl)
      (case a => k_is); (case l => k_is); (case c => k_is); (case k => k_is)
    case t_are_zones =>
      refine' DL.def_mk KX G ?a ?l ?c ?k (fun _ _ _ _ _ _ us hl => match us, hl with | [_], _ => rfl)
      (case a => k_is); (case l => k_is); (case c => k_is); (case k => k_is)
    case t_is_ticket =>
      refine' DL.def_mk KX G ?a ?l ?c ?k (fun _ _ _ _ _ _ us hl => match us, hl with | [_], _ => rfl)
      (case a => k_is); (case l => k_is); (case c => k_is); (case k => k_is)
    case t_is_passage =>
      refine' DL.def_mk KX G ?a ?l ?c ?k (fun _ _ _ _ _ _ us hl => match us, hl with | [_], _ => rfl)
      (case a => k_is); (case l => k_is); (case c => k_is); (case k => k_is)
    case t_are_tickets =>
      refine' DL.def_mk KX G ?a ?l ?c ?k (fun _ _ _ _ _ _ us hl => match us, hl with | [_], _ => rfl)
      (case a => k_is); (case l => k_is); (case c => k_is); (case k => k_is)
    case t_are_passages =>
      refine' DL.def_mk KX G ?a ?l ?c ?k (fun _ _ _ _ _ _ us hl => match us, hl with | [_], _ => rfl)
      (case a => k_is); (case l => k_is); (case c => k_is); (case k => k_is)
    case t_want_tickets =>
      refine' DL.def_mk KX G ?a ?l ?c ?k (fun _ _ _ _ _ _ us hl => match us, hl with | [_], _ => rfl)
      (case a => k_is); (case l => k_is); (case c => k_is); (case k => k_is)
    case t_want_passages =>
      refine' DL.def_mk KX G ?a ?l ?c ?k (fun _ _ _ _ _ _ us hl => match us, hl with | [_], _ => rfl)
      (case a => k_is); (case l => k_is); (case c => k_is); (case k => k_is)
    case t_most_at_once =>
      refine' DL.def_mk KX G ?a ?l ?c ?k (fun _ _ _ _ _ _ us hl => match us, hl with | [_], _ => rfl)
      (case a => k_is); (case l => k_is); (case c => k_is); (case k => k_is)
    case t_does_cover =>
      refine' DL.def_mk KX G ?a ?l ?c ?k (fun _ _ _ _ _ _ us hl => match us, hl with | [_, _], _ => rfl)
      (case a => k_is); (case l => k_is); (case c => k_is); (case k => k_is)
    case t_places_in =>
      refine' DL.def_mk KX G ?a ?l ?c ?k (fun _ _ _ _ _ _ us hl => match us, hl with | [_], _ => rfl)
      (case a => k_is); (case l => k_is); (case c => k_is); (case k => k_is)
    case t_first_in =>
      refine' DL.def_mk KX G ?a ?l ?c ?k (fun _ _ _ _ _ _ us hl => match us, hl with | [_, _], _ => rfl)
      (case a => k_is); (case l => k_is); (case c => k_is); (case k => k_is)
    case t_kinds_that_cover =>
      refine' DL.def_mk KX G ?a ?l ?c ?k (fun _ _ _ _ _ _ us hl => match us, hl with | [_, _, _], _ => rfl)
      (case a => k_is); (case l => k_is); (case c => k_is); (case k => k_is)
    case t_parts_with =>
      refine' DL.def_mk KX G ?a ?l ?c ?k (fun _ _ _ _ _ _ us hl => match us, hl with | [_, _], _ => rfl)
      (case a => k_is); (case l => k_is); (case c => k_is); (case k => k_is)
    case t_least_kinds =>
      refine' DL.def_mk KX G ?a ?l ?c ?k (fun _ _ _ _ _ _ us hl => match us, hl with | [_, _], _ => rfl)
      (case a => k_is); (case l => k_is); (case c => k_is); (case k => k_is)
    case t_least_rows =>
      refine' DL.def_mk KX G ?a ?l ?c ?k (fun _ _ _ _ _ _ us hl => match us, hl with | [_, _], _ => rfl)
      (case a => k_is); (case l => k_is); (case c => k_is); (case k => k_is)
    case t_least_prices =>
      refine' DL.def_mk KX G ?a ?l ?c ?k (fun _ _ _ _ _ _ us hl => match us, hl with | [_, _], _ => rfl)
      (case a => k_is); (case l => k_is); (case c => k_is); (case k => k_is)
    case t_cheapest_of =>
      refine' DL.def_mk KX G ?a ?l ?c ?k (fun _ _ _ _ _ _ us hl => match us, hl with | [_, _], _ => rfl)
      (case a => k_is); (case l => k_is); (case c => k_is); (case k => k_is)
    case t_cover_by =>
      refine' DL.def_mk KX G ?a ?l ?c ?k (fun _ _ _ _ _ _ us hl => match us, hl with | [_], _ => rfl)
      (case a => k_is); (case l => k_is); (case c => k_is); (case k => k_is)
    case t_is_lot =>
      refine' DL.def_mk KX G ?a ?l ?c ?k (fun _ _ _ _ _ _ us hl => match us, hl with | [_, _], _ => rfl)
      (case a => k_is); (case l => k_is); (case c => k_is); (case k => k_is)
    case t_is_bought =>
      refine' DL.def_mk KX G ?a ?l ?c ?k (fun _ _ _ _ _ _ us hl => match us, hl with | [_, _, _], _ => rfl)
      (case a => k_is); (case l => k_is); (case c => k_is); (case k => k_is)
    case t_covers =>
      refine' DL.def_mk KX G ?a ?l ?c ?k (fun _ _ _ _ _ _ us hl => match us, hl with | [_, _, _], _ => rfl)
      (case a => k_is); (case l => k_is); (case c => k_is); (case k => k_is)
    case t_is_cover =>
      refine' DL.def_mk KX G ?a ?l ?c ?k (fun _ _ _ _ _ _ us hl => match us, hl with | [_, _, _], _ => rfl)
      (case a => k_is); (case l => k_is); (case c => k_is); (case k => k_is)
    case t_cheapest =>
      refine' DL.def_mk KX G ?a ?l ?c ?k (fun _ _ _ _ _ _ us hl => match us, hl with | [_, _], _ => rfl)
      (case a => k_is); (case l => k_is); (case c => k_is); (case k => k_is)
    case t_cheapest_cover =>
      refine' DL.def_mk KX G ?a ?l ?c ?k (fun _ _ _ _ _ _ us hl => match us, hl with | [_, _], _ => rfl)
      (case a => k_is); (case l => k_is); (case c => k_is); (case k => k_is)
    case t__law_pot =>
      refine' DL.def_mk KX G ?a ?l ?c ?k (fun _ _ _ _ _ _ us hl => match us, hl with | [_, _], _ => rfl)
      (case a => k_is); (case l => k_is); (case c => k_is); (case k => k_is)
    case t__law_draw =>
      refine' DL.def_mk KX G ?a ?l ?c ?k (fun _ _ _ _ _ _ us hl => match us, hl with | [_, _], _ => rfl)
      (case a => k_is); (case l => k_is); (case c => k_is); (case k => k_is)
    case t__law_pick =>
      refine' DL.def_mk KX G ?a ?l ?c ?k (fun _ _ _ _ _ _ us hl => match us, hl with | [_, _], _ => rfl)
      (case a => k_is); (case l => k_is); (case c => k_is); (case k => k_is)
    case t__law_zones =>
      refine' DL.def_mk KX G ?a ?l ?c ?k (fun _ _ _ _ _ _ us hl => match us, hl with | [_], _ => rfl)
      (case a => k_is); (case l => k_is); (case c => k_is); (case k => k_is)
    case t__law_ticket =>
      refine' DL.def_mk KX G ?a ?l ?c ?k (fun _ _ _ _ _ _ us hl => match us, hl with | [_], _ => rfl)
      (case a => k_is); (case l => k_is); (case c => k_is); (case k => k_is)
    case t__law_tickets =>
      refine' DL.def_mk KX G ?a ?l ?c ?k (fun _ _ _ _ _ _ us hl => match us, hl with | [_], _ => rfl)
      (case a => k_is); (case l => k_is); (case c => k_is); (case k => k_is)
    case t__law_passage =>
      refine' DL.def_mk KX G ?a ?l ?c ?k (fun _ _ _ _ _ _ us hl => match us, hl with | [_], _ => rfl)
      (case a => k_is); (case l => k_is); (case c => k_is); (case k => k_is)
    case t__law_passages =>
      refine' DL.def_mk KX G ?a ?l ?c ?k (fun _ _ _ _ _ _ us hl => match us, hl with | [_, _, _], _ => rfl)
      (case a => k_is); (case l => k_is); (case c => k_is); (case k => k_is)
    case t__law_covers =>
      refine' DL.def_mk KX G ?a ?l ?c ?k (fun _ _ _ _ _ _ us hl => match us, hl with | [_, _], _ => rfl)
      (case a => k_is); (case l => k_is); (case c => k_is); (case k => k_is)
    case t__law_partings =>
      refine' DL.def_mk KX G ?a ?l ?c ?k (fun _ _ _ _ _ _ us hl => match us, hl with | [_], _ => rfl)
      (case a => k_is); (case l => k_is); (case c => k_is); (case k => k_is)
    case t__law_single =>
      refine' DL.def_mk KX G ?a ?l ?c ?k (fun _ _ _ _ _ _ us hl => match us, hl with | [_, _], _ => rfl)
      (case a => k_is); (case l => k_is); (case c => k_is); (case k => k_is)
    case t__law_cheapest =>
      refine' DL.def_mk KX G ?a ?l ?c ?k (fun _ _ _ _ _ _ us hl => match us, hl with | [_, _], _ => rfl)
      (case a => k_is); (case l => k_is); (case c => k_is); (case k => k_is)
    case t__law_is_place =>
      refine' DL.def_mk KX G ?a ?l ?c ?k (fun _ _ _ _ _ _ us hl => match us, hl with | [_, _], _ => rfl)
      (case a => k_is); (case l => k_is); (case c => k_is); (case k => k_is)
    case t__law_is_cover =>
      refine' DL.def_mk KX G ?a ?l ?c ?k (fun _ _ _ _ _ _ us hl => match us, hl with | [_, _, _], _ => rfl)
      (case a => k_is); (case l => k_is); (case c => k_is); (case k => k_is)
    case t__law_bent =>
      refine' DL.def_mk KX G ?a ?l ?c ?k (fun _ _ _ _ _ _ us hl => match us, hl with | [_, _, _, _], _ => rfl)
      (case a => k_is); (case l => k_is); (case c => k_is); (case k => k_is)
    case t__law_great_right =>
      refine' DL.def_mk KX G ?a ?l ?c ?k (fun _ _ _ _ _ _ us hl => match us, hl with | [_], _ => rfl)
      (case a => k_is); (case l => k_is); (case c => k_is); (case k => k_is)
    case t__law_right =>
      refine' DL.def_mk KX G ?a ?l ?c ?k (fun _ _ _ _ _ _ us hl => match us, hl with | [_], _ => rfl)
      (case a => k_is); (case l => k_is); (case c => k_is); (case k => k_is)
    case t_law =>
      refine' DL.def_mk KX G ?a ?l ?c ?k (fun _ _ _ _ _ _ us hl => match us, hl with | [_], _ => rfl)
      (case a => k_is); (case l => k_is); (case c => k_is); (case k => k_is)
    (case z_abs => k_is)
    (case z_all => k_is)
    (case z_any => k_is)
    (case z_bool => k_is)
    (case z_divmod => k_is)
    (case z_enumerate => k_is)
    (case z_int => k_is)
    (case z_isinstance => k_is)
    (case z_len => k_is)
    (case z_list => k_is)
    (case z_max => k_is)
    (case z_min => k_is)
    (case z_range => k_is)
    (case z_repr => k_is)
    (case z_set => k_is)
    (case z_sorted => k_is)
    (case z_str => k_is)
    (case z_sum => k_is)
    (case z_tuple => k_is)
    (case z_zip => k_is)
    (case g_LATEST => k_is); (case e_LATEST => exact ⟨_, rfl⟩)
    (case g_MOST_KINDS => k_is); (case e_MOST_KINDS => exact ⟨_, rfl⟩)
    (case g_MOST_MINUTES => k_is); (case e_MOST_MINUTES => exact ⟨_, rfl⟩)
    (case g_MOST_PASSAGES => k_is); (case e_MOST_PASSAGES => exact ⟨_, rfl⟩)
    (case g_MOST_PERSONS => k_is); (case e_MOST_PERSONS => exact ⟨_, rfl⟩)
    (case g_MOST_PRICE => k_is); (case e_MOST_PRICE => exact ⟨_, rfl⟩)
    (case g_MOST_ZONES => k_is); (case e_MOST_ZONES => exact ⟨_, rfl⟩)
