import PyProof.Rows.All
import Wide.All
import OpenK.AllK
import Wide.FinOn
import HandS.ForMost
import HandS.Flow
import HandS.Star
import HandS.Deep
import HandS.Conv
import HandS.More
import KE.DataCmp
import KE.SortData
import HandS.TupAny
import HandS.Wide
import PyProof.P3In
import HandS.Style
import HandS.TupLen
import KE.KDictPairs
import HandS.NoneIn
import HandS.Zip
import KE.GoesEnum
import HandS.Iter
import KE.KDictDisplayH
import HandS.SetFor
import HandS.Strs
import HandS.IsInst
import HandS.EndBits
import HandS.WordsDict
import PyProof.ReprBulk
import PyProof.FitsInt
import PySem.Challenge.RW_eachorder_k59_whole_least_lattice_round
set_option Elab.async false
set_option linter.all false
set_option maxRecDepth 100000
/-! PDa: data behind values (Rp), what stays, slots. -/
namespace PD
open PySem L2

abbrev D := PyData
abbrev Zn := Addr → Prop

def keyD : Key → D
  | .inl i => .int i
  | .inr x => .str x
def tkeyD (ks : List Key) : D := .tuple (ks.map keyD)

mutual
/-- v is the datum d; no list or dict of it stands at a place of N -/
inductive Rp (N : Zn) (H : Hp) : V → D → Prop
  | non : Rp N H .non .none
  | bl (b : Bool) : Rp N H (.bl b) (.bool b)
  | int (i : Int) : Rp N H (.int i) (.int i)
  | str (x : Str) : Rp N H (.str x) (.str x)
  | lst {a xs ds} : ¬ N a → H a = some (.lst xs) → RpAll N H xs ds → Rp N H (.ref a) (.list ds)
  | tup {a xs ds} : H a = some (.tup xs) → RpAll N H xs ds → Rp N H (.ref a) (.tuple ds)
  | dK {a kvs ds} : ¬ N a → H a = some (.dK kvs) → RpAll N H (kvs.map (·.2)) ds → Rp N H (.ref a) (.dict ((kvs.map (fun p => keyD p.1)).zip ds))
  | dT {a kvs ds} : ¬ N a → kvs ≠ [] → H a = some (.dT kvs) → RpAll N H (kvs.map (·.2)) ds → Rp N H (.ref a) (.dict ((kvs.map (fun p => tkeyD p.1)).zip ds))
inductive RpAll (N : Zn) (H : Hp) : List V → List D → Prop
  | nil : RpAll N H [] []
  | cons {v vs d ds} : Rp N H v d → RpAll N H vs ds → RpAll N H (v :: vs) (d :: ds)
end

/-- the top may stand anywhere, what is within not in N -/
inductive RpB (N : Zn) (H : Hp) : V → D → Prop
  | of {v d} : Rp N H v d → RpB N H v d
  | lst {a xs ds} : H a = some (.lst xs) → RpAll N H xs ds → RpB N H (.ref a) (.list ds)
  | dK {a kvs ds} : H a = some (.dK kvs) → RpAll N H (kvs.map (·.2)) ds → RpB N H (.ref a) (.dict ((kvs.map (fun p => keyD p.1)).zip ds))
  | dT {a kvs ds} : kvs ≠ [] → H a = some (.dT kvs) → RpAll N H (kvs.map (·.2)) ds → RpB N H (.ref a) (.dict ((kvs.map (fun p => tkeyD p.1)).zip ds))

/-- what is not in N (nor any tuple) stays -/
def Ext (N : Zn) (H H' : Hp) : Prop := ∀ a o, H a = some o → ¬ N a → H' a = some o
theorem Ext.refl {N : Zn} {H : Hp} : Ext N H H := fun _ _ e _ => e
theorem Ext.trans {N : Zn} {H H1 H2 : Hp} (a : Ext N H H1) (b : Ext N H1 H2) : Ext N H H2 := fun c o e n => b c o (a c o e n) n
theorem Ext.new {N : Zn} {H : Hp} {p : Addr} {o : HO} (h : H p = none) : Ext N H (upd H p o) := fun a u e _ => by
  rw [upd_ne (ne_of_none e h)]; exact e
theorem Ext.mono {N N' : Zn} {H H' : Hp} (e : Ext N H H') (h : ∀ a, N a → N' a) : Ext N' H H' := fun a o q n => e a o q fun z => n (h a z)

abbrev No : Zn := fun _ => False

/-- no tuple, no thing that is read only, stands in N -/
structure Fit (N : Zn) (H : Hp) : Prop where
  dom : ∀ a, N a → ∃ o, H a = some o ∧ Mut (some o)

theorem Fit.ne {N : Zn} {H : Hp} (f : Fit N H) {p : Addr} (h : H p = none) : ¬ N p := fun z => by
  obtain ⟨o, e, _⟩ := f.dom p z
  rw [h] at e; cases e

section
variable {N N' : Zn} {H H' : Hp}
theorem tup_ext {a : Addr} {xs : List V} (e : Ext N H H') (f : Fit N H) (h : H a = some (.tup xs)) : H' a = some (.tup xs) := by
  refine e _ _ h fun z => ?_
  obtain ⟨o, q, m⟩ := f.dom a z
  rw [h] at q; cases q; exact m
mutual
theorem Rp.ext (e : Ext N H H') (f : Fit N H) : ∀ {v : V} {d : D}, Rp N H v d → Rp N H' v d
  | _, _, .non => .non
  | _, _, .bl b => .bl b
  | _, _, .int i => .int i
  | _, _, .str x => .str x
  | _, _, .lst n h r => .lst n (e _ _ h n) (RpAll.ext e f r)
  | _, _, .tup h r => .tup (tup_ext e f h) (RpAll.ext e f r)
  | _, _, .dK n h r => .dK n (e _ _ h n) (RpAll.ext e f r)
  | _, _, .dT n z h r => .dT n z (e _ _ h n) (RpAll.ext e f r)
theorem RpAll.ext (e : Ext N H H') (f : Fit N H) : ∀ {vs : List V} {ds : List D}, RpAll N H vs ds → RpAll N H' vs ds
  | _, _, .nil => .nil
  | _, _, .cons r rs => .cons (Rp.ext e f r) (RpAll.ext e f rs)
end
mutual
theorem Rp.less (h : ∀ a, N' a → N a) : ∀ {v : V} {d : D}, Rp N H v d → Rp N' H v d
  | _, _, .non => .non
  | _, _, .bl b => .bl b
  | _, _, .int i => .int i
  | _, _, .str x => .str x
  | _, _, .lst n q r => .lst (fun z => n (h _ z)) q (RpAll.less h r)
  | _, _, .tup q r => .tup q (RpAll.less h r)
  | _, _, .dK n q r => .dK (fun z => n (h _ z)) q (RpAll.less h r)
  | _, _, .dT n z q r => .dT (fun z => n (h _ z)) z q (RpAll.less h r)
theorem RpAll.less (h : ∀ a, N' a → N a) : ∀ {vs : List V} {ds : List D}, RpAll N H vs ds → RpAll N' H vs ds
  | _, _, .nil => .nil
  | _, _, .cons r rs => .cons (Rp.less h r) (RpAll.less h rs)
end
theorem RpAll.length : ∀ {vs : List V} {ds : List D}, RpAll N H vs ds → vs.length = ds.length
  | _, _, .nil => rfl
  | _, _, .cons _ r => by simp [RpAll.length r]
theorem RpAll.append : ∀ {vs ws : List V} {ds es : List D}, RpAll N H vs ds → RpAll N H ws es → RpAll N H (vs ++ ws) (ds ++ es)
  | _, _, _, _, .nil, s => s
  | _, _, _, _, .cons r t, s => .cons r (RpAll.append t s)
theorem RpAll.get : ∀ {vs : List V} {ds : List D} {i : Nat} {v : V}, RpAll N H vs ds → vs[i]? = some v → ∃ d, ds[i]? = some d ∧ Rp N H v d
  | _, _, _, _, .nil, e => by simp at e
  | _, _, 0, _, .cons r _, e => by simp at e; subst e; exact ⟨_, rfl, r⟩
  | _, _, i + 1, _, .cons _ t, e => by
    obtain ⟨d, h1, h2⟩ := RpAll.get (i := i) t (by simpa using e)
    exact ⟨d, by simpa using h1, h2⟩
theorem RpAll.get' : ∀ {vs : List V} {ds : List D} {i : Nat} {d : D}, RpAll N H vs ds → ds[i]? = some d → ∃ v, vs[i]? = some v ∧ Rp N H v d
  | _, _, _, _, .nil, e => by simp at e
  | _, _, 0, _, .cons r _, e => by simp at e; subst e; exact ⟨_, rfl, r⟩
  | _, _, i + 1, _, .cons _ t, e => by
    obtain ⟨d, h1, h2⟩ := RpAll.get' (i := i) t (by simpa using e)
    exact ⟨d, by simpa using h1, h2⟩
theorem RpAll.set : ∀ {vs : List V} {ds : List D} {v : V} {d : D} (i : Nat), RpAll N H vs ds → Rp N H v d → RpAll N H (vs.set i v) (ds.set i d)
  | _, _, _, _, _, .nil, _ => .nil
  | _, _, _, _, 0, .cons _ t, r => .cons r t
  | _, _, _, _, i + 1, .cons q t, r => .cons q (RpAll.set i t r)
theorem RpAll.take : ∀ {vs : List V} {ds : List D} (n : Nat), RpAll N H vs ds → RpAll N H (vs.take n) (ds.take n)
  | _, _, 0, _ => .nil
  | _, _, _ + 1, .nil => .nil
  | _, _, n + 1, .cons r t => .cons r (RpAll.take n t)
theorem RpAll.drop : ∀ {vs : List V} {ds : List D} (n : Nat), RpAll N H vs ds → RpAll N H (vs.drop n) (ds.drop n)
  | _, _, 0, r => r
  | _, _, _ + 1, .nil => .nil
  | _, _, n + 1, .cons _ t => RpAll.drop n t
theorem RpAll.reverse {vs : List V} {ds : List D} (h : RpAll N H vs ds) : RpAll N H vs.reverse ds.reverse := by
  induction vs generalizing ds with
  | nil => cases h; exact .nil
  | cons v vs ih =>
    cases h with
    | cons r t =>
      rw [List.reverse_cons, List.reverse_cons]
      exact (ih t).append (.cons r .nil)
theorem RpAll.eraseIdx : ∀ {vs : List V} {ds : List D} (i : Nat), RpAll N H vs ds → RpAll N H (vs.eraseIdx i) (ds.eraseIdx i)
  | _, _, _, .nil => .nil
  | _, _, 0, .cons _ t => t
  | _, _, i + 1, .cons q t => .cons q (RpAll.eraseIdx i t)
theorem RpAll.dropLast {vs : List V} {ds : List D} (h : RpAll N H vs ds) : RpAll N H vs.dropLast ds.dropLast := by
  rw [List.dropLast_eq_take, List.dropLast_eq_take, h.length]; exact h.take _
theorem RpAll.flatRep {vs : List V} {ds : List D} (h : RpAll N H vs ds) : ∀ k : Nat, RpAll N H (List.replicate k vs).flatten (List.replicate k ds).flatten
  | 0 => .nil
  | k + 1 => by rw [List.replicate_succ, List.replicate_succ, List.flatten_cons, List.flatten_cons]; exact h.append (RpAll.flatRep h k)
theorem RpAll.ints : ∀ {vs : List V} {ns : List Int}, RpAll N H vs (ns.map PyData.int) → vs = ns.map V.int
  | _, [], .nil => rfl
  | _, n :: ns, .cons r t => by cases r; rw [RpAll.ints t]; rfl
theorem RpAll.ofInts : ∀ (ns : List Int), RpAll N H (ns.map V.int) (ns.map PyData.int)
  | [] => .nil
  | n :: ns => .cons (.int n) (RpAll.ofInts ns)
theorem RpAll.bools : ∀ {vs : List V} {ns : List Bool}, RpAll N H vs (ns.map PyData.bool) → vs = ns.map V.bl
  | _, [], .nil => rfl
  | _, n :: ns, .cons r t => by cases r; rw [RpAll.bools t]; rfl
theorem Rp.fresh {v : V} {d : D} (h : Rp N H v d) {p : Addr} (hp : H p = none) : True := trivial

theorem RpB.ext {v : V} {d : D} (e : Ext No H H') (f : Fit N H) (h : RpB N H v d) : RpB N H' v d := by
  have e' : Ext N H H' := fun a o q _ => e a o q (fun z => z)
  cases h with
  | of r => exact .of (r.ext e' f)
  | lst q r => exact .lst (e _ _ q (fun z => z)) (r.ext e' f)
  | dK q r => exact .dK (e _ _ q (fun z => z)) (r.ext e' f)
  | dT z q r => exact .dT z (e _ _ q (fun z => z)) (r.ext e' f)
theorem RpB.less (h : ∀ a, N' a → N a) {v : V} {d : D} (r : RpB N H v d) : RpB N' H v d := by
  cases r with
  | of r => exact .of (r.less h)
  | lst q r => exact .lst q (r.less h)
  | dK q r => exact .dK q (r.less h)
  | dT z q r => exact .dT z q (r.less h)
mutual
theorem Rp.move {H1 : Hp} (e : Ext N H1 H) (f : Fit N H1) (hN : ∀ a, N' a → N a ∨ H1 a = none) : ∀ {v : V} {d : D}, Rp N H1 v d → Rp N' H v d
  | _, _, .non => .non
  | _, _, .bl b => .bl b
  | _, _, .int i => .int i
  | _, _, .str x => .str x
  | _, _, .lst n h r => .lst (fun z => (hN _ z).elim n fun q => by rw [h] at q; cases q) (e _ _ h n) (RpAll.move e f hN r)
  | _, _, .tup h r => .tup (tup_ext e f h) (RpAll.move e f hN r)
  | _, _, .dK n h r => .dK (fun z => (hN _ z).elim n fun q => by rw [h] at q; cases q) (e _ _ h n) (RpAll.move e f hN r)
  | _, _, .dT n z h r => .dT (fun z => (hN _ z).elim n fun q => by rw [h] at q; cases q) z (e _ _ h n) (RpAll.move e f hN r)
theorem RpAll.move {H1 : Hp} (e : Ext N H1 H) (f : Fit N H1) (hN : ∀ a, N' a → N a ∨ H1 a = none) : ∀ {vs : List V} {ds : List D}, RpAll N H1 vs ds → RpAll N' H vs ds
  | _, _, .nil => .nil
  | _, _, .cons r rs => .cons (Rp.move e f hN r) (RpAll.move e f hN rs)
end
theorem RpB.move {H1 : Hp} (e : Ext N H1 H) (f : Fit N H1) (hN : ∀ a, N' a → N a ∨ H1 a = none) {v : V} {d : D} (t : ∀ a o, v = .ref a → H1 a = some o → H a = some o) (h : RpB N H1 v d) : RpB N' H v d := by
  cases h with
  | of r => exact .of (r.move e f hN)
  | lst q r => exact .lst (t _ _ rfl q) (r.move e f hN)
  | dK q r => exact .dK (t _ _ rfl q) (r.move e f hN)
  | dT z q r => exact .dT z (t _ _ rfl q) (r.move e f hN)

/-- shapes -/
theorem RpB.int_of {v : V} {i : Int} (h : RpB N H v (.int i)) : v = .int i := by
  cases h with | of r => cases r; rfl
theorem RpB.bl_of {v : V} {i : Bool} (h : RpB N H v (.bool i)) : v = .bl i := by
  cases h with | of r => cases r; rfl
theorem RpB.str_of {v : V} {i : Str} (h : RpB N H v (.str i)) : v = .str i := by
  cases h with | of r => cases r; rfl
theorem RpB.non_of {v : V} (h : RpB N H v .none) : v = .non := by
  cases h with | of r => cases r; rfl
theorem RpB.list_of {v : V} {ds : List D} (h : RpB N H v (.list ds)) : ∃ a xs, v = .ref a ∧ H a = some (.lst xs) ∧ RpAll N H xs ds := by
  cases h with
  | of r => cases r with | lst n q r => exact ⟨_, _, rfl, q, r⟩
  | lst q r => exact ⟨_, _, rfl, q, r⟩
theorem RpB.tup_of {v : V} {ds : List D} (h : RpB N H v (.tuple ds)) : ∃ a xs, v = .ref a ∧ H a = some (.tup xs) ∧ RpAll N H xs ds := by
  cases h with
  | of r => cases r with | tup q r => exact ⟨_, _, rfl, q, r⟩
theorem RpB.dict_of {v : V} {ds : List (D × D)} (h : RpB N H v (.dict ds)) : ∃ a, v = .ref a ∧
    ((∃ kvs es, H a = some (.dK kvs) ∧ RpAll N H (kvs.map (·.2)) es ∧ ds = (kvs.map (fun p => keyD p.1)).zip es) ∨
     (∃ kvs es, kvs ≠ [] ∧ H a = some (.dT kvs) ∧ RpAll N H (kvs.map (·.2)) es ∧ ds = (kvs.map (fun p => tkeyD p.1)).zip es)) := by
  cases h with
  | of r => cases r with
    | dK n q r => exact ⟨_, rfl, .inl ⟨_, _, q, r, rfl⟩⟩
    | dT n z q r => exact ⟨_, rfl, .inr ⟨_, _, z, q, r, rfl⟩⟩
  | dK q r => exact ⟨_, rfl, .inl ⟨_, _, q, r, rfl⟩⟩
  | dT z q r => exact ⟨_, rfl, .inr ⟨_, _, z, q, r, rfl⟩⟩
end

/-! ### to Reads: data read off the heap -/
end PD
/-! PDb: what operators make of data, and that they do. -/
namespace PD
open PySem L2

/-! ### data read off the heap -/
section
variable {X : Cx} {pins : List (Addr × Obj)} {σ : St} {H : Hp} {s : Shared} {N : Zn}
theorem reads_keysK {h : Heap} {P : Program} {w : World} : ∀ {es : List DictEntry} {vs : List (Key × Value)}, Pairs (mixKind P w) es vs → ∃ as, ReadsAll h (es.map (·.key)) (vs.map (fun p => keyD p.1)) as ∧ as = []
  | _, _, .nil => ⟨_, .nil, rfl⟩
  | _, _, .cons (e := e) (kv := kv) r _ t => by
    obtain ⟨as, q, rfl⟩ := reads_keysK (h := h) t
    rcases keyIs_shape (k := kv.1) (v := e.key) r with ⟨i, u, e1, e2⟩ | ⟨x, u, e1, e2⟩
    · refine ⟨_, .cons (as := []) (d := keyD kv.1) ?_ q, rfl⟩; show Reads h e.key _ _; rw [e1, e2]; exact .int i u
    · refine ⟨_, .cons (as := []) (d := keyD kv.1) ?_ q, rfl⟩; show Reads h e.key _ _; rw [e1, e2]; exact .str x u
theorem pairs_vals {P : Program} {w : World} : ∀ {es : List DictEntry} {vs : List (Key × Value)}, Pairs (mixKind P w) es vs → es.map (·.val) = vs.map (·.2)
  | _, _, .nil => rfl
  | _, _, .cons _ e t => by simp [e, pairs_vals t]
theorem KV.vals {κ : Type} : ∀ {l : List (κ × V)} {m : List (κ × Value)}, KV l m → Vals (l.map (·.2)) (m.map (·.2))
  | _, _, .nil => .nil
  | _, _, .cons r t => .cons r.2 (KV.vals t)
theorem KT.vals {H : Hp} : ∀ {l : List (List Key × V)} {m : List (List Key × Addr × Value)}, KT H l m → Vals (l.map (·.2)) (m.map (·.2.2))
  | _, _, .nil => .nil
  | _, _, .cons r t => .cons r.2.2 (KT.vals t)
theorem map_fst_zip' {α β : Type} {l : List α} {m : List β} (h : l.length = m.length) : (l.zip m).map (·.1) = l := List.map_fst_zip (by omega)
theorem map_snd_zip' {α β : Type} {l : List α} {m : List β} (h : l.length = m.length) : (l.zip m).map (·.2) = m := List.map_snd_zip (by omega)
theorem reads_keys : ∀ {ks : List Key} {us : List Value} (h : Heap), Vals (ks.map kV) us → ∃ as, ReadsAll h us (ks.map keyD) as ∧ as = []
  | [], _, h, .nil => ⟨_, .nil, rfl⟩
  | .inl i :: ks, _, h, .cons r t => by
    obtain ⟨u, rfl⟩ := r
    obtain ⟨as, q, rfl⟩ := reads_keys h t
    exact ⟨_, .cons (.int i u) q, rfl⟩
  | .inr x :: ks, _, h, .cons r t => by
    obtain ⟨u, rfl⟩ := r
    obtain ⟨as, q, rfl⟩ := reads_keys h t
    exact ⟨_, .cons (.str x u) q, rfl⟩
theorem reads_keysT (ok : HOk X.prog X.w H s.heap) : ∀ {l : List (List Key × V)} {m : List (List Key × Addr × Value)}, KT H l m → ∃ as, ReadsAll s.heap (m.map fun x => Value.ref x.2.1) (l.map (fun p => tkeyD p.1)) as ∧ as = []
  | _, _, .nil => ⟨_, .nil, rfl⟩
  | _, _, .cons (a := p) (b := q) r t => by
    obtain ⟨as, h2, rfl⟩ := reads_keysT ok t
    obtain ⟨_, its, rv, o, ho, hc, n, hd⟩ := (show ObjOk X.prog X.w H s.heap q.2.1 (.tup (p.1.map kV)) from ok _ _ r.2.1)
    obtain ⟨bs, h3, rfl⟩ := reads_keys s.heap rv
    exact ⟨_, .cons (as := []) (.tuple ho hc hd (by simpa using h3)) h2, rfl⟩
mutual
theorem Rp.reads (I : Inv X pins σ H s) : ∀ {v : V} {d : D} {u : Value}, Rp N H v d → RelV v u → ∃ as, Reads s.heap u d as ∧ ∀ a ∈ as, ∃ o, H a = some o
  | _, _, _, .non, r => by cases r; exact ⟨_, .none, by simp⟩
  | _, _, _, .bl b, r => by cases r; exact ⟨_, .bool b, by simp⟩
  | _, _, _, .int i, r => by obtain ⟨t, rfl⟩ := r; exact ⟨_, .int i t, by simp⟩
  | _, _, _, .str x, r => by obtain ⟨t, rfl⟩ := r; exact ⟨_, .str x t, by simp⟩
  | _, _, _, .lst n h ra, r => by
    cases r
    obtain ⟨_, its, k, rv, e⟩ := I.hok _ _ h
    obtain ⟨as, q, hd⟩ := RpAll.reads I ra rv
    exact ⟨_, .list e rfl rfl q, fun b hb => (List.mem_cons.mp hb).elim (fun z => ⟨_, z ▸ h⟩) (hd b)⟩
  | _, _, _, .tup h ra, r => by
    cases r
    obtain ⟨_, its, rv, o, ho, hc, k, hd⟩ := I.hok _ _ h
    obtain ⟨as, q, hd'⟩ := RpAll.reads I ra rv
    exact ⟨_, .tuple ho hc hd (by simpa using q), hd'⟩
  | _, _, _, .dK (kvs := kvs) (ds := ds) n h ra, r => by
    cases r
    obtain ⟨_, _, vs, rel, o, es, ep, ho, hx, hd, _, hp, _⟩ := dk_of I.hok h
    obtain ⟨as, q, rfl⟩ := reads_keysK (h := s.heap) hp
    have hl := ra.length
    obtain ⟨bs, q2, hd2⟩ := RpAll.reads I ra (KV.vals rel)
    have ek : vs.map (fun p => keyD p.1) = kvs.map (fun p => keyD p.1) := by
      have := congrArg (List.map keyD) (KV.keys rel)
      rw [List.map_map, List.map_map] at this
      exact this.symm
    rw [ek] at q
    rw [← pairs_vals hp] at q2
    refine ⟨_, .dict (kvs := (kvs.map (fun p => keyD p.1)).zip ds) ho hx.1 hd (as := []) (bs := bs) ?_ ?_, fun b hb => ?_⟩
    · rw [map_fst_zip' (by simpa using hl)]; exact q
    · rw [map_snd_zip' (by simpa using hl)]; exact q2
    · rcases List.mem_cons.mp (by simpa using hb) with z | z
      · exact ⟨_, z ▸ h⟩
      · exact hd2 b z
  | _, _, _, .dT (kvs := kvs) (ds := ds) n _ h ra, r => by
    cases r
    obtain ⟨_, _, xs, rel, o, es, ep, ho, hx, hd, he, _, _⟩ := dt_of I.hok h
    obtain ⟨as, q, rfl⟩ := reads_keysT I.hok rel
    have hl := ra.length
    obtain ⟨bs, q2, hd2⟩ := RpAll.reads I ra (KT.vals rel)
    refine ⟨_, .dict (kvs := (kvs.map (fun p => tkeyD p.1)).zip ds) ho hx.1 hd (as := []) (bs := bs) ?_ ?_, fun b hb => ?_⟩
    · rw [map_fst_zip' (by simpa using hl), he, List.map_map]; exact q
    · rw [map_snd_zip' (by simpa using hl), he, List.map_map]; exact q2
    · rcases List.mem_cons.mp (by simpa using hb) with z | z
      · exact ⟨_, z ▸ h⟩
      · exact hd2 b z
theorem RpAll.reads (I : Inv X pins σ H s) : ∀ {vs : List V} {ds : List D} {us : List Value}, RpAll N H vs ds → Vals vs us → ∃ as, ReadsAll s.heap us ds as ∧ ∀ a ∈ as, ∃ o, H a = some o
  | _, _, _, .nil, r => by cases r; exact ⟨_, .nil, by simp⟩
  | _, _, _, .cons r1 rs, r => by
    cases r with
    | cons q qs =>
      obtain ⟨as, h1, k1⟩ := Rp.reads I r1 q
      obtain ⟨bs, h2, k2⟩ := RpAll.reads I rs qs
      exact ⟨_, .cons h1 h2, fun b hb => (List.mem_append.mp hb).elim (k1 b) (k2 b)⟩
end
theorem rpB_to {v : V} {d : D} (h : RpB N H v d) : ∃ N', Rp N' H v d := by
  cases h with
  | of r => exact ⟨_, r⟩
  | lst q r => exact ⟨fun _ => False, .lst (fun z => z) q (r.less (fun _ z => z.elim))⟩
  | dK q r => exact ⟨fun _ => False, .dK (fun z => z) q (r.less (fun _ z => z.elim))⟩
  | dT z q r => exact ⟨fun _ => False, .dT (fun z => z) z q (r.less (fun _ z => z.elim))⟩
theorem RpB.reads (I : Inv X pins σ H s) {v : V} {d : D} {u : Value} (h : RpB N H v d) (r : RelV v u) : ∃ as, Reads s.heap u d as ∧ ∀ a ∈ as, ∃ o, H a = some o :=
  let ⟨_, q⟩ := rpB_to h; q.reads I r
end

/-! ### what comes out -/
def isL : D → Bool
  | .list _ | .dict _ => true
  | _ => false
/-- what is wanted of d, a list or dict new if fr -/
def Fresh (N : Zn) (H H' : Hp) (v : V) (d : D) : Prop := ∃ p, v = .ref p ∧ H p = none ∧ RpB (fun a => N a ∨ a = p) H' (.ref p) d
theorem freshL {N : Zn} {H : Hp} {ds : List D} {vs : List V} (f : Fit N H) (r : RpAll N H vs ds) {p : Addr} (hp : H p = none) : Fresh N H (upd H p (.lst vs)) (.ref p) (.list ds) :=
  ⟨p, rfl, hp, .lst upd_same (r.move (Ext.new hp) f fun a z => z.elim .inl fun z => .inr (z ▸ hp))⟩
def Out (fr : Bool) (N : Zn) (H : Hp) (d : D) (Q : VK) : Prop := ∀ v H', Ext No H H' → Rp N H' v d → (fr = true → isL d = true → Fresh N H H' v d) → Q v H'
theorem Out.old {N : Zn} {H : Hp} {d : D} {Q : VK} {v : V} (o : Out false N H d Q) (r : Rp N H v d) : Q v H := o v H Ext.refl r (fun z => nomatch z)
theorem Out.imm {fr : Bool} {N : Zn} {H : Hp} {d : D} {Q : VK} {v : V} (o : Out fr N H d Q) (r : Rp N H v d) (h : isL d = false) : Q v H := o v H Ext.refl r (fun _ z => by rw [h] at z; cases z)
theorem Out.newL {fr : Bool} {N : Zn} {H : Hp} {ds : List D} {Q : VK} {vs : List V} (o : Out fr N H (.list ds) Q) (f : Fit N H) (r : RpAll N H vs ds) : ∀ p, H p = none → Q (.ref p) (upd H p (.lst vs)) := fun p hp =>
  o _ _ (Ext.new hp) (.lst (f.ne hp) upd_same (r.ext (Ext.new hp) f)) (fun _ _ => freshL f r hp)
theorem Out.newT {fr : Bool} {N : Zn} {H : Hp} {ds : List D} {Q : VK} {vs : List V} (o : Out fr N H (.tuple ds) Q) (f : Fit N H) (r : RpAll N H vs ds) : ∀ p, H p = none → Q (.ref p) (upd H p (.tup vs)) := fun p hp =>
  o _ _ (Ext.new hp) (.tup upd_same (r.ext (Ext.new hp) f)) (fun _ z => nomatch z)

/-- a two-place operation by data -/
def Op2 (X : Cx) (fr : Bool) (f : Value → Value → Sem Value) (sem : D → D → Option D) : Prop :=
  OpR X f (fun x y H Q => ∃ N d e r, Fit N H ∧ RpB N H x d ∧ RpB N H y e ∧ sem d e = some r ∧ Out fr N H r Q)

inductive BOp where | add | sub | mul | fdiv | mod | pow | shl | shr | band | bor | bxor
  deriving DecidableEq, Repr
def bopF : BOp → Operator
  | .add => .Add | .sub => .Sub | .mul => .Mult | .fdiv => .FloorDiv | .mod => .Mod | .pow => .Pow | .shl => .LShift | .shr => .RShift | .band => .BitAnd | .bor => .BitOr | .bxor => .BitXor

def addD : D → D → Option D
  | .int a, .int b => some (.int (a + b))
  | .str a, .str b => if a.length + b.length ≤ sizeLine then some (.str (a ++ b)) else none
  | .list a, .list b => if a.length + b.length ≤ sizeLine then some (.list (a ++ b)) else none
  | .tuple a, .tuple b => if a.length + b.length ≤ sizeLine then some (.tuple (a ++ b)) else none
  | _, _ => none
instance (i j : Int) : Decidable (CMul i j) := by unfold CMul; exact inferInstance
instance (i j : Int) : Decidable (CPow i j) := by unfold CPow; exact inferInstance
instance (i j : Int) : Decidable (CDivN i j) := by unfold CDivN; exact inferInstance
def subD : D → D → Option D
  | .int a, .int b => some (.int (a - b))
  | _, _ => none
def mulD : D → D → Option D
  | .int a, .int b => if CMul a b then some (.int (a * b)) else none
  | .list a, .int k => if -(2 ^ 63) ≤ k ∧ k < 2 ^ 63 ∧ a.length * k.toNat ≤ sizeLine then some (.list (List.replicate k.toNat a).flatten) else none
  | _, _ => none
/-- two ints, a condition -/
def intD (C : Int → Int → Prop) [∀ a b, Decidable (C a b)] (g : Int → Int → Int) : D → D → Option D
  | .int a, .int b => if C a b then some (.int (g a b)) else none
  | _, _ => none
def binD : BOp → D → D → Option D
  | .add => addD
  | .sub => subD
  | .mul => mulD
  | .fdiv => intD CDivN fun a b => a.fdiv b
  | .mod => intD (fun _ b => b ≠ 0) fun a b => a.fmod b
  | .pow => intD CPow fun a b => a ^ b.toNat
  | .shl => intD CPow fun a b => a * 2 ^ b.toNat
  | .shr => intD (fun _ b => 0 ≤ b) fun a b => a / 2 ^ b.toNat
  | .band => intD (fun _ _ => True) Builtin.bitAnd
  | .bor => intD (fun _ _ => True) Builtin.bitOr
  | .bxor => intD (fun _ _ => True) Builtin.bitXor

section
variable {X : Cx}
theorem op2_int {f : Value → Value → Sem Value} {C : Int → Int → Prop} {g : Int → Int → Int} {fr : Bool} (h : OpR X f (rI C fun i j => .int (g i j))) {pins : List (Addr × Obj)} {s : Shared} {σ : St} {H : Hp} {x y : V} {v u : Value} {Q : VK} {N : Zn}
    (I : Inv X pins σ H s) (rx : RelV x v) (ry : RelV y u) {a b : Int} (hx : RpB N H x (.int a)) (hy : RpB N H y (.int b)) (c : C a b) (o : Out fr N H (.int (g a b)) Q) : wpAny (model X.prog X.w) X.A (f v u) (EP X pins σ Q) X.xe s :=
  h pins s σ H x y v u Q I rx ry ⟨a, b, hx.int_of, hy.int_of, c, o.imm (.int _) rfl⟩
theorem op2_int0 {f : Value → Value → Sem Value} {g : Int → Int → Int} {fr : Bool} (h : OpR X f (rI0 fun i j => .int (g i j))) {pins : List (Addr × Obj)} {s : Shared} {σ : St} {H : Hp} {x y : V} {v u : Value} {Q : VK} {N : Zn}
    (I : Inv X pins σ H s) (rx : RelV x v) (ry : RelV y u) {a b : Int} (hx : RpB N H x (.int a)) (hy : RpB N H y (.int b)) (o : Out fr N H (.int (g a b)) Q) : wpAny (model X.prog X.w) X.A (f v u) (EP X pins σ Q) X.xe s :=
  h pins s σ H x y v u Q I rx ry ⟨a, b, hx.int_of, hy.int_of, o.imm (.int _) rfl⟩
theorem op2_intD {f : Value → Value → Sem Value} {C : Int → Int → Prop} [∀ a b, Decidable (C a b)] {g : Int → Int → Int} {fr : Bool} (h : OpR X f (rI C fun i j => .int (g i j))) : Op2 X fr f (intD C g) := by
  intro pins s σ H x y v u Q I rx ry h'
  obtain ⟨N, d, e, r, ft, hx, hy, hs, o⟩ := h'
  unfold intD at hs
  split at hs
  · split at hs
    · cases hs; exact op2_int h I rx ry hx hy (by assumption) o
    · cases hs
  · cases hs
theorem rI_of0 {f : Value → Value → Sem Value} {g : Int → Int → Int} (h : OpR X f (rI0 fun i j => .int (g i j))) : OpR X f (rI (fun _ _ => True) fun i j => .int (g i j)) :=
  fun pins s σ H x y v u Q I rx ry ⟨i, j, e1, e2, _, q⟩ => h pins s σ H x y v u Q I rx ry ⟨i, j, e1, e2, q⟩
theorem op2_add : Op2 X true (binaryOp .Add) addD := by
  intro pins s σ H x y v u Q I rx ry h
  obtain ⟨N, d, e, r, f, hx, hy, hs, o⟩ := h
  unfold addD at hs
  split at hs
  · cases hs; exact op2_int0 op_add I rx ry hx hy o
  · split at hs
    · cases hs
      refine op_add_str pins s σ H x y v u Q I rx ry ⟨_, _, hx.str_of, hy.str_of, by assumption, o.imm (.str _) rfl⟩
    · cases hs
  · split at hs
    · rename_i hl
      cases hs
      obtain ⟨a, xs, rfl, ha, rxs⟩ := hx.list_of
      obtain ⟨b, ys, rfl, hb, rys⟩ := hy.list_of
      exact op_cat pins s σ H _ _ v u Q I rx ry ⟨a, b, xs, ys, rfl, rfl, ha, hb, by rw [rxs.length, rys.length]; exact hl, o.newL f (rxs.append rys)⟩
    · cases hs
  · split at hs
    · rename_i hl
      cases hs
      obtain ⟨a, xs, rfl, ha, rxs⟩ := hx.tup_of
      obtain ⟨b, ys, rfl, hb, rys⟩ := hy.tup_of
      refine op_catA pins s σ H _ _ v u Q I rx ry ⟨a, b, xs, ys, rfl, rfl, SqT.of ha, SqT.of hb, by rw [rxs.length, rys.length]; exact hl, fun e => ?_, fun e1 e2 => ?_, fun e1 e2 => o.newT f (rxs.append rys)⟩
      · subst e; cases rxs; exact o.imm (.tup hb rys) rfl
      · subst e2; cases rys; rw [List.append_nil] at o; exact o.imm (.tup ha rxs) rfl
    · cases hs
  · cases hs
theorem op2_mul : Op2 X true (binaryOp .Mult) mulD := by
  intro pins s σ H x y v u Q I rx ry h
  obtain ⟨N, d, e, r, f, hx, hy, hs, o⟩ := h
  unfold mulD at hs
  split at hs
  · split at hs
    · cases hs; exact op2_int op_mul I rx ry hx hy (by assumption) o
    · cases hs
  · split at hs
    · rename_i h3
      cases hs
      obtain ⟨a, xs, rfl, ha, rxs⟩ := hx.list_of
      refine op_rep pins s σ H _ _ v u Q I rx ry ⟨a, _, xs, rfl, hy.int_of, ha, h3.1, h3.2.1, by rw [rxs.length]; exact h3.2.2, o.newL f (rxs.flatRep _)⟩
    · cases hs
  · cases hs
theorem op2_sub : Op2 X true (binaryOp .Sub) subD := by
  intro pins s σ H x y v u Q I rx ry h
  obtain ⟨N, d, e, r, f, hx, hy, hs, o⟩ := h
  unfold subD at hs
  split at hs
  · cases hs; exact op2_int0 op_sub I rx ry hx hy o
  · cases hs
theorem op2_bin (op : BOp) : Op2 X true (binaryOp (bopF op)) (binD op) := by
  cases op with
  | add => exact op2_add
  | sub => exact op2_sub
  | mul => exact op2_mul
  | fdiv => exact op2_intD op_fdivN
  | mod => exact op2_intD op_modN
  | pow => exact op2_intD op_pow
  | shl => exact op2_intD op_shl
  | shr => exact op2_intD op_shr
  | band => exact op2_intD (rI_of0 op_and)
  | bor => exact op2_intD (rI_of0 op_or)
  | bxor => exact op2_intD (rI_of0 op_xor)
end

/-! ### comparisons -/
inductive COp where | eq | ne | lt | le | gt | ge | is | isn | inn | nin
  deriving DecidableEq, Repr
def copF : COp → CmpOp
  | .eq => .Eq | .ne => .NotEq | .lt => .Lt | .le => .LtE | .gt => .Gt | .ge => .GtE | .is => .Is | .isn => .IsNot | .inn => .In | .nin => .NotIn
def eqOk (d e : D) : Bool := d.canLay0 && e.canLay0 && decide (min d.depth e.depth ≤ 60)
def isN : D → Bool
  | .none => true
  | _ => false
def ltOk (d e : D) : Bool := PySem.W.alike d e && !isN d && decide (min d.depth e.depth ≤ 60)

def isKey1 : D → Bool
  | .int _ | .str _ => true
  | _ => false
def isKey : D → Bool
  | .tuple ks => ks.all isKey1
  | d => isKey1 d
/-- a dict's value at a key -/
def dget (kvs : List (D × D)) (k : D) : Option D := (kvs.find? fun p => PyData.eqv p.1 k).map (·.2)
/-- keys of one kind -/
def kindOk (kvs : List (D × D)) (k : D) : Bool := kvs.all fun p => match p.1, k with
  | .tuple _, .tuple _ => true
  | .tuple _, _ => false
  | _, .tuple _ => false
  | _, _ => true
def inD (neg : Bool) (d : D) : D → Option D
  | .list ds => if d.canLay0 && PyData.canLayAll0 ds && decide (min (PyData.depthAll ds) d.depth ≤ 60) then some (.bool (if neg then !ds.any (fun y => PyData.eqv y d) else ds.any fun y => PyData.eqv y d)) else none
  | .tuple ds => if d.canLay0 && PyData.canLayAll0 ds && decide (min (PyData.depthAll ds) d.depth ≤ 60) then some (.bool (if neg then !ds.any (fun y => PyData.eqv y d) else ds.any fun y => PyData.eqv y d)) else none
  | .dict kvs => if isKey d && kindOk kvs d then some (.bool (if neg then !(dget kvs d).isSome else (dget kvs d).isSome)) else none
  | _ => none
def boolsOf : D → D → Option (Bool × Bool)
  | .bool a, .bool b => some (a, b)
  | _, _ => none
/-- d is e: None, or two bools -/
def isD (neg : Bool) (d e : D) : Option D := if isN e then some (.bool (if neg then !isN d else isN d)) else (boolsOf d e).map fun p => .bool (if neg then !decide (p.1 = p.2) else decide (p.1 = p.2))
def copD : COp → D → D → Option D
  | .eq => fun d e => if eqOk d e then some (.bool (PyData.eqv d e)) else none
  | .ne => fun d e => if eqOk d e then some (.bool (!PyData.eqv d e)) else none
  | .lt => fun d e => if ltOk d e then some (.bool (PySem.W.dataLt d e)) else none
  | .gt => fun d e => if ltOk d e then some (.bool (PySem.W.dataLt e d)) else none
  | .le => fun d e => if ltOk d e then some (.bool (!PySem.W.dataLt e d)) else none
  | .ge => fun d e => if ltOk d e then some (.bool (!PySem.W.dataLt d e)) else none
  | .is => isD false
  | .isn => isD true
  | .inn => inD false
  | .nin => inD true
section
variable {X : Cx}
theorem eqOk_of {d e : D} (h : eqOk d e = true) : d.canLay0 = true ∧ e.canLay0 = true ∧ min d.depth e.depth ≤ 60 := by
  unfold eqOk at h
  simp only [Bool.and_eq_true, decide_eq_true_eq] at h
  exact ⟨h.1.1, h.1.2, h.2⟩
theorem ltOk_of {d e : D} (h : ltOk d e = true) : PySem.W.alike d e = true ∧ d ≠ .none ∧ min d.depth e.depth ≤ 60 := by
  unfold ltOk at h
  simp only [Bool.and_eq_true, decide_eq_true_eq, Bool.not_eq_true'] at h
  exact ⟨h.1.1, fun z => by rw [z] at h; simp [isN] at h, h.2⟩
theorem isN_iff {N : Zn} {H : Hp} {v : V} {d : D} (h : RpB N H v d) : decide (v = .non) = isN d := by
  cases h with
  | of r => cases r <;> simp [isN]
  | lst _ _ => simp [isN]
  | dK _ _ => simp [isN]
  | dT _ _ _ => simp [isN]

/-! keys -/
theorem keyD_eqv (a b : Key) : PyData.eqv (keyD a) (keyD b) = decide (a = b) := by
  cases a with
  | inl i => cases b with
    | inl j => simp [keyD, PyData.eqv, Bool.beq_eq_decide_eq]
    | inr y => simp [keyD, PyData.eqv]
  | inr x => cases b with
    | inl j => simp [keyD, PyData.eqv]
    | inr y => simp [keyD, PyData.eqv, Bool.beq_eq_decide_eq]
theorem keyDs_eqv : ∀ a b : List Key, PyData.eqvAll (a.map keyD) (b.map keyD) = decide (a = b)
  | [], [] => by simp [PyData.eqvAll]
  | [], _ :: _ => by simp [PyData.eqvAll]
  | _ :: _, [] => by simp [PyData.eqvAll]
  | x :: xs, y :: ys => by
    simp only [List.map_cons, PyData.eqvAll, keyD_eqv, keyDs_eqv xs ys, List.cons.injEq]
    by_cases h : x = y <;> simp [h]
theorem tkeyD_eqv (a b : List Key) : PyData.eqv (tkeyD a) (tkeyD b) = decide (a = b) := by
  unfold tkeyD; simp only [PyData.eqv]; exact keyDs_eqv a b
theorem tk_eqv (a : List Key) (b : Key) : PyData.eqv (tkeyD a) (keyD b) = false := by cases b <;> simp [tkeyD, keyD, PyData.eqv]
theorem kt_eqv (a : Key) (b : List Key) : PyData.eqv (keyD a) (tkeyD b) = false := by cases a <;> simp [tkeyD, keyD, PyData.eqv]
theorem key1_of : ∀ {d : D}, isKey1 d = true → ∃ k, d = keyD k
  | .int i, _ => ⟨.inl i, rfl⟩
  | .str x, _ => ⟨.inr x, rfl⟩
theorem key1s_of : ∀ {ds : List D}, ds.all isKey1 = true → ∃ ks : List Key, ds = ks.map keyD
  | [], _ => ⟨[], rfl⟩
  | d :: ds, h => by
    rw [List.all_cons, Bool.and_eq_true] at h
    obtain ⟨k, rfl⟩ := key1_of h.1
    obtain ⟨ks, rfl⟩ := key1s_of h.2
    exact ⟨k :: ks, rfl⟩
theorem key_cases : ∀ {d : D}, isKey d = true → (∃ k, d = keyD k) ∨ ∃ ks, d = tkeyD ks
  | .int i, _ => .inl ⟨.inl i, rfl⟩
  | .str x, _ => .inl ⟨.inr x, rfl⟩
  | .tuple ds, h => let ⟨ks, e⟩ := key1s_of (show ds.all isKey1 = true from h); .inr ⟨ks, by rw [e]; rfl⟩
theorem Rp.key {N : Zn} {H : Hp} {v : V} {k : Key} (h : RpB N H v (keyD k)) : v = kV k := by
  cases k with
  | inl i => exact h.int_of
  | inr x => exact h.str_of
theorem Rp.keys {N : Zn} {H : Hp} : ∀ {vs : List V} {ks : List Key}, RpAll N H vs (ks.map keyD) → vs = ks.map kV
  | _, [], .nil => rfl
  | _, k :: ks, .cons r t => by rw [Rp.keys t, Rp.key (.of r)]; rfl
theorem Rp.tkey {N : Zn} {H : Hp} {v : V} {ks : List Key} (h : RpB N H v (tkeyD ks)) : ∃ b, v = .ref b ∧ H b = some (.tup (ks.map kV)) := by
  obtain ⟨a, xs, rfl, ha, r⟩ := (show RpB N H v (.tuple (ks.map keyD)) from h).tup_of
  exact ⟨a, rfl, by rw [← Rp.keys r]; exact ha⟩
/-- what stands at a key, by data -/
theorem find_rp {κ : Type} [DecidableEq κ] {N : Zn} {H : Hp} (enc : κ → D) (hq : ∀ a b, PyData.eqv (enc a) (enc b) = decide (a = b)) (k : κ) : ∀ {kvs : List (κ × V)} {ds : List D}, RpAll N H (kvs.map (·.2)) ds →
    (∃ v d, valV kvs k = some v ∧ dget ((kvs.map fun p => enc p.1).zip ds) (enc k) = some d ∧ Rp N H v d) ∨ (valV kvs k = none ∧ dget ((kvs.map fun p => enc p.1).zip ds) (enc k) = none)
  | [], _, .nil => .inr ⟨rfl, rfl⟩
  | (a, v) :: r, _, .cons (d := d) h t => by
    have hc : PyData.eqv (enc a) (enc k) = decide (a = k) := hq a k
    by_cases e : a = k
    · refine .inl ⟨v, d, valV_pos (p := (a, v)) e, ?_, h⟩
      rw [decide_eq_true e] at hc
      simp [dget, List.find?_cons, hc]
    · have ih := find_rp enc hq k t
      have h1 : valV ((a, v) :: r) k = valV r k := valV_neg (p := (a, v)) e
      have h2 : ∀ ds, dget ((((a, v) :: r).map fun p => enc p.1).zip (d :: ds)) (enc k) = dget ((r.map fun p => enc p.1).zip ds) (enc k) := fun ds => by
        simp [dget, List.find?_cons, hc, e]
      rw [h1]
      simp only [h2]
      exact ih
theorem find_off {κ : Type} {enc : κ → D} {k : D} (hq : ∀ a, PyData.eqv (enc a) k = false) : ∀ (kvs : List (κ × V)) (ds : List D), dget ((kvs.map fun p => enc p.1).zip ds) k = none
  | [], _ => rfl
  | _ :: _, [] => rfl
  | (a, v) :: r, d :: ds => by
    have := find_off hq r ds
    simpa [dget, List.find?_cons, hq a] using this
/-- an empty dict is one of either kind -/
theorem Inv.toT {pins : List (Addr × Obj)} {σ : St} {H : Hp} {s : Shared} {a : Addr} (I : Inv X pins σ H s) (h : H a = some (.dK [])) : Inv X pins σ (upd H a (.dT [])) s := by
  obtain ⟨z, y, vs, rel, o, es, ep, ho, hx, hd, hk, hp, hn⟩ := dk_of I.hok h
  cases rel
  have he : es.toList = [] := by generalize es.toList = l at hp; cases hp; rfl
  exact I.write (x := a) (e := a) (h' := s.heap) (t' := s.toks) (by rw [h]; trivial) (.inl rfl) (fun _ _ _ q => q) ⟨o, ho⟩ ⟨z, y, [], .nil, o, es, ep, ho, hx, hd, by rw [he]; rfl, by simp⟩
theorem Inv.toK {pins : List (Addr × Obj)} {σ : St} {H : Hp} {s : Shared} {a : Addr} (I : Inv X pins σ H s) (h : H a = some (.dT [])) : Inv X pins σ (upd H a (.dK [])) s := by
  obtain ⟨z, y, xs, rel, o, es, ep, ho, hx, hd, he, _, hn⟩ := dt_of I.hok h
  cases rel
  refine I.write (x := a) (e := a) (h' := s.heap) (t' := s.toks) (by rw [h]; trivial) (.inl rfl) (fun _ _ _ q => q) ⟨o, ho⟩ ⟨z, y, [], .nil, o, es, ep, ho, hx, hd, fun e q => ?_, ?_, by simp⟩
  · have : e ∈ es.toList := by simpa using q
    rw [he] at this; simp at this
  · rw [he]; exact .nil
theorem upd_back {H : Hp} {a : Addr} {o u : HO} (h : H a = some o) : upd (upd H a u) a o = H := by
  rw [upd_upd]; funext b; unfold upd; split
  · rename_i e; rw [e, h]
  · rfl
end
end PD
/-! PDc: comparisons, subscripts, slices, truth. -/
namespace PD
open PySem L2
section
variable {X : Cx}
theorem kindOk_K {kvs : List (Key × V)} {ds : List D} (hl : kvs.length = ds.length) {ks : List Key} (h : kindOk ((kvs.map (fun p => keyD p.1)).zip ds) (tkeyD ks) = true) : kvs = [] := by
  cases kvs with
  | nil => rfl
  | cons p r => cases ds with
    | nil => simp at hl
    | cons d ds =>
      simp only [kindOk, List.map_cons, List.zip_cons_cons, List.all_cons, Bool.and_eq_true] at h
      rcases p with ⟨i | x, v⟩ <;> simp [keyD, tkeyD] at h
theorem kindOk_T {kvs : List (List Key × V)} {ds : List D} (hl : kvs.length = ds.length) {k : Key} (h : kindOk ((kvs.map (fun p => tkeyD p.1)).zip ds) (keyD k) = true) : kvs = [] := by
  cases kvs with
  | nil => rfl
  | cons p r => cases ds with
    | nil => simp at hl
    | cons d ds =>
      simp only [kindOk, List.map_cons, List.zip_cons_cons, List.all_cons, Bool.and_eq_true] at h
      rcases k with i | x <;> simp [keyD, tkeyD] at h
/-- the dict at a, asked at a key: what is read, under a heap that is the same but for an empty dict's kind -/
theorem dict_at {pins : List (Addr × Obj)} {σ : St} {H : Hp} {s : Shared} {N : Zn} {x y : V} {d : D} {kvs : List (D × D)} (I : Inv X pins σ H s) (hd : RpB N H x (.dict kvs)) (hk : RpB N H y d) (k1 : isKey d = true) (k2 : kindOk kvs d = true) :
    ∃ a H2 o, x = .ref a ∧ Inv X pins σ H2 s ∧ DGet H2 a y o ∧ (∀ s', Inv X pins σ H2 s' → Inv X pins σ H s') ∧
      ((∃ v e, o = some v ∧ dget kvs d = some e ∧ Rp N H v e) ∨ (o = none ∧ dget kvs d = none)) := by
  obtain ⟨a, rfl, ⟨ks, es, ha, r, rfl⟩ | ⟨ks, es, hne, ha, r, rfl⟩⟩ := hd.dict_of
  · have hl : ks.length = es.length := by simpa using r.length
    rcases key_cases k1 with ⟨k, rfl⟩ | ⟨k, rfl⟩
    · refine ⟨a, H, valV ks k, rfl, I, by rw [Rp.key hk]; exact DGet.k ha, fun _ q => q, ?_⟩
      rcases find_rp keyD keyD_eqv k r with ⟨v, e, h1, h2, h3⟩ | ⟨h1, h2⟩
      · exact .inl ⟨v, e, h1, h2, h3⟩
      · exact .inr ⟨h1, h2⟩
    · obtain rfl := kindOk_K hl k2
      obtain ⟨b, rfl, hb⟩ := Rp.tkey hk
      have hne : b ≠ a := ne_of hb ha (by intro z; cases z)
      refine ⟨a, upd H a (.dT []), none, rfl, Inv.toT I ha, DGet.t (kvs := []) (k := k) upd_same (by rw [upd_ne hne]; exact hb), fun s' q => ?_, .inr ⟨rfl, by simp [dget]⟩⟩
      have := Inv.toK q upd_same
      rwa [upd_back ha] at this
  · have hl : ks.length = es.length := by simpa using r.length
    rcases key_cases k1 with ⟨k, rfl⟩ | ⟨k, rfl⟩
    · exact absurd (kindOk_T hl k2) hne
    · obtain ⟨b, rfl, hb⟩ := Rp.tkey hk
      refine ⟨a, H, valV ks k, rfl, I, DGet.t ha hb, fun _ q => q, ?_⟩
      rcases find_rp tkeyD tkeyD_eqv k r with ⟨v, e, h1, h2, h3⟩ | ⟨h1, h2⟩
      · exact .inl ⟨v, e, h1, h2, h3⟩
      · exact .inr ⟨h1, h2⟩

theorem op2_eq (hu : X.A.units + 64 < cLine) (ne : Bool) : Op2 X false (compareOp (if ne then .NotEq else .Eq)) (fun d e => if eqOk d e then some (.bool (if ne then !PyData.eqv d e else PyData.eqv d e)) else none) := by
  intro pins s σ H x y v u Q I rx ry h
  obtain ⟨N, d, e, r, f, hx, hy, hs, o⟩ := h
  by_cases hok : eqOk d e = true
  · obtain ⟨c1, c2, c3⟩ := eqOk_of hok
    obtain ⟨as, r1, _⟩ := hx.reads I rx
    obtain ⟨bs, r2, _⟩ := hy.reads I ry
    cases ne with
    | false => simp only [hok, if_true, Bool.false_eq_true, if_false] at hs; cases hs; exact SeqAt.compareEq_reads r1 r2 c1 c2 (by omega) ⟨.bl _, H, I, rfl, o.imm (.bl _) rfl⟩
    | true => simp only [hok, if_true] at hs; cases hs; exact SeqAt.compareNe_reads r1 r2 c1 c2 (by omega) ⟨.bl _, H, I, rfl, o.imm (.bl _) rfl⟩
  · simp only [hok] at hs; cases hs
theorem op2_lt (hu : X.A.units + 64 < cLine) (c : COp) (hc : c = .lt ∨ c = .gt ∨ c = .le ∨ c = .ge) : Op2 X false (compareOp (copF c)) (copD c) := by
  intro pins s σ H x y v u Q I rx ry h
  obtain ⟨N, d, e, r, f, hx, hy, hs, o⟩ := h
  have hok : ltOk d e = true := by
    rcases hc with rfl | rfl | rfl | rfl <;> (simp only [copD] at hs; split at hs <;> first | assumption | cases hs)
  obtain ⟨c1, c2, c3⟩ := ltOk_of hok
  obtain ⟨as, r1, _⟩ := hx.reads I rx
  obtain ⟨bs, r2, _⟩ := hy.reads I ry
  rcases hc with rfl | rfl | rfl | rfl <;> (simp only [copD, hok, if_true] at hs; cases hs)
  · exact PySem.W.lt_data r1 r2 c1 c2 (by omega) ⟨.bl _, H, I, rfl, o.imm (.bl _) rfl⟩
  · exact PySem.W.gt_data r1 r2 c1 c2 (by omega) ⟨.bl _, H, I, rfl, o.imm (.bl _) rfl⟩
  · exact PySem.W.le_data r1 r2 c1 c2 (by omega) ⟨.bl _, H, I, rfl, o.imm (.bl _) rfl⟩
  · exact PySem.W.ge_data r1 r2 c1 c2 (by omega) ⟨.bl _, H, I, rfl, o.imm (.bl _) rfl⟩
theorem op2_is (n : Bool) : Op2 X false (compareOp (if n then .IsNot else .Is)) (isD n) := by
  intro pins s σ H x y v u Q I rx ry h
  obtain ⟨N, d, e, r, f, hx, hy, hs, o⟩ := h
  unfold isD at hs
  by_cases he : isN e = true
  · have hy' : y = .non := by
      cases e <;> simp [isN] at he
      exact hy.non_of
    subst hy'
    have e1 := isN_iff hx
    cases n with
    | false => simp only [he, if_true, Bool.false_eq_true, if_false] at hs; cases hs; exact op_isN pins s σ H x _ v u Q I rx ry ⟨rfl, by rw [e1]; exact o.imm (.bl _) rfl⟩
    | true => simp only [he, if_true] at hs; cases hs; exact op_notN pins s σ H x _ v u Q I rx ry ⟨rfl, by rw [e1]; exact o.imm (.bl _) rfl⟩
  · simp only [he] at hs
    obtain ⟨p, hp, rfl⟩ := Option.map_eq_some_iff.mp hs
    unfold boolsOf at hp
    split at hp <;> cases hp
    cases hx.bl_of
    cases hy.bl_of
    cases n with
    | false => exact op_isBl pins s σ H _ _ v u Q I rx ry ⟨_, _, rfl, rfl, o.imm (.bl _) rfl⟩
    | true => exact op_notBl pins s σ H _ _ v u Q I rx ry ⟨_, _, rfl, rfl, o.imm (.bl _) rfl⟩
theorem op2_in (hu : X.A.units + 64 < cLine) (n : Bool) : Op2 X false (compareOp (if n then .NotIn else .In)) (inD n) := by
  intro pins s σ H x y v u Q I rx ry h
  obtain ⟨N, d, e, r, f, hx, hy, hs, o⟩ := h
  obtain ⟨as, r1, _⟩ := hx.reads I rx
  unfold inD at hs
  split at hs
  · split at hs
    · rename_i hc
      simp only [Bool.and_eq_true, decide_eq_true_eq] at hc
      cases hs
      obtain ⟨bs, r2, _⟩ := hy.reads I ry
      cases n with
      | false => exact SeqAt.in_list_reads r2 r1 hc.1.2 hc.1.1 (by omega) ⟨.bl _, H, I, rfl, o.imm (.bl _) rfl⟩
      | true => exact SeqAt.notIn_list_reads r2 r1 hc.1.2 hc.1.1 (by omega) ⟨.bl _, H, I, rfl, o.imm (.bl _) rfl⟩
    · cases hs
  · split at hs
    · rename_i hc
      simp only [Bool.and_eq_true, decide_eq_true_eq] at hc
      cases hs
      obtain ⟨bs, r2, _⟩ := hy.reads I ry
      cases n with
      | false => exact SeqAt.in_tuple_reads r2 r1 hc.1.2 hc.1.1 (by omega) ⟨.bl _, H, I, rfl, o.imm (.bl _) rfl⟩
      | true => exact SeqAt.notIn_tuple_reads r2 r1 hc.1.2 hc.1.1 (by omega) ⟨.bl _, H, I, rfl, o.imm (.bl _) rfl⟩
    · cases hs
  · rename_i kvs
    split at hs
    · rename_i hc
      rw [Bool.and_eq_true] at hc
      cases hs
      obtain ⟨a, H2, ov, rfl, I2, g, back, hv⟩ := dict_at I hy hx hc.1 hc.2
      cases ry
      have eo : ov.isSome = (dget kvs d).isSome := by
        rcases hv with ⟨w, e, h1, h2, _⟩ | ⟨h1, h2⟩ <;> rw [h1, h2] <;> rfl
      cases n with
      | false => exact d_in (by omega) I2 g rx fun s' I' => ⟨.bl _, H, back s' I', by rw [eo]; rfl, o.imm (.bl _) rfl⟩
      | true => exact d_notIn (by omega) I2 g rx fun s' I' => ⟨.bl _, H, back s' I', by rw [eo]; rfl, o.imm (.bl _) rfl⟩
    · cases hs
  · cases hs
theorem op2_cop (hu : X.A.units + 64 < cLine) (c : COp) : Op2 X false (compareOp (copF c)) (copD c) := by
  cases c with
  | eq => exact op2_eq hu false
  | ne => exact op2_eq hu true
  | lt => exact op2_lt hu .lt (by simp)
  | gt => exact op2_lt hu .gt (by simp)
  | le => exact op2_lt hu .le (by simp)
  | ge => exact op2_lt hu .ge (by simp)
  | is => exact op2_is false
  | isn => exact op2_is true
  | inn => exact op2_in hu false
  | nin => exact op2_in hu true
end
end PD
/-! PDd: the compact language and what it means (weakest preconditions over data). -/
namespace PD
open PySem L2

abbrev W (α : Type) := (α → Prop) → Prop
def lift {α : Type} (o : Option α) : W α := fun Q => ∃ d, o = some d ∧ Q d

/-- what a slot holds: shared data, data of one's own list or dict, the source of draws -/
inductive B where
  | sh (d : D) | own (d : D) | src
abbrev Nv := List (Option B)
def look (ρ : Nv) (i : Nat) : Option D := match ρ[i]? with
  | some (some (.sh d)) => some d
  | _ => none
def lookB (ρ : Nv) (i : Nat) : Option D := match ρ[i]? with
  | some (some (.sh d)) => some d
  | some (some (.own d)) => some d
  | _ => none
def lookA (ρ : Nv) (i : Nat) : Option B := match ρ[i]? with
  | some (some (.sh d)) => some (.sh d)
  | some (some .src) => some .src
  | _ => none

inductive Prim where
  | len | tuple | list | sorted | sum | max | min | abs | all | any | int | repr | str | index | get | dictOf | keys | values | items | count | bool | join | lists
  deriving DecidableEq, Repr
/-- classes asked by isinstance -/
inductive Ty where | int | bool | str | list | tuple | dict
  deriving DecidableEq, Repr
inductive G where
  | v (i : Nat)
  | tup (gs : List G)

mutual
inductive E where
  | var (i : Nat)
  | cst (d : D)
  | bin (op : BOp) (a b : E)
  | neg (a : E)
  | not (a : E)
  | and (a b : E)
  | or (a b : E)
  | cmp (op : COp) (a b : E)
  | chain (o1 o2 : COp) (a b c : E)
  | ife (c : T) (a b : E)
  | tup (es : Es)
  | lst (es : Es)
  | dnew
  | idx (a i : E)
  | slc (a : E) (lo hi : Eo)
  | rev (a : E)
  | call (f : Nat) (as : Es)
  | prim (p : Prim) (as : Es)
  | isi (a : E) (ts : List Ty)
  | lc (vs : List Nat) (g : G) (it : It) (c : To) (elt : E)
  | lc2 (vs : List Nat) (g : G) (it : It) (c : To) (g1 : G) (it1 : It) (c1 : To) (elt : E)
  | dc (vs : List Nat) (g : G) (it : It) (c : To) (k x : E)
  | srt (a : E) (i : Nat) (k : E)
  | rg (tup : Bool) (lo : Eo) (hi : E)
  | meth (p : Prim) (a : E) (as : Es)
  | disp (tk : Bool) (ps : Ps)
  | dead
  | sset (a : E)
  | lck (vs : List Nat) (g : G) (i : Nat) (c : To) (elt : E)
inductive Ps where
  | nil | cons (k v : E) (r : Ps)
inductive T where
  | and (a b : T) | or (a b : T) | not (a : T) | e (a : E)
inductive To where
  | no | yes (c : T)
inductive Es where
  | nil | cons (e : E) (r : Es) | star (e : E) (r : Es)
inductive Eo where
  | no | yes (e : E)
inductive It where
  | val (e : E) | rng (lo : Eo) (hi : E) | rng3 (lo hi st : E) | enum (e : E) | zip (a b : E) | items (e : E) | values (e : E) | revd (e : E)
end

/-! ### what operations give -/
def truD : D → Option Bool
  | .none => some false
  | .bool b => some b
  | .int i => some (i != 0)
  | .str y => if y.length ≤ sizeLine then some ((y.length : Int) != 0) else none
  | .list xs => some (!xs.isEmpty)
  | .tuple xs => some (!xs.isEmpty)
  | .dict xs => if kindOk xs (.int 0) then some (!xs.isEmpty) else none
def idxD : D → D → Option D
  | .list xs, .int i => atI xs i
  | .tuple xs, .int i => atI xs i
  | .str z, .int i => if z.length ≤ sizeLine then (atI z.cps.toList i).map fun c => .str ⟨#[c]⟩ else none
  | .dict kvs, k => if isKey k && kindOk kvs k then dget kvs k else none
  | _, _ => none
def cutL {α : Type} (xs : List α) (lo hi : Option Int) : List α := (xs.drop (HT.sIx xs.length 0 lo)).take (HT.sIx xs.length xs.length hi - HT.sIx xs.length 0 lo)
def slcD (d : D) (lo hi : Option Int) : Option D := match d with
  | .list xs => some (.list (cutL xs lo hi))
  | .tuple xs => some (.tuple (cutL xs lo hi))
  | .str z => if z.length ≤ sizeLine then some (.str (cutS z lo hi)) else none
  | _ => none
def revD : D → Option D
  | .list xs => some (.list xs.reverse)
  | _ => none
def negD : D → Option D
  | .int i => some (.int (-i))
  | _ => none
def isiD (d : D) (ts : List Ty) : Bool := ts.any fun t => match t, d with
  | .int, .int _ => true
  | .int, .bool _ => true
  | .bool, .bool _ => true
  | .str, .str _ => true
  | .list, .list _ => true
  | .tuple, .tuple _ => true
  | .dict, .dict _ => true
  | _, _ => false
/-- the ints lo .. hi - 1 -/
def rangeI (lo hi : Int) : List D := (List.range (hi - lo).toNat).map fun i => .int (lo + (i : Nat))
instance (a b : Int) : Decidable (RgOk a b) := by unfold RgOk; exact inferInstance
def rngD (lo hi : D) : Option (List D) := match lo, hi with
  | .int a, .int b => if RgOk a b then some (rangeI a b) else none
  | _, _ => none
/-- the items of a list or tuple -/
def ltD : D → Option (List D)
  | .list xs => some xs
  | .tuple xs => some xs
  | _ => none
def seqD : D → Option (List D)
  | .list xs => some xs
  | .tuple xs => some xs
  | .dict kvs => some (kvs.map (·.1))
  | _ => none
def intsD : List D → Option (List Int)
  | [] => some []
  | .int i :: r => (intsD r).map (i :: ·)
  | _ => none
def boolsD : List D → Option (List Bool)
  | [] => some []
  | .bool i :: r => (boolsD r).map (i :: ·)
  | _ => none
def allAlike (ds : List D) : Bool := ds.all fun d => ds.all fun e => PySem.W.alike d e
def isTup1 : D → Bool
  | .tuple (_ :: _) => true
  | _ => false
def noTupN : D → Bool
  | .tuple _ => false
  | .none => false
  | _ => true
def sortOk (ds : List D) : Bool := allAlike ds && (ds.all isTup1 || ds.all noTupN) && ds.all fun d => decide (d.depth ≤ 60)
def sortD (ds : List D) : List D := ds.mergeSort (PySem.W.dataLe false id)
def pairT (x y : D) : D := .tuple [x, y]
/-- zip of two lists, of two tuples -/
def zipD : D → D → Option (List D)
  | .list xs, .list ys => some (List.zipWith pairT xs ys)
  | .tuple xs, .tuple ys => some (List.zipWith pairT xs ys)
  | _, _ => none
def enumD (ds : List D) : List D := ds.zipIdx.map fun p => .tuple [.int p.2, p.1]
instance (i j c : Int) : Decidable (Builtin.Range.small i j c = true) := inferInstance
def rng3D : D → D → D → Option (List D)
  | .int a, .int b, .int c => if c ≠ 0 ∧ c.natAbs < 1073741824 ∧ Builtin.Range.small a b c = true ∧ Builtin.Range.rangeSize a b c = ((Builtin.Range.rangeSize a b c).toNat : Int) ∧ (Builtin.Range.rangeSize a b c).toNat ≤ sizeLine then some ((List.range (Builtin.Range.rangeSize a b c).toNat).map fun i : Nat => .int (a + (i : Int) * c)) else none
  | _, _, _ => none
def itemsT (kvs : List (D × D)) : List D := kvs.map fun p => .tuple [p.1, p.2]

/-! ### slots -/
mutual
def asg : G → D → Nv → Option Nv
  | .v i, d, ρ => some (ρ.set i (some (.sh d)))
  | .tup gs, .tuple ds, ρ => asgs gs ds ρ
  | .tup gs, .list ds, ρ => asgs gs ds ρ
  | .tup _, _, _ => none
def asgs : List G → List D → Nv → Option Nv
  | [], [], ρ => some ρ
  | g :: gs, d :: ds, ρ => (asg g d ρ).bind (asgs gs ds)
  | _, _, _ => none
end
def wipeN (ρ : Nv) : List Nat → Nv
  | [] => ρ
  | i :: r => (wipeN ρ r).set i none

/-- a comprehension's items, one by one -/
def lcW : List D → (D → W (Option D)) → W (List D)
  | [], _, Q => Q []
  | d :: ds, st, Q => st d fun o => lcW ds st fun r => Q (o.toList ++ r)

def bor (e : E) (ρ : Nv) (r : W D) : W D := match e with
  | .var i => lift (lookB ρ i)
  | _ => r
def arg (e : E) (ρ : Nv) (r : W D) : W B := match e with
  | .var i => lift (lookA ρ i)
  | _ => fun Q => r fun d => Q (.sh d)
/-- slots that hold nothing of one's own -/
def free (ρ : Nv) (vs : List Nat) : Bool := vs.all fun i => match ρ[i]? with
  | some (some (.own _)) => false
  | _ => true
abbrev Calls := Nat → List B → W D

/-- what repr shows -/
def showOk (d : D) : Bool := d.showable && decide (d.depth ≤ 60) && decide (d.shown.length ≤ sizeLine)
def pairsD : List D → Option (List (D × D))
  | [] => some []
  | .tuple [k, x] :: r => (pairsD r).map ((k, x) :: ·)
  | _ => none
def dput (kvs : List (D × D)) (k x : D) : List (D × D) :=
  if kvs.any (fun p => PyData.eqv p.1 k) then kvs.map (fun p => if PyData.eqv p.1 k then (p.1, x) else p) else kvs ++ [(k, x)]
def dputs (kvs ps : List (D × D)) : List (D × D) := ps.foldl (fun acc p => dput acc p.1 p.2) kvs
def isTk : D → Bool
  | .tuple ks => ks.all isKey1
  | _ => false
/-- put into a rising row, once -/
def insU (x : Int) : List Int → List Int
  | [] => [x]
  | y :: r => if x < y then x :: y :: r else if x = y then y :: r else y :: insU x r
def sortU (xs : List Int) : List Int := xs.foldr insU []
/-- sorted(set(t)), t a tuple of ints -/
def ssetD : D → Option D
  | .list ds => match intsD ds with
    | some ns => if ns.length < 64 then some (.list ((sortU ns).map .int)) else none
    | none => none
  | .tuple ds => match intsD ds with
    | some ns => if ns.length < 64 then some (.list ((sortU ns).map .int)) else none
    | none => none
  | _ => none
/-- the first place of d -/
def indexD (xs : List D) (d : D) : Option D := if d.canLay0 && PyData.canLayAll0 xs && decide (min (PyData.depthAll xs) d.depth ≤ 60) && xs.any (fun y => PyData.eqv y d) then some (.int (xs.findIdx fun y => PyData.eqv y d)) else none
/-- may the method be asked of it? -/
def mOk : Prim → D → Bool
  | .index, .list _ => true

  | _, _ => false
/-- a displayed dict: keys of one kind -/
def dispD (tk : Bool) (ps : List (D × D)) : Option D := if decide (ps.length ≤ 15) && ps.all (fun p => if tk then isTk p.1 else isKey1 p.1) && !ps.isEmpty then some (.dict (dputs [] ps)) else none
/-- what built-ins give -/
def primD : Prim → List D → Option D
  | .len, [.list xs] => some (.int xs.length)
  | .len, [.tuple xs] => some (.int xs.length)
  | .len, [.dict xs] => some (.int xs.length)
  | .len, [.str z] => if z.length ≤ sizeLine then some (.int z.length) else none
  | .tuple, [.list xs] => some (.tuple xs)
  | .tuple, [.tuple xs] => some (.tuple xs)
  | .list, [.list xs] => some (.list xs)
  | .list, [.tuple xs] => some (.list xs)
  | .list, [.dict kvs] => some (.list (kvs.map (·.1)))
  | .sorted, [.list xs] => if sortOk xs then some (.list (sortD xs)) else none
  | .sorted, [.tuple xs] => if sortOk xs then some (.list (sortD xs)) else none
  | .sorted, [.dict kvs] => if sortOk (kvs.map (·.1)) then some (.list (sortD (kvs.map (·.1)))) else none
  | .sum, [.list xs] => (intsD xs).map fun ns => .int ns.sum
  | .all, [.list xs] => (boolsD xs).map fun bs => .bool (bs.all id)
  | .any, [.list xs] => (boolsD xs).map fun bs => .bool (bs.any id)
  | .abs, [.int i] => some (.int (if i < 0 then -i else i))
  | .int, [.int i] => some (.int i)
  | .int, [.bool b] => some (.int (if b then 1 else 0))
  | .max, [.int i, .int j] => some (.int (if j > i then j else i))
  | .min, [.int i, .int j] => some (.int (if j < i then j else i))
  | .dictOf, [.list xs] => (pairsD xs).bind fun ps => if ps.all (fun p => isKey1 p.1) || ps.all (fun p => isTk p.1) then some (.dict (dputs [] ps)) else none
  | .repr, [d] => if showOk d then some (.str d.shown) else none
  | .index, [.list xs, d] => indexD xs d
  | .index, [.tuple xs, d] => indexD xs d
  | _, _ => none

mutual
def ev (C : Calls) : E → Nv → W D
  | .var i, ρ => lift (look ρ i)
  | .cst d, _ => fun Q => Q d
  | .bin op a b, ρ => fun Q => bor a ρ (ev C a ρ) fun x => bor b ρ (ev C b ρ) fun y => lift (binD op x y) Q
  | .neg a, ρ => fun Q => bor a ρ (ev C a ρ) fun x => lift (negD x) Q
  | .not a, ρ => fun Q => bor a ρ (ev C a ρ) fun x => lift (truD x) fun b => Q (.bool (!b))
  | .and a b, ρ => fun Q => ev C a ρ fun x => lift (truD x) fun t => if t = true then ev C b ρ Q else Q x
  | .or a b, ρ => fun Q => ev C a ρ fun x => lift (truD x) fun t => if t = true then Q x else ev C b ρ Q
  | .cmp op a b, ρ => fun Q => bor a ρ (ev C a ρ) fun x => bor b ρ (ev C b ρ) fun y => lift (copD op x y) Q
  | .chain o1 o2 a b c, ρ => fun Q => bor a ρ (ev C a ρ) fun x => bor b ρ (ev C b ρ) fun y => lift (copD o1 x y) fun z => lift (truD z) fun t =>
      if t = true then bor c ρ (ev C c ρ) fun z => lift (copD o2 y z) Q else Q (.bool false)
  | .ife c a b, ρ => fun Q => tst C c ρ fun t => if t = true then ev C a ρ Q else ev C b ρ Q
  | .tup es, ρ => fun Q => evs C es ρ fun ds => ds.length ≤ sizeLine ∧ Q (.tuple ds)
  | .lst es, ρ => fun Q => evs C es ρ fun ds => ds.length ≤ sizeLine ∧ Q (.list ds)
  | .dnew, _ => fun Q => Q (.dict [])
  | .idx a i, ρ => fun Q => bor a ρ (ev C a ρ) fun x => ev C i ρ fun y => lift (idxD x y) Q
  | .slc a lo hi, ρ => fun Q => bor a ρ (ev C a ρ) fun x => evo C lo ρ fun l => evo C hi ρ fun h => lift (slcD x l h) Q
  | .rev a, ρ => fun Q => bor a ρ (ev C a ρ) fun x => lift (revD x) Q
  | .call f as, ρ => fun Q => eva C as ρ fun bs => C f bs Q
  | .prim p as, ρ => fun Q => evb C as ρ fun ds => lift (primD p ds) Q
  | .isi a ts, ρ => fun Q => bor a ρ (ev C a ρ) fun x => Q (.bool (isiD x ts))
  | .lc vs g it c elt, ρ => fun Q => free ρ vs = true ∧ evi C true it ρ fun ds => lcW ds (fun d K => lift (asg g d (wipeN ρ vs)) fun ρ' => evc C c ρ' fun t => if t = true then ev C elt ρ' (fun y => K (some y)) else K none) fun r => Q (.list r)
  | .lc2 .., _ => fun _ => False
  | .dead, _ => fun _ => False
  | .sset a, ρ => fun Q => bor a ρ (ev C a ρ) fun x => lift (ssetD x) Q
  | .lck vs g i c elt, ρ => fun Q => ∃ kvs, ρ[i]? = some (some (.own (.dict kvs))) ∧ kvs.length ≤ sizeLine ∧ free (ρ.set i none) vs = true ∧ lcW (kvs.map (·.1)) (fun d K => lift (asg g d (wipeN (ρ.set i none) vs)) fun ρ' => evc C c ρ' fun t => if t = true then ev C elt ρ' (fun y => K (some y)) else K none) fun r => Q (.list r)
  | .dc .., _ => fun _ => False
  | .srt .., _ => fun _ => False
  | .meth p a as, ρ => fun Q => bor a ρ (ev C a ρ) fun x => mOk p x = true ∧ evb C as ρ fun ds => lift (primD p (x :: ds)) Q
  | .disp tk ps, ρ => fun Q => evp C ps ρ fun qs => lift (dispD tk qs) Q
  | .rg tup lo hi, ρ => fun Q => evo C lo ρ fun l => ev C hi ρ fun h => lift (rngD (.int (l.getD 0)) h) fun ds => Q (if tup then .tuple ds else .list ds)
def evp (C : Calls) : Ps → Nv → W (List (D × D))
  | .nil, _ => fun Q => Q []
  | .cons k v r, ρ => fun Q => ev C k ρ fun x => ev C v ρ fun y => evp C r ρ fun qs => Q ((x, y) :: qs)
def tst (C : Calls) : T → Nv → W Bool
  | .and a b, ρ => fun Q => tst C a ρ fun c => if c = true then tst C b ρ Q else Q false
  | .or a b, ρ => fun Q => tst C a ρ fun c => if c = true then Q true else tst C b ρ Q
  | .not a, ρ => fun Q => tst C a ρ fun c => Q (!c)
  | .e a, ρ => fun Q => bor a ρ (ev C a ρ) fun x => lift (truD x) Q
def evs (C : Calls) : Es → Nv → W (List D)
  | .nil, _ => fun Q => Q []
  | .cons e r, ρ => fun Q => ev C e ρ fun x => evs C r ρ fun xs => Q (x :: xs)
  | .star e r, ρ => fun Q => bor e ρ (ev C e ρ) fun x => lift (ltD x) fun ys => evs C r ρ fun xs => Q (ys ++ xs)
def evb (C : Calls) : Es → Nv → W (List D)
  | .nil, _ => fun Q => Q []
  | .cons e r, ρ => fun Q => bor e ρ (ev C e ρ) fun x => evb C r ρ fun xs => Q (x :: xs)
  | .star .., _ => fun _ => False
def eva (C : Calls) : Es → Nv → W (List B)
  | .nil, _ => fun Q => Q []
  | .cons e r, ρ => fun Q => arg e ρ (ev C e ρ) fun x => eva C r ρ fun xs => Q (x :: xs)
  | .star .., _ => fun _ => False
def evo (C : Calls) : Eo → Nv → W (Option Int)
  | .no, _ => fun Q => Q none
  | .yes e, ρ => fun Q => ev C e ρ fun x => ∃ i, x = .int i ∧ Q (some i)
def evc (C : Calls) : To → Nv → W Bool
  | .no, _ => fun Q => Q true
  | .yes e, ρ => fun Q => tst C e ρ Q
def evi (C : Calls) (b : Bool) : It → Nv → W (List D)
  | .val e, ρ => fun Q => (if b = true then bor e ρ (ev C e ρ) else ev C e ρ) fun x => lift (ltD x) Q
  | .rng lo hi, ρ => fun Q => evo C lo ρ fun l => ev C hi ρ fun h => lift (rngD (.int (l.getD 0)) h) Q
  | .zip e f, ρ => fun Q => (if b = true then bor e ρ (ev C e ρ) else ev C e ρ) fun x => (if b = true then bor f ρ (ev C f ρ) else ev C f ρ) fun y => lift (zipD x y) Q
  | .enum e, ρ => fun Q => (if b = true then bor e ρ (ev C e ρ) else ev C e ρ) fun x => lift (ltD x) fun ds => Q (enumD ds)
  | .rng3 lo hi st, ρ => fun Q => ev C lo ρ fun l => ev C hi ρ fun h => ev C st ρ fun s => lift (rng3D l h s) Q
  | _, _ => fun _ => False
end
end PD
/-! PDe: slots and heap; readings of expressions. -/
namespace PD
open PySem L2

/-- the source's dict at c, its cells at l -/
def srcKV (l : Addr) (left mixed turn : Int) : List (Key × V) := [(.inr "cells", .ref l), (.inr "left", .int left), (.inr "mixed", .int mixed), (.inr "turn", .int turn)]
structure SrcH (c l : Addr) (xs : List Int) (left mixed turn : Int) (H : Hp) : Prop where
  d : H c = some (.dK (srcKV l left mixed turn))
  l : H l = some (.lst (xs.map V.int))
def SrcI (c l : Addr) (H : Hp) : Prop := ∃ xs left mixed turn, SrcH c l xs left mixed turn H
/-- the source of draws: its value, the places that its draws change, what holds of it -/
structure Src where
  v : V
  dom : Zn
  inv : Hp → Prop
  fit : ∀ H, inv H → Fit dom H
  stab : ∀ H H', inv H → (∀ a, dom a → H' a = H a) → inv H'
  shape : ∃ c l, c ≠ l ∧ v = .ref c ∧ (∀ a, dom a ↔ a = c ∨ a = l) ∧ ∀ H, inv H ↔ SrcI c l H
theorem Src.ext (S : Src) {H H' : Hp} (i : S.inv H) (e : Ext No H H') : S.inv H' := S.stab H H' i fun a ha => by
  obtain ⟨o, q, _⟩ := (S.fit H i).dom a ha
  rw [q, e a o q fun z => z]
theorem Ext.any {H H' : Hp} (N : Zn) (e : Ext No H H') : Ext N H H' := fun a o q _ => e a o q fun z => z

def OwnAt (ρ : Nv) (σ : L2.St) (a : Addr) : Prop := ∃ (i : Nat) (d : D), ρ[i]? = some (some (.own d)) ∧ σ[i]? = some (some (.ref a))
def Nn (P : Zn) (ρ : Nv) (σ : L2.St) : Zn := fun a => P a ∨ OwnAt ρ σ a

structure Rel (S : Src) (P : Zn) (ρ : Nv) (σ : L2.St) (H : Hp) : Prop where
  len : ρ.length = σ.length
  sub : ∀ a, S.dom a → P a
  fitP : Fit P H
  inv : S.inv H
  sh : ∀ (i : Nat) (d : D), ρ[i]? = some (some (.sh d)) → ∃ v, σ[i]? = some (some v) ∧ Rp (Nn P ρ σ) H v d
  own : ∀ (i : Nat) (d : D), ρ[i]? = some (some (.own d)) → ∃ a, σ[i]? = some (some (.ref a)) ∧ isL d = true ∧ RpB (Nn P ρ σ) H (.ref a) d ∧ ¬ P a
  dis : ∀ (i j : Nat) (d e : D) (a : Addr), ρ[i]? = some (some (.own d)) → ρ[j]? = some (some (.own e)) → σ[i]? = some (some (.ref a)) → σ[j]? = some (some (.ref a)) → i = j
  src : ∀ (i : Nat), ρ[i]? = some (some .src) → σ[i]? = some (some S.v)

theorem RpB.list_at {N : Zn} {H : Hp} {a : Addr} {d : D} (h : RpB N H (.ref a) d) (l : isL d = true) : ∃ o, H a = some o ∧ Mut (some o) := by
  cases h with
  | of r => cases r with
    | lst _ q _ => exact ⟨_, q, trivial⟩
    | tup _ _ => simp [isL] at l
    | dK _ q _ => exact ⟨_, q, trivial⟩
    | dT _ _ q _ => exact ⟨_, q, trivial⟩
  | lst q _ => exact ⟨_, q, trivial⟩
  | dK q _ => exact ⟨_, q, trivial⟩
  | dT _ q _ => exact ⟨_, q, trivial⟩

section
variable {S : Src} {P : Zn} {ρ : Nv} {σ : L2.St} {H H' : Hp}
theorem Rel.fit (R : Rel S P ρ σ H) : Fit (Nn P ρ σ) H := ⟨fun a h => by
  rcases h with h | ⟨i, d, h1, h2⟩
  · exact R.fitP.dom a h
  · obtain ⟨b, e, l, r, _⟩ := R.own i d h1
    rw [h2] at e; cases e
    exact r.list_at l⟩
theorem Rel.domN (R : Rel S P ρ σ H) : ∀ a, S.dom a → Nn P ρ σ a := fun a h => .inl (R.sub a h)
/-- a value whose top no draw changes -/
def RpS (S : Src) (N : Zn) (H : Hp) (v : V) (d : D) : Prop := RpB N H v d ∧ ∀ a, v = .ref a → ¬ S.dom a
theorem RpB.extA {N : Zn} {v : V} {d : D} (h : RpB N H v d) (f : Fit N H) (e : Ext N H H') (t : ∀ a o, v = .ref a → H a = some o → H' a = some o) : RpB N H' v d := by
  cases h with
  | of r => exact .of (r.ext e f)
  | lst q r => exact .lst (t _ _ rfl q) (r.ext e f)
  | dK q r => exact .dK (t _ _ rfl q) (r.ext e f)
  | dT z q r => exact .dT z (t _ _ rfl q) (r.ext e f)
theorem RpS.ext {N : Zn} {v : V} {d : D} (h : RpS S N H v d) (f : Fit N H) (hs : ∀ a, S.dom a → N a) (e : Ext S.dom H H') : RpS S N H' v d :=
  ⟨h.1.extA f (e.mono hs) fun a o ev q => e a o q (h.2 a ev), h.2⟩
theorem Rp.toS {N : Zn} {v : V} {d : D} (h : Rp N H v d) (f : Fit N H) (hs : ∀ a, S.dom a → N a) : RpS S N H v d :=
  ⟨.of h, fun a e z => by
    subst e
    have nz := hs a z
    cases h with
    | lst n _ _ => exact n nz
    | tup q _ =>
      obtain ⟨o, q', m⟩ := f.dom a nz
      rw [q] at q'; cases q'; exact m
    | dK n _ _ => exact n nz
    | dT n _ _ _ => exact n nz⟩
theorem Rel.ext (R : Rel S P ρ σ H) (e : Ext S.dom H H') (i : S.inv H') : Rel S P ρ σ H' where
  len := R.len
  sub := R.sub
  fitP := ⟨fun a h => by
    by_cases z : S.dom a
    · exact (S.fit H' i).dom a z
    · obtain ⟨o, q, m⟩ := R.fitP.dom a h
      exact ⟨o, e a o q z, m⟩⟩
  inv := i
  sh := fun i d h => by
    obtain ⟨v, q, r⟩ := R.sh i d h
    exact ⟨v, q, r.ext (e.mono R.domN) R.fit⟩
  own := fun i d h => by
    obtain ⟨a, q, l, r, n⟩ := R.own i d h
    exact ⟨a, q, l, r.extA R.fit (e.mono R.domN) (fun b o eb hb => by cases eb; exact e _ o hb fun z => n (R.sub _ z)), n⟩
  dis := R.dis
  src := R.src
theorem Rel.ext0 (R : Rel S P ρ σ H) (e : Ext No H H') : Rel S P ρ σ H' := R.ext (e.any _) (S.ext R.inv e)

/-- what is wanted behind an expression -/
def Fin (S : Src) (N : Zn) (H : Hp) (fr : Bool) (Q0 : D → Prop) (Q : VK) : Prop :=
  ∀ d, Q0 d → ∀ v H', Ext S.dom H H' → S.inv H' → Rp N H' v d → (fr = true → isL d = true → Fresh N H H' v d) → Q v H'
def FinB (S : Src) (N : Zn) (H : Hp) (Q0 : D → Prop) (Q : VK) : Prop :=
  ∀ d, Q0 d → ∀ v H', Ext S.dom H H' → S.inv H' → RpS S N H' v d → Q v H'
def frE : E → Bool
  | .bin _ _ _ => true
  | .lst _ => true
  | .dnew => true
  | .prim p _ => match p with
    | .list => true | .sorted => true | .dictOf => true | .keys => true | .values => true | .items => true | .lists => true
    | _ => false
  | .lc .. => true
  | .lc2 .. => true
  | .dc .. => true
  | .srt .. => true
  | .rg t _ _ => !t
  | .rev _ => true
  | .slc .. => true
  | .disp _ _ => true
  | .sset _ => true
  | .lck .. => true
  | _ => false
def tE (C : Calls) (e : E) : TE := fun σ H Q => ∃ S P ρ Q0, Rel S P ρ σ H ∧ ev C e ρ Q0 ∧ Fin S (Nn P ρ σ) H (frE e) Q0 Q
def tBo (C : Calls) (e : E) : TE := fun σ H Q => ∃ S P ρ Q0, Rel S P ρ σ H ∧ bor e ρ (ev C e ρ) Q0 ∧ FinB S (Nn P ρ σ) H Q0 Q
def tT (C : Calls) (c : T) : TT := fun σ H Q => ∃ S P ρ Q0, Rel S P ρ σ H ∧ tst C c ρ Q0 ∧ ∀ b, Q0 b → ∀ H', Ext S.dom H H' → S.inv H' → Q b H'
inductive RpBs (S : Src) (N : Zn) (H : Hp) : List V → List D → Prop
  | nil : RpBs S N H [] []
  | cons {v vs d ds} : RpS S N H v d → RpBs S N H vs ds → RpBs S N H (v :: vs) (d :: ds)
/-- values of a display -/
def tEs (C : Calls) (es : Es) : TA := fun σ H Q => ∃ S P ρ Q0, Rel S P ρ σ H ∧ evs C es ρ Q0 ∧ ∀ ds, Q0 ds → ∀ vs H', Ext S.dom H H' → S.inv H' → RpAll (Nn P ρ σ) H' vs ds → Q vs H'
/-- arguments that are looked at -/
def tEb (C : Calls) (es : Es) : TA := fun σ H Q => ∃ S P ρ Q0, Rel S P ρ σ H ∧ evb C es ρ Q0 ∧ ∀ ds, Q0 ds → ∀ vs H', Ext S.dom H H' → S.inv H' → RpBs S (Nn P ρ σ) H' vs ds → Q vs H'
/-- arguments that are handed on -/
inductive RpAs (S : Src) (N : Zn) (H : Hp) : List V → List B → Prop
  | nil : RpAs S N H [] []
  | sh {v vs d ds} : Rp N H v d → RpAs S N H vs ds → RpAs S N H (v :: vs) (.sh d :: ds)
  | src {vs ds} : RpAs S N H vs ds → RpAs S N H (S.v :: vs) (.src :: ds)
def tEa (C : Calls) (es : Es) : TA := fun σ H Q => ∃ S P ρ Q0, Rel S P ρ σ H ∧ eva C es ρ Q0 ∧ ∀ bs, Q0 bs → ∀ vs H', Ext S.dom H H' → S.inv H' → RpAs S (Nn P ρ σ) H' vs bs → Q vs H'
def tEo (C : Calls) (e : Eo) : TO := fun σ H Q => ∃ S P ρ Q0, Rel S P ρ σ H ∧ evo C e ρ Q0 ∧ ∀ o, Q0 o → ∀ H', Ext S.dom H H' → S.inv H' → Q o H'
theorem RpBs.ext {N : Zn} (f : Fit N H) (hs : ∀ a, S.dom a → N a) (e : Ext S.dom H H') : ∀ {vs : List V} {ds : List D}, RpBs S N H vs ds → RpBs S N H' vs ds
  | _, _, .nil => .nil
  | _, _, .cons r t => .cons (r.ext f hs e) (RpBs.ext f hs e t)
theorem RpAs.ext {N : Zn} (f : Fit N H) (e : Ext N H H') : ∀ {vs : List V} {ds : List B}, RpAs S N H vs ds → RpAs S N H' vs ds
  | _, _, .nil => .nil
  | _, _, .sh r t => .sh (r.ext e f) (RpAs.ext f e t)
  | _, _, .src t => .src (RpAs.ext f e t)
theorem RpAs.length {N : Zn} : ∀ {vs : List V} {ds : List B}, RpAs S N H vs ds → vs.length = ds.length
  | _, _, .nil => rfl
  | _, _, .sh _ t => by simp [RpAs.length t]
  | _, _, .src t => by simp [RpAs.length t]
end

theorem PE.weak {X : Cx} {x : PySem.Expr} {t t' : TE} (h : PE X x t) (w : ∀ σ H Q, t' σ H Q → t σ H Q) : PE X x t' := ⟨fun pins s σ H Q I q => h.run pins s σ H Q I (w σ H Q q)⟩
theorem PT.weak {X : Cx} {x : PySem.Expr} {t t' : TT} (h : PT X x t) (w : ∀ σ H Q, t' σ H Q → t σ H Q) : PT X x t' := ⟨fun pins s σ H Q I q => h.run pins s σ H Q I (w σ H Q q)⟩
theorem PA.weak {X : Cx} {x : List PySem.Expr} {t t' : TA} (h : PA X x t) (w : ∀ σ H Q, t' σ H Q → t σ H Q) : PA X x t' := ⟨fun p pins s σ H Q I q => h.run p pins s σ H Q I (w σ H Q q)⟩

/-! ### the readings put together -/
section
variable {C : Calls} {σ : L2.St} {H : Hp} {Q : VK}
/-- two operands, looked at -/
theorem w_op2s {a b : E} {sem : D → D → Option D} {fr : Bool} (h : ∃ S P ρ Q0, Rel S P ρ σ H ∧ (bor a ρ (ev C a ρ) fun x => bor b ρ (ev C b ρ) fun y => lift (sem x y) Q0) ∧ ∀ r, Q0 r → (∃ d e, sem d e = some r) → ∀ v H', Ext S.dom H H' → S.inv H' → Rp (Nn P ρ σ) H' v r → (fr = true → isL r = true → Fresh (Nn P ρ σ) H H' v r) → Q v H') :
    tOp (fun x y H Q => ∃ N d e r, Fit N H ∧ RpB N H x d ∧ RpB N H y e ∧ sem d e = some r ∧ Out fr N H r Q) (tBo C a) (tBo C b) σ H Q := by
  obtain ⟨S, P, ρ, Q0, R, h, q⟩ := h
  refine ⟨S, P, ρ, _, R, h, fun d hd v H1 e1 i1 r1 => ?_⟩
  have R1 := R.ext e1 i1
  refine ⟨S, P, ρ, _, R1, hd, fun d2 hd2 v2 H2 e2 i2 r2 => ?_⟩
  have R2 := R1.ext e2 i2
  obtain ⟨r, er, hq⟩ := hd2
  refine ⟨_, d, d2, r, R2.fit, (r1.ext R1.fit R1.domN e2).1, r2.1, er, fun v' H' e' rp fs => ?_⟩
  refine q r hq ⟨_, _, er⟩ v' H' ((e1.trans e2).trans (e'.any _)) (S.ext i2 e') rp fun f l => ?_
  obtain ⟨p, ep, np, rb⟩ := fs f l
  refine ⟨p, ep, ?_, rb⟩
  cases hp : H p with
  | none => rfl
  | some o =>
    by_cases z : S.dom p
    · obtain ⟨o', q', _⟩ := (S.fit H2 i2).dom p z
      rw [np] at q'; cases q'
    · have := (e1.trans e2) p o hp z
      rw [np] at this; cases this
/-- two operands, looked at -/
theorem w_op2 {a b : E} {sem : D → D → Option D} {fr : Bool} (h : ∃ S P ρ Q0, Rel S P ρ σ H ∧ (bor a ρ (ev C a ρ) fun x => bor b ρ (ev C b ρ) fun y => lift (sem x y) Q0) ∧ Fin S (Nn P ρ σ) H fr Q0 Q) :
    tOp (fun x y H Q => ∃ N d e r, Fit N H ∧ RpB N H x d ∧ RpB N H y e ∧ sem d e = some r ∧ Out fr N H r Q) (tBo C a) (tBo C b) σ H Q := by
  obtain ⟨S, P, ρ, Q0, R, h, q⟩ := h
  exact w_op2s ⟨S, P, ρ, Q0, R, h, fun r hr _ => q r hr⟩
end
end PD
/-! PDx: defs called where no guard stands (so that repr may be asked within). -/
namespace PD
open PySem L2 PySem.Spec PyProof.Rows

/-- the def at f keeps sp, wherever no guard stands -/
structure FnG (P : Program) (w : World) (K : PySem.W.Frag) (mg : Str → Option Value) (base : Heap) (k : Nat) (f : Addr) (fd : FuncData) (ps : List Str) (sp : Sp) : Prop where
  len : ∀ vs H Q E, sp vs H Q E → vs.length = ps.length
  run : ∀ (A : Around) (outer : List PySem.Env) (s : Shared) (H : Hp) (args : Args) (us : List Value) (vs : List V) (Q : VK),
    Room k A → A.guards = some [] → Env0 P w K mg base A outer s H → BindsTo s fd args (ps.zip us) → Vals vs us → sp vs H Q E0 →
    codeAny (model P w) A (.call (.ref f) args) (CR CX0 outer P w H s Q E0) s
section
variable {P : Program} {w : World} {K : PySem.W.Frag} {mg : Str → Option Value} {base : Heap} {k : Nat} {f : Addr} {fd : FuncData} {ps : List Str} {sp sp' : Sp}
theorem FnG.of (F : FnOk P w K mg base CX0 k f fd ps sp) : FnG P w K mg base k f fd ps sp :=
  ⟨F.len, fun A outer s H args us vs Q hr _ e hb hv hs => F.run A outer s H args us vs Q E0 hr e hb hv hs⟩
theorem FnG.imp (F : FnG P w K mg base k f fd ps sp) (h : ∀ vs H Q, sp' vs H Q E0 → sp vs H Q E0) (hl : ∀ vs H Q E, sp' vs H Q E → vs.length = ps.length) : FnG P w K mg base k f fd ps sp' :=
  ⟨hl, fun A outer s H args us vs Q hr hg e hb hv hs => F.run A outer s H args us vs Q hr hg e hb hv (h _ _ _ hs)⟩
theorem FnG.mono {j : Nat} (F : FnG P w K mg base j f fd ps sp) (h : j ≤ k) : FnG P w K mg base k f fd ps sp :=
  ⟨F.len, fun A outer s H args us vs Q hr => F.run A outer s H args us vs Q (hr.mono h)⟩
/-- a def of the text by its body -/
theorem Fun.okG {x qual : Str} {st : Stmt} {N : List Str} (F : Fun K x qual st f fd) (S : FnScope N ps (defScope st)) (len : ∀ vs H Q E, sp vs H Q E → vs.length = ps.length)
    (body : ∀ (cdv : Value) (A : Around) (outer : List PySem.Env) (s : Shared) (H : Hp) (vs : List V) (Q : VK), Room k (A.deeper (envOfC qual (defScope st) s.heap.objs.size f cdv)) → A.guards = some [] → sp vs H Q E0 →
      ∃ t, PSs (cxOf CX0 P w K mg base N qual (defScope st) f cdv A outer s H E0).nox (defBody st) t ∧ t { nx := fun _ H' => Q .non H', rt := Q } (start N vs) H) : FnG P w K mg base (k + 1) f fd ps sp := by
  obtain ⟨oc, od, kV, doc, pm, an, cdv, ct, osl, e, lk, hcd⟩ := F.ex
  subst e
  refine ⟨len, fun A outer s H args us vs Q hr hg e0 hb rv hsp => ?_⟩
  have n1 := len _ _ _ _ hsp
  have hin : ∀ b o, base.get? b = some o → s.heap.get? b = some o := fun b o q => (e0.bs b o q).1
  have kin : K.In s.heap := e0.mod.kin.keeps hin
  have nolim : s.heap.NoLimit := e0.mod.nolimit.keeps hin
  have kinds : ∀ y ∈ ps.zip us, (defScope st).names.lookup y.1 = some .local ∨ ((defScope st).names.lookup y.1 = some .cell ∧ ((cellsFrom (s.heap.objs.size + 1) (defScope st).names []).lookup y.1).isSome = true) := by
    rintro ⟨n, v⟩ hy
    have hn := (List.of_mem_zip hy).1
    rcases S.par n hn with q | q
    · exact Or.inl q
    · exact Or.inr ⟨q, PySem.W.cellsFrom_some _ _ _ (Or.inl q)⟩
  refine codeAny_call_function hr.depth (kin _ _ lk) rfl S.co S.gen rfl (PySem.W.codeRec_of kin hcd) (hb _ _ _ _ ?_)
  refine wpAny_newFunctionEnv_cells S.kind kinds fun env he s1 inst => ?_
  subst he
  refine ⟨nolim.keeps inst.toInCall.keep, codeAny_func ?_⟩
  obtain ⟨t, ht, ends⟩ := body cdv A outer s H vs Q (hr.deeper _) hg hsp
  have start_ok : Inv (cxOf CX0 P w K mg base N qual (defScope st) f cdv A outer s H E0) [] (start N vs) H s1 := inv_start S hr.hd e0 n1 rv inst
  refine wpAny_mono (ht.nox.run [] s1 (start N vs) H _ start_ok ends) (fun fl s2 out => ?_) fun e s2 out => out
  cases fl with
  | ret u =>
    obtain ⟨v, σ2, H2, J, rv2, q⟩ := out
    exact ⟨v, H2, J.os, J.bare, J.base, J.hok, rv2, q⟩
  | next =>
    obtain ⟨σ2, H2, J, q⟩ := out
    exact ⟨V.non, H2, J.os, J.bare, J.base, J.hok, rfl, q⟩
  | brk => obtain ⟨_, _, _, q⟩ := out; cases q
  | cont => obtain ⟨_, _, _, q⟩ := out; cases q
end
section
variable {X : Cx} {k : Nat} {f : Addr} {fd : FuncData} {ps : List Str} {sp : Sp} {x : Str} {p pos : Pos} {e : PySem.Expr} {es : List PySem.Expr} {t : TA}
theorem run_g {pins : List (Addr × Obj)} {σ : L2.St} {H : Hp} {s : Shared} {Q : VK} {us : List Value} {vs : List V} (F : FnG X.prog X.w X.K X.mg X.base k f fd ps sp) (hr : Room k X.A) (hg : X.A.guards = some []) (hb : Binds X.K fd ps [])
    (I : Inv X pins σ H s) (r : Vals vs us) (h : sp vs H Q E0) : wpAny (model X.prog X.w) X.A (call (.ref f) us) (EP X pins σ Q) X.xe s := by
  have hl : (us ++ []).length = ps.length := by
    rw [List.append_nil, ← r.length]
    exact F.len _ _ _ _ h
  have hbind := hb s us I.kIn hl
  rw [List.append_nil] at hbind
  refine wpAny_call (codeAny_mono (F.run X.A X.stack s H ⟨us, []⟩ us vs Q hr hg I.env0 hbind r h) fun res s2 out => ?_)
  cases res with
  | error e => exact False.elim out
  | ok fl => cases fl with
    | ret u => exact I.after out
    | next => exact False.elim out
    | brk => exact False.elim out
    | cont => exact False.elim out
theorem pe_callG (F : FnG X.prog X.w X.K X.mg X.base k f fd ps sp) (hr : Room k X.A) (hgd : X.A.guards = some []) (hg : Gl X x) (hm : X.mg x = some (.ref f)) (hk : PySem.W.keepIn X.K (.ref f) = true) (hb : Binds X.K fd ps [])
    (ha : PA X (e :: es) t) (hdb : (x == ("__debug__" : Str)) = false) (he : starEach (e :: es) X.env = (false, eval e X.env) :: starEach es X.env) (hpl : (backTo pos (starEach es X.env)).any (·.1) = false) :
    PE X (.Call (.Name x p) (e :: es) [] pos) (fun σ H Q => t σ H fun vs H1 => sp vs H1 Q E0) := by
  constructor
  intro pins s σ H Q I h
  refine wpAny_Call_Name_kw (ld_glob I hg hm ?_ hdb)
  refine PySem.W.callWith_K (h₀ := X.base) I.ok.mod.kin hk (thn (ha.run pos pins s σ H _ I h) ?_) he hpl
  rintro us s1 ⟨vs, H1, I1, r, q⟩
  exact ⟨I1.kIn, run_g F hr hgd hb I1 r q⟩
end
end PD
/-! PDf: is a compact body the body as written? -/
namespace PD
open PySem L2

def visB (sc : Scope) (x : Str) : Bool := match sc.names.lookup x with
  | some .local => true | some .cell => true | some .free => true | _ => false
def locB (sc : Scope) (x : Str) : Bool := match sc.names.lookup x with
  | some .local => true | some .cell => true | _ => false
def glB (sc : Scope) (x : Str) : Bool := match sc.names.lookup x with
  | some .globalImplicit => true | _ => false
def okName (x : Str) : Bool := !(x == ("__debug__" : Str)) && !(x == ("__classdict__" : Str)) && !(x == ("__name__" : Str))
def varOk (N : List Str) (sc : Scope) (i : Nat) (x : Str) : Bool := decide (N[i]? = some x) && visB sc x && okName x
def unB : PySem.Expr → PySem.Expr
  | .BoolOp _ [y] _ => y
  | x => x
def notStar : PySem.Expr → Bool
  | .Starred .. => false | _ => true
def notSlice : PySem.Expr → Bool
  | .Slice .. => false | _ => true
def notSet : PySem.Expr → Bool
  | .Set .. => false | _ => true
def cstOk : D → Const → Bool
  | .none, .none => true
  | .bool a, .bool b => a == b
  | .int a, .int b => decide (a = b)
  | .str a, .str b => decide (a = b)
  | _, _ => false
/-- a built-in by its name: its value -/
def primName : Prim → Option (Str × Bool × String)
  | .len => some ("len", false, "len") | .tuple => some ("tuple", true, "tuple") | .list => some ("list", true, "list") | .sorted => some ("sorted", false, "sorted")
  | .sum => some ("sum", false, "sum") | .max => some ("max", false, "max") | .min => some ("min", false, "min") | .abs => some ("abs", false, "abs")
  | .all => some ("all", false, "all") | .any => some ("any", false, "any") | .int => some ("int", true, "int") | .repr => some ("repr", false, "repr")
  | .dictOf => some ("dict", true, "dict")
  | _ => none
def methS : Prim → Option Str
  | .index => some "index"
  | _ => none
/-- what a method is asked of -/
def plainO : PySem.Expr → Bool
  | .Name .. => true | .Subscript .. => true
  | _ => false
def tyS : Ty → Str
  | .int => "int" | .bool => "bool" | .str => "str" | .list => "list" | .tuple => "tuple" | .dict => "dict"
/-- the plain names of a test, by truth -/
def isTup : PySem.Expr → Bool
  | .Tuple .. => true
  | _ => false
def plainTest : PySem.Expr → Bool
  | .Name .. => true | .Call .. => true | .Subscript .. => true | .BinOp .. => true | .List .. => true | .Tuple .. => true | .ListComp .. => true | .Constant .. => true | _ => false
def isCmp : E → Bool
  | .cmp .. => true | .chain .. => true | _ => false

mutual
/-- the target of a for: names -/
def chkG (N : List Str) (sc : Scope) (own : Str → Bool) : G → PySem.Expr → Bool
  | .v i, .Name x _ => decide (N[i]? = some x) && locB sc x && own x
  | .tup gs, .Tuple es _ _ => chkGs N sc own gs es
  | _, _ => false
def chkGs (N : List Str) (sc : Scope) (own : Str → Bool) : List G → List PySem.Expr → Bool
  | [], [] => true
  | g :: gs, e :: es => chkG N sc own g e && chkGs N sc own gs es
  | _, _ => false
end
mutual
def gSlots : G → List Nat
  | .v i => [i]
  | .tup gs => gsSlots gs
def gsSlots : List G → List Nat
  | [] => []
  | g :: gs => gSlots g ++ gsSlots gs
end
mutual
def gNames : PySem.Expr → List Str
  | .Name x _ => [x]
  | .Tuple es _ _ => gsNames es
  | _ => []
def gsNames : List PySem.Expr → List Str
  | [] => []
  | e :: es => gNames e ++ gsNames es
end
def fnB (scope : Scope) (x : Str) : Bool := (scope.names.lookup x == some .cell) || (scope.names.lookup x == some .local)

section
variable (N : List Str) (tb : List (Str × Nat))
mutual
def chkE : E → Scope → PySem.Expr → Bool
  | .var i, sc, z => (match z with
    | .Name x _ => varOk N sc i x
    | _ => false)
  | .cst d, _, z => (match z with
    | .Constant c _ _ => cstOk d c
    | _ => false)
  | .bin op a b, sc, z => (match z with
    | .BinOp l o r _ => decide (bopF op = o) && chkE a sc l && chkE b sc r
    | _ => false)
  | .neg a, sc, z => (match z with
    | .UnaryOp .USub x _ => chkE a sc x
    | _ => false)
  | .not a, sc, z => (match z with
    | .UnaryOp .Not x _ => chkE a sc x
    | _ => false)
  | .and a b, sc, z => (match z with
    | .BoolOp .And (x :: y :: r) p => chkE a sc x && chkE b sc (unB (.BoolOp .And (y :: r) p))
    | _ => false)
  | .or a b, sc, z => (match z with
    | .BoolOp .Or (x :: y :: r) p => chkE a sc x && chkE b sc (unB (.BoolOp .Or (y :: r) p))
    | _ => false)
  | .cmp op a b, sc, z => (match z with
    | .Compare l [o] [r] _ => decide (copF op = o) && chkE a sc l && chkE b sc r && notSet r
    | _ => false)
  | .chain o1 o2 a b c, sc, z => (match z with
    | .Compare l [p, q] [x, y] _ => decide (copF o1 = p) && decide (copF o2 = q) && chkE a sc l && chkE b sc x && chkE c sc y && notSet y
    | _ => false)
  | .ife c a b, sc, z => (match z with
    | .IfExp t x y _ => chkT c sc t && chkE a sc x && chkE b sc y
    | _ => false)
  | .tup es, sc, z => (match z with
    | .Tuple xs _ _ => chkEs es sc xs
    | _ => false)
  | .lst es, sc, z => (match z with
    | .List xs _ => chkEs es sc xs
    | _ => false)
  | .dnew, _, z => (match z with
    | .Dict [] [] _ => true
    | _ => false)
  | .idx a i, sc, z => (match z with
    | .Subscript x y _ => notSlice y && chkE a sc x && chkE i sc y
    | _ => false)
  | .slc a lo hi, sc, z => (match z with
    | .Subscript x (.Slice l h none _) _ => chkE a sc x && chkEo lo sc l && chkEo hi sc h
    | _ => false)
  | .rev a, sc, z => (match z with
    | .Subscript x (.Slice none none (some (.UnaryOp .USub (.Constant (.int 1) _ _) _)) _) _ => chkE a sc x
    | _ => false)
  | .call f as, sc, z => (match z with
    | .Call (.Name x _) xs [] _ => (match tb[f]? with | some (nm, np) => decide (nm = x) && glB sc x && okName x && !(xs.isEmpty) && chkEs as sc xs && xs.all notStar && decide (xs.length = np) | none => false)
    | _ => false)
  | .prim p as, sc, z => (match z with
    | .Call (.Name x _) xs [] _ => (match primName p with | some (nm, _, _) => decide (nm = x) && glB sc x && !(xs.isEmpty) && chkEs as sc xs && xs.all notStar | none => false)
    | _ => false)
  | .lc vs g it c elt, sc, z => (match z with
    | .ListComp x [⟨tg, iter, ifs, 0⟩] scope _ =>      blkC N sc scope ((gNames tg).zip vs) && decide (vs = gSlots g) && decide ((gNames tg).length = vs.length) && chkG N (relS scope sc) (fnB scope) g tg && chkIt (isTup tg) it sc iter && chkTo c (relS scope sc) ifs && chkE elt (relS scope sc) x
    | _ => false)
  | .isi a ts, sc, z => (match z with
    | .Call (.Name f _) [x, .Name tn _] [] _ => (match ts with
      | [t] => decide (f = ("isinstance" : Str)) && glB sc f && decide (tn = tyS t) && glB sc tn && notStar x && chkE a sc x
      | _ => false)
    | _ => false)
  | .rg t lo hi, sc, z => (match z with
    | .Call (.Name x _) [.Call (.Name y _) xs [] _] [] _ => decide (x = (if t then ("tuple" : Str) else ("list" : Str))) && glB sc x && decide (y = ("range" : Str)) && glB sc y && (match lo, xs with
      | .no, [h] => chkE hi sc h && notStar h
      | .yes l, [a, h] => chkE l sc a && chkE hi sc h && notStar a && notStar h
      | _, _ => false)
    | _ => false)
  | .sset a, sc, z => (match z with
    | .Call (.Name f _) [.Call (.Name g _) [x] [] _] [] _ => decide (f = ("sorted" : Str)) && glB sc f && decide (g = ("set" : Str)) && glB sc g && notStar x && chkE a sc x
    | _ => false)
  | .lck vs g i c elt, sc, z => (match z with
    | .ListComp x [⟨tg, .Name nm _, ifs, 0⟩] scope _ => blkC N sc scope ((gNames tg).zip vs) && decide (vs = gSlots g) && decide ((gNames tg).length = vs.length) && chkG N (relS scope sc) (fnB scope) g tg && varOk N sc i nm && chkTo c (relS scope sc) ifs && chkE elt (relS scope sc) x
    | _ => false)
  | .dead, _, x => (match x with
    | .ListComp .. => false
    | .SetComp .. => false
    | .DictComp .. => false
    | _ => true)
  | .meth p a as, sc, z => (match z with
    | .Call (.Attribute o m ap) [x] [] cp => decide (methS p = some m) && (ap.endLine == cp.line) && notStar x && plainO o && chkE a sc o && chkEs as sc [x]
    | _ => false)
  | .disp _ ps, sc, z => (match z with
    | .Dict ks vs _ => ks.all (·.isSome) && decide (ks.length = vs.length) && !(ks.isEmpty) && decide (ks.length ≤ 15) && chkPs ps sc ks vs
    | _ => false)
  | _, _, _ => false
def chkPs : Ps → Scope → List (Option PySem.Expr) → List PySem.Expr → Bool
  | .nil, _, ks, vs => ks.isEmpty && vs.isEmpty
  | .cons k v r, sc, ks, vs => (match ks, vs with
    | some x :: ks, y :: vs => chkE k sc x && chkE v sc y && chkPs r sc ks vs
    | _, _ => false)
def chkT : T → Scope → PySem.Expr → Bool
  | .and a b, sc, z => (match z with
    | .BoolOp .And (x :: y :: r) p => chkT a sc x && chkT b sc (unB (.BoolOp .And (y :: r) p))
    | _ => false)
  | .or a b, sc, z => (match z with
    | .BoolOp .Or (x :: y :: r) p => chkT a sc x && chkT b sc (unB (.BoolOp .Or (y :: r) p))
    | _ => false)
  | .not a, sc, z => (match z with
    | .UnaryOp .Not x _ => chkT a sc x
    | _ => false)
  | .e a, sc, x => chkE a sc x && (plainTest x || isCmp a)
def chkTo : To → Scope → List PySem.Expr → Bool
  | .no, _, z => (match z with
    | [] => true
    | _ => false)
  | .yes c, sc, z => (match z with
    | [x] => chkT c sc x
    | _ => false)
def chkEs : Es → Scope → List PySem.Expr → Bool
  | .nil, _, z => (match z with
    | [] => true
    | _ => false)
  | .cons e r, sc, z => (match z with
    | x :: xs => notStar x && chkE e sc x && chkEs r sc xs
    | _ => false)
  | .star e r, sc, z => (match z with
    | .Starred x _ :: xs => chkE e sc x && chkEs r sc xs
    | _ => false)
def chkEo : Eo → Scope → Option PySem.Expr → Bool
  | .no, _, z => (match z with
    | none => true
    | _ => false)
  | .yes e, sc, z => (match z with
    | some x => chkE e sc x
    | _ => false)
def chkIt (tp : Bool) : It → Scope → PySem.Expr → Bool
  | .val e, sc, x => chkE e sc x && notSet x
  | .rng lo hi, sc, z => (match z with
    | .Call (.Name y _) xs [] _ => decide (y = ("range" : Str)) && glB sc y && (match lo, xs with
      | .no, [h] => chkE hi sc h && notStar h
      | .yes l, [a, h] => chkE l sc a && chkE hi sc h && notStar a && notStar h
      | _, _ => false)
    | _ => false)
  | .zip e f, sc, z => (match z with
    | .Call (.Name y _) [u, v] [] _ => tp && decide (y = ("zip" : Str)) && glB sc y && chkE e sc u && chkE f sc v && notStar u && notStar v
    | _ => false)
  | .enum e, sc, z => (match z with
    | .Call (.Name y _) [u] [] _ => tp && decide (y = ("enumerate" : Str)) && glB sc y && chkE e sc u && notStar u
    | _ => false)
  | .rng3 lo hi st, sc, z => (match z with
    | .Call (.Name y _) [a, c, d] [] _ => decide (y = ("range" : Str)) && glB sc y && chkE lo sc a && chkE hi sc c && chkE st sc d && notStar a && notStar c && notStar d
    | _ => false)
  | _, _, _ => false
end
end

/-- what a context must have for a text over the defs tb, called as C says -/
def spC (C : Calls) (f : Nat) : Sp := fun vs H Q E => ∃ (S : Src) (P : Zn) (bs : List B) (Q0 : D → Prop), (∀ a, S.dom a → P a) ∧ Fit P H ∧ S.inv H ∧ RpAs S P H vs bs ∧ C f bs Q0 ∧
  ∀ d, Q0 d → ∀ v H', Ext S.dom H H' → S.inv H' → Rp P H' v d → Q v H'
structure Good (tb : List (Str × Nat)) (C : Calls) (X : Cx) : Prop where
  nd : X.N.Nodup
  calm : X.calm = true
  units : X.A.units + 64 < cLine
  grd : X.A.guards = some []
  smod : ∃ o, X.base.get? sysModules = some o
  blt : ∀ x ∈ (["len", "tuple", "list", "sorted", "sum", "max", "min", "abs", "all", "any", "int", "repr", "range", "isinstance", "dict", "zip", "enumerate", "reversed", "str", "set", "bool"] : List Str), X.mg x = none
  ar : ∀ (f : Nat) (nm : Str) (np : Nat), tb[f]? = some (nm, np) → ∀ bs Q, C f bs Q → bs.length = np
  fns : ∀ (f : Nat) (nm : Str) (np : Nat), tb[f]? = some (nm, np) → ∃ k a fd ps, Room k X.A ∧ X.mg nm = some (.ref a) ∧ PySem.W.keepIn X.K (.ref a) = true ∧ Binds X.K fd ps [] ∧ FnG X.prog X.w X.K X.mg X.base k a fd ps (spC C f)
theorem Good.blk {tb : List (Str × Nat)} {C : Calls} {X : Cx} (G : Good tb C X) (s : Shared) (H : Hp) (scope : Scope) (cenv : PySem.Env) (fp : List Addr) : Good tb C (X.blk s H scope cenv fp) :=
  ⟨G.nd, G.calm, G.units, G.grd, G.smod, G.blt, G.ar, G.fns⟩
end PD
/-! PDg: expressions are as their compact forms say: single rules. -/
namespace PD
open PySem L2

section
variable {C : Calls} {X : Cx} {tb : List (Str × Nat)}
theorem fresh_trans {S : Src} {H H1 : Hp} (i : S.inv H1) (e : Ext S.dom H H1) {p : Addr} (np : H1 p = none) : H p = none := by
  cases hp : H p with
  | none => rfl
  | some o =>
    by_cases z : S.dom p
    · obtain ⟨o', q', _⟩ := (S.fit H1 i).dom p z
      rw [np] at q'; cases q'
    · have := e p o hp z
      rw [np] at this; cases this
theorem Fresh.back {S : Src} {N : Zn} {H H1 H' : Hp} {v : V} {d : D} (f : Fresh N H1 H' v d) (i : S.inv H1) (e : Ext S.dom H H1) : Fresh N H H' v d :=
  let ⟨p, ep, np, rb⟩ := f; ⟨p, ep, fresh_trans i e np, rb⟩
theorem var_of {N : List Str} {i : Nat} {x : Str} {pos : Pos} (hN : X.N = N) (h : varOk N X.env.scope i x = true) : PE X (.Name x pos) (tVar i) := by
  subst hN
  unfold varOk okName at h
  simp only [Bool.and_eq_true, decide_eq_true_eq, Bool.not_eq_true'] at h
  refine pe_var h.1.1 ?_ h.2.1.1 h.2.1.2
  have h2 := h.1.2
  unfold visB at h2
  unfold Vis
  split at h2 <;> first | exact .inl (by assumption) | exact .inr (.inl (by assumption)) | exact .inr (.inr (by assumption)) | cases h2
theorem ev_var {i : Nat} {x : PySem.Expr} (h : PE X x (tVar i)) : PE X x (tE C (.var i)) := PE.weak h fun σ H Q ⟨S, P, ρ, Q0, R, ⟨d, e, q0⟩, q⟩ => by
  unfold look at e
  split at e <;> cases e
  rename_i hd
  obtain ⟨v, hv, r⟩ := R.sh i _ hd
  exact ⟨v, hv, q _ q0 v H Ext.refl R.inv r (fun z => nomatch z)⟩
theorem bo_var {i : Nat} {x : PySem.Expr} (h : PE X x (tVar i)) : PE X x (tBo C (.var i)) := PE.weak h fun σ H Q ⟨S, P, ρ, Q0, R, ⟨d, e, q0⟩, q⟩ => by
  unfold lookB at e
  split at e <;> cases e
  · rename_i hd
    obtain ⟨v, hv, r⟩ := R.sh i _ hd
    exact ⟨v, hv, q _ q0 v H Ext.refl R.inv (r.toS R.fit R.domN)⟩
  · rename_i hd
    obtain ⟨a, hv, _, r, n⟩ := R.own i _ hd
    exact ⟨_, hv, q _ q0 _ H Ext.refl R.inv ⟨r, fun b e z => by cases e; exact n (R.sub _ z)⟩⟩
theorem bo_of {e : E} {x : PySem.Expr} (hv : ∀ i, e = .var i → PE X x (tVar i)) (h : PE X x (tE C e)) : PE X x (tBo C e) := by
  by_cases z : ∃ i, e = .var i
  · obtain ⟨i, rfl⟩ := z
    exact bo_var (hv i rfl)
  · refine PE.weak h fun σ H Q ⟨S, P, ρ, Q0, R, h, q⟩ => ⟨S, P, ρ, Q0, R, ?_, fun d hd v H' e i r _ => q d hd v H' e i (r.toS (R.ext e i).fit R.domN)⟩
    cases e <;> first | exact h | exact absurd ⟨_, rfl⟩ z
theorem ev_cst {d : D} {c : Const} {k : Nat} {p : Pos} (h : cstOk d c = true) : PE X (.Constant c k p) (tE C (.cst d)) := by
  cases d <;> cases c <;> simp only [cstOk, decide_eq_true_eq, beq_iff_eq] at h <;> first | cases h | skip
  · exact PE.weak pe_non fun σ H Q ⟨S, P, ρ, Q0, R, h, q⟩ => q _ h _ H Ext.refl R.inv .non (fun z => nomatch z)
  · exact PE.weak pe_bl fun σ H Q ⟨S, P, ρ, Q0, R, h, q⟩ => q _ h _ H Ext.refl R.inv (.bl _) (fun z => nomatch z)
  · exact PE.weak pe_int fun σ H Q ⟨S, P, ρ, Q0, R, h, q⟩ => q _ h _ H Ext.refl R.inv (.int _) (fun z => nomatch z)
  · exact PE.weak pe_str fun σ H Q ⟨S, P, ρ, Q0, R, h, q⟩ => q _ h _ H Ext.refl R.inv (.str _) (fun z => nomatch z)
theorem ev_bin {op : BOp} {a b : E} {x y : PySem.Expr} {p : Pos} (ha : PE X x (tBo C a)) (hb : PE X y (tBo C b)) : PE X (.BinOp x (bopF op) y p) (tE C (.bin op a b)) :=
  PE.weak (pe_op (op2_bin op) ha hb) fun σ H Q h => w_op2 h
theorem ev_cmp (hu : X.A.units + 64 < cLine) {op : COp} {a b : E} {x y : PySem.Expr} {p : Pos} (ha : PE X x (tBo C a)) (hb : PE X y (tBo C b)) (hs : notSet y = true) : PE X (.Compare x [copF op] [y] p) (tE C (.cmp op a b)) :=
  PE.weak (pe_cmpR (op2_cop hu op) ha hb (by cases y <;> first | rfl | cases hs)) fun σ H Q h => w_op2 h
theorem truV_of {N : Zn} {H : Hp} {K : PySem.W.Frag} {v : V} {d : D} {k : Bool} (r : RpB N H v d) (h : truD d = some k) : TruV K v H k := by
  cases d with
  | none => cases r.non_of; cases h; rfl
  | bool b => cases r.bl_of; cases h; rfl
  | int i => cases r.int_of; cases h; rfl
  | str x =>
    cases r.str_of
    simp only [truD] at h
    split at h <;> cases h
    exact ⟨by assumption, rfl⟩
  | list xs =>
    obtain ⟨a, ys, rfl, ha, rr⟩ := r.list_of
    cases h
    exact .inl ⟨ys, SqL.of ha, by cases rr <;> rfl⟩
  | tuple xs =>
    obtain ⟨a, ys, rfl, ha, rr⟩ := r.tup_of
    cases h
    exact .inr (.inl ⟨ys, SqT.of ha, by cases rr <;> rfl⟩)
  | dict kvs =>
    simp only [truD] at h
    split at h <;> cases h
    rename_i hk
    obtain ⟨a, rfl, ⟨ks, es, ha, rr, rfl⟩ | ⟨ks, es, hne, ha, rr, rfl⟩⟩ := r.dict_of
    · refine .inr (.inr ⟨ks, ha, ?_⟩)
      have := rr.length
      cases ks <;> cases es <;> simp at this ⊢
    · have hl : ks.length = es.length := by simpa using rr.length
      exact absurd (kindOk_T (k := .inl 0) hl hk) hne
end
end PD
/-! PDh: more single rules. -/
namespace PD
open PySem L2

section
variable {C : Calls} {X : Cx} {tb : List (Str × Nat)}
theorem ev_neg {a : E} {x : PySem.Expr} {p : Pos} (ha : PE X x (tBo C a)) : PE X (.UnaryOp .USub x p) (tE C (.neg a)) :=
  PE.weak (pe_un un_neg ha) fun σ H Q ⟨S, P, ρ, Q0, R, h, q⟩ => ⟨S, P, ρ, _, R, h, fun d hd v H1 e i r => by
    obtain ⟨z, ez, q0⟩ := hd
    unfold negD at ez
    split at ez <;> cases ez
    exact ⟨_, r.1.int_of, q _ q0 _ H1 e i (.int _) (fun z => nomatch z)⟩⟩
theorem ev_not {a : E} {x : PySem.Expr} {p : Pos} (ha : PE X x (tBo C a)) : PE X (.UnaryOp .Not x p) (tE C (.not a)) :=
  PE.weak (pe_notT ha) fun σ H Q ⟨S, P, ρ, Q0, R, h, q⟩ => ⟨S, P, ρ, _, R, h, fun d hd v H1 e i r => by
    obtain ⟨z, ez, q0⟩ := hd
    exact ⟨z, truV_of r.1 ez, q _ q0 _ H1 e i (.bl _) (fun z => nomatch z)⟩⟩
theorem ev_and {a b : E} {x y : PySem.Expr} {r : List PySem.Expr} {p : Pos} (ha : PE X x (tE C a)) (hb : PE X (.BoolOp .And (y :: r) p) (tE C b)) : PE X (.BoolOp .And (x :: y :: r) p) (tE C (.and a b)) :=
  PE.weak (pe_andT ha hb) fun σ H Q ⟨S, P, ρ, Q0, R, h, q⟩ => ⟨S, P, ρ, _, R, h, fun d hd v H1 e i rp _ => by
    obtain ⟨z, ez, q0⟩ := hd
    refine ⟨z, truV_of (.of rp) ez, ?_⟩
    cases z with
    | true =>
      simp only [if_true] at q0 ⊢
      exact ⟨S, P, ρ, _, R.ext e i, q0, fun d hd v H2 e2 i2 r2 _ => q d hd v H2 (e.trans e2) i2 r2 (fun z => nomatch z)⟩
    | false =>
      simp only [Bool.false_eq_true, if_false] at q0 ⊢
      exact q _ q0 v H1 e i rp (fun z => nomatch z)⟩
theorem ev_or {a b : E} {x y : PySem.Expr} {r : List PySem.Expr} {p : Pos} (ha : PE X x (tE C a)) (hb : PE X (.BoolOp .Or (y :: r) p) (tE C b)) : PE X (.BoolOp .Or (x :: y :: r) p) (tE C (.or a b)) :=
  PE.weak (pe_orT ha hb) fun σ H Q ⟨S, P, ρ, Q0, R, h, q⟩ => ⟨S, P, ρ, _, R, h, fun d hd v H1 e i rp _ => by
    obtain ⟨z, ez, q0⟩ := hd
    refine ⟨z, truV_of (.of rp) ez, ?_⟩
    cases z with
    | false =>
      simp only [Bool.false_eq_true, if_false] at q0 ⊢
      exact ⟨S, P, ρ, _, R.ext e i, q0, fun d hd v H2 e2 i2 r2 _ => q d hd v H2 (e.trans e2) i2 r2 (fun z => nomatch z)⟩
    | true =>
      simp only [if_true] at q0 ⊢
      exact q _ q0 v H1 e i rp (fun z => nomatch z)⟩
theorem ev_ife {c : T} {a b : E} {t x y : PySem.Expr} {p : Pos} (hc : PT X t (tT C c)) (ha : PE X x (tE C a)) (hb : PE X y (tE C b)) : PE X (.IfExp t x y p) (tE C (.ife c a b)) :=
  PE.weak (pe_ifExp hc ha hb) fun σ H Q ⟨S, P, ρ, Q0, R, h, q⟩ => ⟨S, P, ρ, _, R, h, fun z q0 H1 e i => by
    cases z with
    | true =>
      simp only [if_true] at q0 ⊢
      exact ⟨S, P, ρ, _, R.ext e i, q0, fun d hd v H2 e2 i2 r2 _ => q d hd v H2 (e.trans e2) i2 r2 (fun z => nomatch z)⟩
    | false =>
      simp only [Bool.false_eq_true, if_false] at q0 ⊢
      exact ⟨S, P, ρ, _, R.ext e i, q0, fun d hd v H2 e2 i2 r2 _ => q d hd v H2 (e.trans e2) i2 r2 (fun z => nomatch z)⟩⟩
theorem copD_bool {op : COp} {d e r : D} (h : copD op d e = some r) : ∃ k, r = .bool k := by
  cases op
  case is =>
    have h : isD false d e = some r := h
    unfold isD at h
    split at h
    · cases h; exact ⟨_, rfl⟩
    · obtain ⟨p, _, rfl⟩ := Option.map_eq_some_iff.mp h; exact ⟨_, rfl⟩
  case isn =>
    have h : isD true d e = some r := h
    unfold isD at h
    split at h
    · cases h; exact ⟨_, rfl⟩
    · obtain ⟨p, _, rfl⟩ := Option.map_eq_some_iff.mp h; exact ⟨_, rfl⟩
  all_goals simp only [copD, inD] at h <;> (repeat' split at h) <;> cases h <;> exact ⟨_, rfl⟩
theorem ev_chain (hu : X.A.units + 64 < cLine) {o1 o2 : COp} {a b c : E} {x y z : PySem.Expr} {p : Pos} (ha : PE X x (tBo C a)) (hb : PE X y (tBo C b)) (hc : PE X z (tBo C c)) (hs : notSet z = true) :
    PE X (.Compare x [copF o1, copF o2] [y, z] p) (tE C (.chain o1 o2 a b c)) := by
  refine PE.weak (pe_chain (op2_cop hu o1) (op2_cop hu o2) ha hb hc (by
    show behindInMarks (copF o2) z = false
    cases z <;> first | rfl | cases hs)) fun σ H Q ⟨S, P, ρ, Q0, R, h, q⟩ => ?_
  refine ⟨S, P, ρ, _, R, h, fun d hd v H1 e1 i1 r1 => ?_⟩
  have R1 := R.ext e1 i1
  refine ⟨S, P, ρ, _, R1, hd, fun d2 hd2 v2 H2 e2 i2 r2 => ?_⟩
  have R2 := R1.ext e2 i2
  obtain ⟨w, ew, k, ek, hk⟩ := hd2
  refine ⟨_, d, d2, w, R2.fit, (r1.ext R1.fit R1.domN e2).1, r2.1, ew, fun v' H' e' rp _ => ?_⟩
  obtain ⟨k', rfl⟩ := copD_bool ew
  cases ek
  cases (RpB.of rp).bl_of
  refine ⟨_, rfl, ?_⟩
  have R3 := R2.ext0 e'
  cases k with
  | false =>
    simp only [Bool.false_eq_true, if_false] at hk ⊢
    exact q _ hk _ H' ((e1.trans e2).trans (e'.any _)) R3.inv (.bl _) (fun z => nomatch z)
  | true =>
    simp only [if_true] at hk ⊢
    refine ⟨S, P, ρ, _, R3, hk, fun d3 hd3 v3 H3 e3 i3 r3 => ?_⟩
    have R4 := R3.ext e3 i3
    obtain ⟨u, eu, q0⟩ := hd3
    refine ⟨_, d2, d3, u, R4.fit, ((r2.ext R2.fit R2.domN (e'.any _)).ext R3.fit R3.domN e3).1, r3.1, eu, fun v4 H4 e4 rp4 _ => ?_⟩
    exact q u q0 v4 H4 ((((e1.trans e2).trans (e'.any _)).trans e3).trans (e4.any _)) (S.ext i3 e4) rp4 (fun z => nomatch z)
theorem ev_tup {es : Es} {xs : List PySem.Expr} {k : Nat} {p : Pos} (h : PA X xs (tEs C es)) : PE X (.Tuple xs k p) (tE C (.tup es)) :=
  PE.weak (pe_tup h) fun σ H Q ⟨S, P, ρ, Q0, R, h, q⟩ => ⟨S, P, ρ, _, R, h, fun ds ⟨hl, q0⟩ vs H1 e i r => ⟨by rw [r.length]; exact hl, fun p hp => by
    have R1 := R.ext e i
    exact q _ q0 _ _ (e.trans (Ext.new hp)) (S.ext i (Ext.new hp)) (.tup upd_same (r.ext (Ext.new hp) R1.fit)) (fun z => nomatch z)⟩⟩
theorem ev_lst {es : Es} {xs : List PySem.Expr} {p : Pos} (h : PA X xs (tEs C es)) : PE X (.List xs p) (tE C (.lst es)) :=
  PE.weak (pe_lst h) fun σ H Q ⟨S, P, ρ, Q0, R, h, q⟩ => ⟨S, P, ρ, _, R, h, fun ds ⟨hl, q0⟩ vs H1 e i r => ⟨by rw [r.length]; exact hl, fun p hp => by
    have R1 := R.ext e i
    exact q _ q0 _ _ (e.trans (Ext.new hp)) (S.ext i (Ext.new hp)) (.lst (R1.fit.ne hp) upd_same (r.ext (Ext.new hp) R1.fit)) (fun _ _ => (freshL R1.fit r hp).back i e)⟩⟩
theorem ev_dnew {p : Pos} : PE X (.Dict [] [] p) (tE C .dnew) :=
  PE.weak pe_dnewK fun σ H Q ⟨S, P, ρ, Q0, R, h, q⟩ => fun p hp =>
    q _ h _ _ (Ext.new hp) (S.ext R.inv (Ext.new hp)) (.dK (kvs := []) (ds := []) (R.fit.ne hp) upd_same .nil) (fun _ _ => ⟨p, rfl, hp, .dK (kvs := []) (ds := []) upd_same .nil⟩)

/-! subscripts -/
theorem atI_rp {N : Zn} {H : Hp} {vs : List V} {ds : List D} (r : RpAll N H vs ds) {i : Int} {d : D} (h : atI ds i = some d) : ∃ v, atI vs i = some v ∧ Rp N H v d := by
  unfold atI at h ⊢
  rw [r.length]
  obtain ⟨j, hj, h⟩ := Option.bind_eq_some_iff.mp h
  obtain ⟨v, hv, rv⟩ := r.get' h
  exact ⟨v, by rw [hj]; exact hv, rv⟩
theorem ix_any (hu : X.A.units + 64 < cLine) : IxR X (fun x y H Q => ∃ N d e r, Fit N H ∧ RpB N H x d ∧ RpB N H y e ∧ idxD d e = some r ∧ Out false N H r Q) := by
  intro value slice pins s σ H x y v u Q I rx ry h hs
  obtain ⟨N, d, e, r, f, hx, hy, hi, o⟩ := h
  unfold idxD at hi
  split at hi
  · obtain ⟨a, xs, rfl, ha, rr⟩ := hx.list_of
    obtain ⟨w, hw, rw'⟩ := atI_rp rr hi
    exact ix_list value slice pins s σ H _ _ v u Q I rx ry ⟨a, xs, _, w, rfl, hy.int_of, SqL.of ha, hw, o.old rw'⟩ hs
  · obtain ⟨a, xs, rfl, ha, rr⟩ := hx.tup_of
    obtain ⟨w, hw, rw'⟩ := atI_rp rr hi
    exact ix_tup value slice pins s σ H _ _ v u Q I rx ry ⟨a, xs, _, w, rfl, hy.int_of, SqT.of ha, hw, o.old rw'⟩ hs
  · split at hi
    · obtain ⟨c, hc, rfl⟩ := Option.map_eq_some_iff.mp hi
      exact ix_str value slice pins s σ H _ _ v u Q I rx ry ⟨_, _, c, hx.str_of, hy.int_of, by assumption, hc, o.old (.str _)⟩ hs
    · cases hi
  · split at hi
    · rename_i hk
      rw [Bool.and_eq_true] at hk
      obtain ⟨a, H2, ov, rfl, I2, g, back, hv⟩ := dict_at I hx hy hk.1 hk.2
      rcases hv with ⟨w, e', h1, h2, h3⟩ | ⟨h1, h2⟩
      · rw [h2] at hi; cases hi
        subst h1
        cases rx
        exact PyProof.Rows.tail_any (dict_typeIs I2 g) PySem.F.slot_dict_getitem.lookup (d_getItem (by omega) I2 g ry fun w' s' I' rw' => ⟨w, H, back s' I', rw', o.old h3⟩) hs
      · rw [h2] at hi; cases hi
    · cases hi
  · cases hi
theorem plainIx_of {y : PySem.Expr} (h : notSlice y = true) : PlainIx y := by
  intro o i
  cases y <;> first | rfl | cases h
theorem ev_idx (hu : X.A.units + 64 < cLine) {a i : E} {x y : PySem.Expr} {p : Pos} (ha : PE X x (tBo C a)) (hb : PE X y (tE C i)) (hs : notSlice y = true) : PE X (.Subscript x y p) (tE C (.idx a i)) :=
  PE.weak (pe_ix (ix_any hu) ha hb (plainIx_of hs)) fun σ H Q ⟨S, P, ρ, Q0, R, h, q⟩ => ⟨S, P, ρ, _, R, h, fun d hd v H1 e1 i1 r1 => by
    have R1 := R.ext e1 i1
    refine ⟨S, P, ρ, _, R1, hd, fun d2 hd2 v2 H2 e2 i2 r2 _ => ?_⟩
    have R2 := R1.ext e2 i2
    obtain ⟨r, er, q0⟩ := hd2
    exact ⟨_, d, d2, r, R2.fit, (r1.ext R1.fit R1.domN e2).1, .of r2, er, fun v' H' e' rp _ => q r q0 v' H' ((e1.trans e2).trans (e'.any _)) (S.ext i2 e') rp (fun z => nomatch z)⟩⟩
theorem cutV_rp {N : Zn} {H : Hp} {vs : List V} {ds : List D} (r : RpAll N H vs ds) (lo hi : Option Int) : RpAll N H (cutV vs lo hi) (cutL ds lo hi) := by
  unfold cutV cutL
  rw [r.length]
  exact (r.drop _).take _
theorem sl_any : SlR X (fun x lo hi H Q => ∃ N d r, Fit N H ∧ RpB N H x d ∧ slcD d lo hi = some r ∧ Out true N H r Q) := by
  intro pins s σ H x v vl vu lo hi sl Q I rx hs pl pu h
  obtain ⟨N, d, r, f, hx, hi', o⟩ := h
  unfold slcD at hi'
  split at hi'
  · cases hi'
    obtain ⟨a, xs, rfl, ha, rr⟩ := hx.list_of
    exact sl_list pins s σ H _ v vl vu lo hi sl Q I rx hs pl pu ⟨a, xs, rfl, SqL.of ha, o.newL f (cutV_rp rr lo hi)⟩
  · cases hi'
    obtain ⟨a, xs, rfl, ha, rr⟩ := hx.tup_of
    refine sl_tupA pins s σ H _ v vl vu lo hi sl Q I rx hs pl pu ⟨a, xs, rfl, SqT.of ha, fun hw => ?_, fun _ => o.newT f (cutV_rp rr lo hi)⟩
    have : cutV xs lo hi = xs := by
      unfold cutV
      rw [hw.1, hw.2]
      simp
    refine o.imm (.tup ha ?_) rfl
    have h2 := cutV_rp rr lo hi
    rw [this] at h2
    exact h2
  · split at hi' <;> cases hi'
    exact sl_str pins s σ H _ v vl vu lo hi sl Q I rx hs pl pu ⟨_, hx.str_of, by assumption, o.imm (.str _) rfl⟩
  · cases hi'
theorem ev_slc {a : E} {lo hi : Eo} {x : PySem.Expr} {l h : Option PySem.Expr} {p p2 : Pos} (ha : PE X x (tBo C a)) (hl : PO X l (tEo C lo)) (hh : PO X h (tEo C hi)) : PE X (.Subscript x (.Slice l h none p2) p) (tE C (.slc a lo hi)) :=
  PE.weak (pe_slice sl_any ha hl hh) fun σ H Q ⟨S, P, ρ, Q0, R, h, q⟩ => ⟨S, P, ρ, _, R, h, fun d hd v H1 e1 i1 r1 => by
    have R1 := R.ext e1 i1
    refine ⟨S, P, ρ, _, R1, hd, fun o1 hd2 H2 e2 i2 => ?_⟩
    have R2 := R1.ext e2 i2
    refine ⟨S, P, ρ, _, R2, hd2, fun o2 hd3 H3 e3 i3 => ?_⟩
    have R3 := R2.ext e3 i3
    obtain ⟨r, er, q0⟩ := hd3
    refine ⟨_, d, r, R3.fit, (r1.ext R1.fit R1.domN (e2.trans e3)).1, er, fun v' H' e' rp fs => ?_⟩
    have ee := (e1.trans e2).trans e3
    refine q r q0 v' H' (ee.trans (e'.any _)) (S.ext i3 e') rp fun f l => ?_
    exact (fs f l).back i3 ee⟩
theorem ev_rev {a : E} {x : PySem.Expr} {k : Nat} {p1 p2 p3 p : Pos} (ha : PE X x (tBo C a)) : PE X (.Subscript x (.Slice none none (some (.UnaryOp .USub (.Constant (.int 1) k p1) p2)) p3) p) (tE C (.rev a)) :=
  PE.weak (pe_revL ha) fun σ H Q ⟨S, P, ρ, Q0, R, h, q⟩ => ⟨S, P, ρ, _, R, h, fun d hd v H1 e i r => by
    have R1 := R.ext e i
    obtain ⟨z, ez, q0⟩ := hd
    cases d <;> simp only [revD] at ez <;> cases ez
    obtain ⟨a, ys, rfl, hy, rr⟩ := r.1.list_of
    exact ⟨a, ys, rfl, SqL.of hy, fun p hp => q _ q0 _ _ (e.trans (Ext.new hp)) (S.ext i (Ext.new hp)) (.lst (R1.fit.ne hp) upd_same (rr.reverse.ext (Ext.new hp) R1.fit)) (fun _ _ => (freshL R1.fit rr.reverse hp).back i e)⟩⟩

/-! parts, arguments -/
theorem eo_no : PO X none (tEo C .no) := ⟨fun pins s σ H Q I ⟨S, P, ρ, Q0, R, h, q⟩ => po_none.run pins s σ H Q I (q _ h H Ext.refl R.inv)⟩
theorem eo_yes {e : E} {x : PySem.Expr} (h : PE X x (tE C e)) : PO X (some x) (tEo C (.yes e)) := ⟨fun pins s σ H Q I ⟨S, P, ρ, Q0, R, hh, q⟩ => (po_some h).run pins s σ H Q I
  ⟨S, P, ρ, _, R, hh, fun d hd v H1 e i r _ => by
    obtain ⟨j, rfl, q0⟩ := hd
    exact ⟨j, (RpB.of r).int_of, q _ q0 H1 e i⟩⟩⟩
theorem es_nil : PA X [] (tEs C .nil) := PA.weak pa_nil fun σ H Q ⟨S, P, ρ, Q0, R, h, q⟩ => q _ h _ H Ext.refl R.inv .nil
theorem star_eq {x : PySem.Expr} {xs : List PySem.Expr} {env : PySem.Env} (h : notStar x = true) : starEach (x :: xs) env = (false, eval x env) :: starEach xs env := by
  cases x <;> first | rfl | cases h
theorem es_cons {e : E} {r : Es} {x : PySem.Expr} {xs : List PySem.Expr} (hx : notStar x = true) (h : PE X x (tE C e)) (hr : PA X xs (tEs C r)) : PA X (x :: xs) (tEs C (.cons e r)) :=
  PA.weak (pa_cons h hr (star_eq hx)) fun σ H Q ⟨S, P, ρ, Q0, R, h, q⟩ => ⟨S, P, ρ, _, R, h, fun d hd v H1 e i rp _ => by
    have R1 := R.ext e i
    exact ⟨S, P, ρ, _, R1, hd, fun ds hds vs H2 e2 i2 r2 => q _ hds _ H2 (e.trans e2) i2 (.cons (rp.ext (e2.mono R1.domN) R1.fit) r2)⟩⟩
theorem es_star {e : E} {r : Es} {x : PySem.Expr} {p : Pos} {xs : List PySem.Expr} (h : PE X x (tBo C e)) (hr : PA X xs (tEs C r)) : PA X (.Starred x p :: xs) (tEs C (.star e r)) :=
  PA.weak (StX.pa_star h hr) fun σ H Q ⟨S, P, ρ, Q0, R, h, q⟩ => ⟨S, P, ρ, _, R, h, fun d hd v H1 e i rp => by
    have R1 := R.ext e i
    obtain ⟨ys, ey, hd⟩ := hd
    have key : ∃ a vs, v = .ref a ∧ (SqT X.K H1 a vs ∨ SqL X.K H1 a vs) ∧ RpAll (Nn P ρ σ) H1 vs ys := by
      cases d <;> simp only [ltD] at ey <;> cases ey
      · obtain ⟨a, vs, e1, h1, r1⟩ := rp.1.list_of
        exact ⟨a, vs, e1, .inr (SqL.of h1), r1⟩
      · obtain ⟨a, vs, e1, h1, r1⟩ := rp.1.tup_of
        exact ⟨a, vs, e1, .inl (SqT.of h1), r1⟩
    obtain ⟨a, vs, e1, h1, r1⟩ := key
    exact ⟨a, vs, e1, h1, S, P, ρ, _, R1, hd, fun ds hds ws H2 e2 i2 r2 => q _ hds _ H2 (e.trans e2) i2 ((r1.ext (e2.mono R1.domN) R1.fit).append r2)⟩⟩
theorem eb_nil : PA X [] (tEb C .nil) := PA.weak pa_nil fun σ H Q ⟨S, P, ρ, Q0, R, h, q⟩ => q _ h _ H Ext.refl R.inv .nil
theorem eb_cons {e : E} {r : Es} {x : PySem.Expr} {xs : List PySem.Expr} (hx : notStar x = true) (h : PE X x (tBo C e)) (hr : PA X xs (tEb C r)) : PA X (x :: xs) (tEb C (.cons e r)) :=
  PA.weak (pa_cons h hr (star_eq hx)) fun σ H Q ⟨S, P, ρ, Q0, R, h, q⟩ => ⟨S, P, ρ, _, R, h, fun d hd v H1 e i rp => by
    have R1 := R.ext e i
    exact ⟨S, P, ρ, _, R1, hd, fun ds hds vs H2 e2 i2 r2 => q _ hds _ H2 (e.trans e2) i2 (.cons (rp.ext R1.fit R1.domN e2) r2)⟩⟩
theorem ea_nil : PA X [] (tEa C .nil) := PA.weak pa_nil fun σ H Q ⟨S, P, ρ, Q0, R, h, q⟩ => q _ h _ H Ext.refl R.inv .nil
theorem ea_var {i : Nat} {r : Es} {x : PySem.Expr} {xs : List PySem.Expr} (hx : notStar x = true) (h : PE X x (tVar i)) (hr : PA X xs (tEa C r)) : PA X (x :: xs) (tEa C (.cons (.var i) r)) :=
  PA.weak (pa_cons h hr (star_eq hx)) fun σ H Q ⟨S, P, ρ, Q0, R, ⟨b, eb, h⟩, q⟩ => by
    unfold lookA at eb
    split at eb <;> cases eb
    · rename_i hd
      obtain ⟨v, hv, rv⟩ := R.sh i _ hd
      exact ⟨v, hv, S, P, ρ, _, R, h, fun ds hds vs H2 e2 i2 r2 => q _ hds _ H2 e2 i2 (.sh (rv.ext (e2.mono R.domN) R.fit) r2)⟩
    · rename_i hd
      exact ⟨_, R.src i hd, S, P, ρ, _, R, h, fun ds hds vs H2 e2 i2 r2 => q _ hds _ H2 e2 i2 (.src r2)⟩
theorem ea_cons {e : E} {r : Es} {x : PySem.Expr} {xs : List PySem.Expr} (hx : notStar x = true) (hv : ∀ i, e = .var i → PE X x (tVar i)) (h : PE X x (tE C e)) (hr : PA X xs (tEa C r)) : PA X (x :: xs) (tEa C (.cons e r)) := by
  by_cases z : ∃ i, e = .var i
  · obtain ⟨i, rfl⟩ := z
    exact ea_var hx (hv i rfl) hr
  · refine PA.weak (pa_cons h hr (star_eq hx)) fun σ H Q ⟨S, P, ρ, Q0, R, h, q⟩ => ⟨S, P, ρ, (fun d => eva C r ρ fun xs => Q0 (.sh d :: xs)), R, ?_, fun d hd v H1 e i rp _ => by
      have R1 := R.ext e i
      exact ⟨S, P, ρ, _, R1, hd, fun ds hds vs H2 e2 i2 r2 => q _ hds _ H2 (e.trans e2) i2 (.sh (rp.ext (e2.mono R1.domN) R1.fit) r2)⟩⟩
    cases e <;> first | exact h | exact absurd ⟨_, rfl⟩ z
end
end PD
/-! PDi: what built-ins give. -/
namespace PD
open PySem L2 PyProof.Rows

/-! ### collecting -/
section
variable {prog : Program} {w : World} {A : Around} {E : Value → Shared → Prop} {s : Shared}
theorem collect_tup {l : Addr} {vs : List Value} {Q : List Value → Shared → Prop} (hl : IsTup s.heap l vs.toArray)
    (h : Q vs { s with heap := (s.heap.push (PyProof.Rows.seqObj "list" #[] 0)).update s.heap.objs.size (Obj.mapSeq (· ++ vs.toArray)) }) (hsz : vs.length ≤ sizeLine) :
    wpAny (model prog w) A (collect (.ref l)) Q E s := by
  obtain ⟨o, ho, hc, n, hd⟩ := id hl
  unfold collect
  refine wpAny_bind (wpAny_runValue (codeAny_builtin PyProof.Rows.entry_proto_collect' ?_))
  show wpAny _ _ (do again (.builtin "list.__iadd__" ⟨[← newList [], .ref l], []⟩)) _ _ s
  refine wpAny_bind (wpAny_newList (wpAny_pure ⟨Code.quiet_builtin _ (by decide +kernel), codeAny_builtin PyProof.Rows.entry_list_iadd' ?_⟩))
  show wpAny _ _ (Builtin.List.listExtendWith (.ref s.heap.objs.size) (.ref l) (.ref s.heap.objs.size)) _ _ { s with heap := s.heap.push (PyProof.Rows.seqObj "list" #[] 0) }
  unfold Builtin.List.listExtendWith
  have ho' : (s.heap.push (PyProof.Rows.seqObj "list" #[] 0)).get? l = some o := Heap.get?_push_of_some _ ho
  refine wpAny_bind (wpAny_typeOf (T := "tuple") ⟨o, ho', hc⟩ ?_)
  have ht : (Value.type "tuple" == Value.type "tuple") = true := by rfl
  rw [if_pos (by rw [ht]; simp)]
  refine wpAny_bind (PyProof.Rows.listItems_at ho' hd ?_)
  refine wpAny_bind (PyProof.Rows.listItems_at (xs := #[]) (n := 0) (Heap.get?_push_size _ rfl) rfl ?_)
  rw [if_neg (by simp)]
  refine wpAny_bind (PyProof.Rows.listUpdate_at (xs := #[]) (n := 0) (Heap.get?_push_size _ rfl) rfl ?_ (Nat.zero_le _) (by show (#[] ++ vs.toArray).size ≤ sizeLine + 1; simp only [Array.size_append, List.size_toArray, List.length_nil]; omega))
  refine wpAny_pure ?_
  show wpAny (model prog w) A (do
      let o ← load s.heap.objs.size
      match o.data with
      | .seq xs _ => pure xs.toList
      | _ => unsupported "internal:collect") Q E _
  refine wpAny_bind (wpAny_load (get?_update_seq (Heap.get?_push_size _ rfl) _) ?_)
  show wpAny _ _ (pure ((#[] : Array Value) ++ vs.toArray).toList) Q E _
  rw [show ((#[] : Array Value) ++ vs.toArray).toList = vs by simp]
  exact wpAny_pure h
end
section
variable {X : Cx} {pins : List (Addr × Obj)} {σ : L2.St} {H : Hp} {s : Shared} {N : Zn}
theorem pairs_keys {P : Program} {w : World} : ∀ {es : List DictEntry} {vs : List (Key × Value)}, Pairs (mixKind P w) es vs → Vals ((vs.map (·.1)).map kV) (es.map (·.key))
  | _, _, .nil => .nil
  | _, _, .cons h1 _ t => .cons (keyIs_rel h1) (pairs_keys t)
theorem rp_key (k : Key) : Rp N H (kV k) (keyD k) := by
  cases k with
  | inl i => exact .int i
  | inr x => exact .str x
theorem rp_keys : ∀ ks : List Key, RpAll N H (ks.map kV) (ks.map keyD)
  | [] => .nil
  | k :: ks => .cons (rp_key k) (rp_keys ks)
theorem refs_entries {P : Program} {w : World} : ∀ xs : List (List Key × Addr × Value), Vals (xs.map fun x => V.ref x.2.1) ((xs.map (entryOfKey (tupleKind (mixKind P w)))).map (·.key))
  | [] => .nil
  | _ :: xs => .cons rfl (refs_entries xs)
theorem rpT_keys : ∀ {ks : List (List Key × V)} {xs : List (List Key × Addr × Value)}, KT H ks xs → RpAll N H (xs.map fun x => V.ref x.2.1) (ks.map fun p => tkeyD p.1)
  | _, _, .nil => .nil
  | _, _, .cons h1 t => .cons (.tup h1.2.1 (rp_keys _)) (rpT_keys t)
/-- a dict as it stands: its keys in order -/
theorem dict_raw (I : Inv X pins σ H s) {a : Addr} {kvs : List (D × D)} (f : Fit N H) (h : RpB N H (.ref a) (.dict kvs)) :
    ∃ o es ep vs, s.heap.get? a = some o ∧ o.ExactDict ∧ o.data = .dict es ep ∧ (a == sysModules) = false ∧ Vals vs (es.toList.map (·.key)) ∧ RpAll N H vs (kvs.map (·.1)) ∧ kvs.length ≤ sizeLine := by
  obtain ⟨b, eb, ⟨ks, ds, ha, r, rfl⟩ | ⟨ks, ds, hne, ha, r, rfl⟩⟩ := h.dict_of
  · cases eb
    have hl : ks.length = ds.length := by simpa using r.length
    obtain ⟨z, lo, vs, rel, o, es, ep, ho, hx, hd, _, hp, _⟩ := dk_of I.hok ha
    refine ⟨o, es, ep, (ks.map (·.1)).map kV, ho, hx, hd, lo, ?_, ?_, by simpa [List.length_zip, ← hl] using z⟩
    · rw [KV.keys rel]; exact pairs_keys hp
    · rw [map_fst_zip' (by simpa using hl), show ks.map (fun p => keyD p.1) = (ks.map (·.1)).map keyD by rw [List.map_map]; rfl]
      exact rp_keys _
  · cases eb
    have hl : ks.length = ds.length := by simpa using r.length
    obtain ⟨z, lo, xs, rel, o, es, ep, ho, hx, hd, he, _, _⟩ := dt_of I.hok ha
    refine ⟨o, es, ep, xs.map (fun x => V.ref x.2.1), ho, hx, hd, lo, ?_, ?_, by simpa [List.length_zip, ← hl] using z⟩
    · rw [he]; exact refs_entries xs
    · rw [map_fst_zip' (by simpa using hl)]; exact rpT_keys rel
/-- the items collected of a list, a tuple, a dict -/
theorem collect_rp (hc : X.calm = true) (I : Inv X pins σ H s) {A : Around} (hA : A.handled = X.A.handled) {v : V} {d : D} {u : Value} {ds : List D} (f : Fit N H) (h : RpB N H v d) (r : RelV v u) (hs : seqD d = some ds) {E : Value → Shared → Prop} {Q : List Value → Shared → Prop}
    (hq : ∀ s' us vs, Inv X pins σ H s' → Vals vs us → RpAll N H vs ds → ds.length ≤ sizeLine → Q us s') : wpAny (model X.prog X.w) A (collect u) Q E s := by
  cases d with
  | list xs =>
    cases hs
    obtain ⟨a, vs, rfl, ha, rr⟩ := h.list_of
    cases r
    obtain ⟨its, rv, p, hz⟩ := I.list (SqL.of ha)
    have h1 := rv.length
    have h2 := rr.length
    refine collect_list p.isList ?_ (by omega)
    refine hq { s with heap := _ } _ vs (I.kept (t' := s.toks) fun b o q => ?_) rv rr (by omega)
    rw [Heap.get?_update_ne _ _ _ _ (Nat.ne_of_lt (Heap.lt_size q))]
    exact Heap.get?_push_of_some _ q
  | tuple xs =>
    cases hs
    obtain ⟨a, vs, rfl, ha, rr⟩ := h.tup_of
    cases r
    obtain ⟨its, rv, p, hz⟩ := I.tuple (SqT.of ha)
    have h1 := rv.length
    have h2 := rr.length
    refine collect_tup p ?_ (by omega)
    refine hq { s with heap := _ } _ vs (I.kept (t' := s.toks) fun b o q => ?_) rv rr (by omega)
    rw [Heap.get?_update_ne _ _ _ _ (Nat.ne_of_lt (Heap.lt_size q))]
    exact Heap.get?_push_of_some _ q
  | dict kvs =>
    cases hs
    obtain ⟨a, rfl, _⟩ := h.dict_of
    cases r
    obtain ⟨o, es, ep, vs, ho, hx, hd, lo, rv, rr, hz⟩ := dict_raw I f h
    have h1 : es.size = kvs.length := by
      have e1 := rv.length
      have e2 := rr.length
      simp at e1 e2
      omega
    refine PySem.W.kdu_collect (kdl_raw lo hx hd) (by rw [hA]; exact I.ok.hd hc) ho (by omega) fun h' tk acc hk hacc => ?_
    have e : acc.toList = es.toList.map (·.key) := by
      apply List.ext_getElem?
      intro j
      rw [List.getElem?_map]
      cases hj : acc.toList[j]? with
      | none =>
        have q1 := List.getElem?_eq_none_iff.mp hj
        have q2 : acc.size = es.size := hacc.1
        rw [List.getElem?_eq_none (by simp at q1 ⊢; omega)]; rfl
      | some v =>
        obtain ⟨en, he, ev⟩ := hacc.2 j v (by rw [← Array.getElem?_toList]; exact hj)
        rw [Array.getElem?_toList, he, ev]; rfl
    refine hq { s with heap := h', toks := tk } _ vs (I.kept hk) (by rw [e]; exact rv) rr (by rw [List.length_map]; exact hz)
  | none => cases hs
  | bool b => cases hs
  | int i => cases hs
  | str x => cases hs
end
end PD
/-! PDj: sorted, list, tuple, len and so on, by data. -/
namespace PD
open PySem L2 PyProof.Rows PySem.W

section
variable {X : Cx} {pins : List (Addr × Obj)} {σ : L2.St} {H : Hp} {s : Shared} {N : Zn}
theorem each_of : ∀ {vs : List V} {us : List Value} {ds : List D}, Vals vs us → RpAll N H vs ds → EachIs (fun u (p : V × D) => L2.RelV p.1 u ∧ Rp N H p.1 p.2) us (vs.zip ds)
  | _, _, _, .nil, .nil => .nil
  | _, _, _, .cons r t, .cons q u => .cons ⟨r, q⟩ (each_of t u)
theorem of_each : ∀ {us : List Value} {ps : List (V × D)}, EachIs (fun u (p : V × D) => L2.RelV p.1 u ∧ Rp N H p.1 p.2) us ps → Vals (ps.map (·.1)) us ∧ RpAll N H (ps.map (·.1)) (ps.map (·.2))
  | _, _, .nil => ⟨.nil, .nil⟩
  | _, _, .cons h t => let ⟨a, b⟩ := of_each t; ⟨.cons h.1 a, .cons h.2 b⟩
theorem allAlike_of {ds : List D} (h : allAlike ds = true) : AllAlike ds := fun d hd e he => List.all_eq_true.mp (List.all_eq_true.mp h d hd) e he
theorem sortOk_of {ds : List D} (h : sortOk ds = true) : AllAlike ds ∧ Sortable ds ∧ ∀ d ∈ ds, d.depth ≤ 60 := by
  unfold sortOk at h
  simp only [Bool.and_eq_true, Bool.or_eq_true] at h
  refine ⟨allAlike_of h.1.1, ?_, fun d hd => of_decide_eq_true (List.all_eq_true.mp h.2 d hd)⟩
  rcases h.1.2 with q | q
  · refine .inl fun d hd => ?_
    have := List.all_eq_true.mp q d hd
    cases d <;> simp [isTup1] at this
    rename_i xs
    cases xs <;> simp [isTup1] at this
    exact ⟨_, _, rfl⟩
  · refine .inr fun d hd => ?_
    have := List.all_eq_true.mp q d hd
    cases d <;> simp [noTupN] at this ⊢
theorem sorted_rp (hc : X.calm = true) (hu : X.A.units + 64 < cLine) (I : Inv X pins σ H s) {v : V} {d : D} {u : Value} {ds : List D} (f : Fit N H) (h : RpB N H v d) (r : L2.RelV v u) (hs : seqD d = some ds) (ok : sortOk ds = true) {E : Value → Shared → Prop} {Q : VK} (o : Out true N H (.list (sortD ds)) Q) :
    wpAny (model X.prog X.w) X.A (call (.builtin "sorted") [u]) (EP X pins σ Q) E s := by
  obtain ⟨hal, hso, hdp⟩ := sortOk_of ok
  refine Calls.call_function_entry PyProof.Rows.kind_sorted PyProof.Rows.plain_sorted PyProof.Rows.entry_sorted (PyProof.Rows.args_sorted1 _) ?_
  unfold Builtin.«sorted»
  refine wpAny_bind (m := checkCount "sorted" 1 1 _) (wpAny_pure ?_)
  refine wpAny_bind (collect_rp hc I (A := X.A.in1) rfl f h r hs fun s' us vs I' rv rr hz => ?_)
  have hl := rv.length
  have hl2 := rr.length
  have hn : H s'.heap.objs.size = none := I'.hok.fresh (Nat.le_refl _)
  refine wpAny_bind (wpAny_newList ?_ (by omega))
  have hoL : (s'.heap.push (seqObj "list" us.toArray 0)).get? s'.heap.objs.size = some (seqObj "list" us.toArray 0) := Heap.get?_push_size _ rfl
  have I2 : Inv X pins σ H { s' with heap := s'.heap.push (seqObj "list" us.toArray 0) } := I'.kept (t' := s'.toks) fun b o q => Heap.get?_push_of_some _ q
  show wpAny _ _ _ _ _ { s' with heap := s'.heap.push (seqObj "list" us.toArray 0) }
  have hzip : (vs.zip ds).map (·.2) = ds := map_snd_zip' hl2
  have ee := each_of rv rr
  refine wpAny_bind (wpAny_holding (list_sort_data (β := V × D) (enc := fun p => p.2) (R := fun u (p : V × D) => L2.RelV p.1 u ∧ Rp N H p.1 p.2) (bs := vs.zip ds) (s := { s' with heap := s'.heap.push (seqObj "list" us.toArray 0) }) hoL ee (ee.mono fun u p hp => ?_) (by rw [hzip]; exact hal) (by rw [hzip]; exact hso) (by rw [List.length_zip]; omega) (fun b hb => ?_) fun out hlo eo => ?_))
  · obtain ⟨as, q1, q2⟩ := hp.2.reads I2 hp.1
    refine ⟨as, q1, fun z => ?_⟩
    obtain ⟨o', q3⟩ := q2 _ z
    rw [hn] at q3; cases q3
  · have hb2 : b.2 ∈ ds := by
      have := List.mem_map_of_mem (f := fun p : V × D => p.2) hb
      rwa [hzip] at this
    have := hdp _ hb2
    show X.A.in1.units + 1 + b.2.depth < cLine
    have e1 : X.A.in1.units = X.A.units + 1 := rfl
    omega
  · obtain ⟨e', he'⟩ := PyProof.Rows.sortedHeap_at (vs := us) (out := out.toArray) hoL
    obtain ⟨g1, g2⟩ := of_each eo
    have es : ((vs.zip ds).mergeSort (dataLe false fun p => p.2)).map (·.2) = sortD ds := by
      unfold sortD
      have q := sort_maps (r := dataLe false fun p : V × D => p.2) (s := dataLe false id) (fun p : V × D => p.2) (l := vs.zip ds) (fun _ _ _ _ => rfl)
      rw [hzip] at q
      exact q
    rw [es] at g2
    generalize ((vs.zip ds).mergeSort (dataLe false fun p => p.2)).map (·.1) = ws at g1 g2
    have hw := g1.length
    have hzl : (vs.zip ds).length = ds.length := by rw [List.length_zip]; omega
    refine wpAny_pure ⟨_, rfl, .ref s'.heap.objs.size, upd H s'.heap.objs.size (.lst ws), I'.laid (t' := s'.toks) (fun b u e => ?_) (Nat.le_refl _) (show ObjOk X.prog X.w _ _ _ (.lst ws) from ⟨by omega, out, e', g1, he'⟩), rfl, o.newL f g2 _ hn⟩
    have hb : b < s'.heap.objs.size := Heap.lt_size e
    rw [PyProof.Rows.sortedHeap_old (Nat.ne_of_lt hb) (by rw [size_push']; exact Nat.lt_succ_of_lt hb)]
    exact Heap.get?_push_of_some _ e
end

/-- a built-in by data -/
def PrR (X : Cx) (p : Prim) (f : Value) : Prop := CallR X f (fun xs H Q => ∃ S N ds r, Fit N H ∧ RpBs S N H xs ds ∧ primD p ds = some r ∧ Out true N H r Q)
section
variable {X : Cx}
theorem RpBs.one {S : Src} {N : Zn} {H : Hp} {xs : List V} {d : D} (h : RpBs S N H xs [d]) : ∃ x, xs = [x] ∧ RpB N H x d := by
  cases h with
  | cons r t => cases t; exact ⟨_, rfl, r.1⟩
theorem RpBs.two {S : Src} {N : Zn} {H : Hp} {xs : List V} {d e : D} (h : RpBs S N H xs [d, e]) : ∃ x y, xs = [x, y] ∧ RpB N H x d ∧ RpB N H y e := by
  cases h with
  | cons r t => cases t with
    | cons r2 t2 => cases t2; exact ⟨_, _, rfl, r.1, r2.1⟩
theorem pr_len (hu : X.A.units + 64 < cLine) : PrR X .len (.builtin "len") := by
  intro pins s σ H xs us Q I r h
  obtain ⟨S, N, ds, d, f, rb, hp, o⟩ := h
  unfold primD at hp
  split at hp <;> (try (rename_i e; cases e)) <;> (try cases hp)
  · obtain ⟨x, rfl, q⟩ := rb.one
    obtain ⟨a, ys, rfl, ha, rr⟩ := q.list_of
    exact call_len_seq pins s σ H _ us Q I r ⟨a, ys, rfl, .inl (SqL.of ha), by rw [rr.length]; exact o.imm (.int _) rfl⟩
  · obtain ⟨x, rfl, q⟩ := rb.one
    obtain ⟨a, ys, rfl, ha, rr⟩ := q.tup_of
    exact call_len_seq pins s σ H _ us Q I r ⟨a, ys, rfl, .inr (SqT.of ha), by rw [rr.length]; exact o.imm (.int _) rfl⟩
  · obtain ⟨x, rfl, q⟩ := rb.one
    obtain ⟨a, rfl, ⟨ks, es, ha, rr, rfl⟩ | ⟨ks, es, hne, ha, rr, rfl⟩⟩ := q.dict_of
    · have hl : ks.length = es.length := by simpa using rr.length
      obtain ⟨u, rfl, rx⟩ := r.one
      cases rx
      refine d_len I (.inl ha) fun t s' I' => ⟨.int ks.length, H, I', ⟨t, rfl⟩, ?_⟩
      refine o.imm (v := .int ks.length) ?_ rfl
      rw [show ((ks.map fun p => keyD p.1).zip es).length = ks.length by simp [hl]]
      exact .int _
    · have hl : ks.length = es.length := by simpa using rr.length
      refine call_len_dT pins s σ H _ us Q I r ⟨a, ks, rfl, ha, ?_⟩
      refine o.imm (v := .int ks.length) ?_ rfl
      rw [show ((ks.map fun p => tkeyD p.1).zip es).length = ks.length by simp [hl]]
      exact .int _
  · split at hp <;> cases hp
    obtain ⟨x, rfl, q⟩ := rb.one
    cases q.str_of
    exact call_len_str pins s σ H _ us Q I r ⟨_, rfl, by assumption, o.imm (.int _) rfl⟩
theorem pr_tuple : PrR X .tuple (.type "tuple") := by
  intro pins s σ H xs us Q I r h
  obtain ⟨S, N, ds, d, f, rb, hp, o⟩ := h
  unfold primD at hp
  split at hp <;> (try (rename_i e; cases e)) <;> (try cases hp)
  · obtain ⟨x, rfl, q⟩ := rb.one
    obtain ⟨a, ys, rfl, ha, rr⟩ := q.list_of
    exact call_tuple_of pins s σ H _ us Q I r ⟨a, ys, rfl, .inl ⟨SqL.of ha, o.newT f rr⟩⟩
  · obtain ⟨x, rfl, q⟩ := rb.one
    obtain ⟨a, ys, rfl, ha, rr⟩ := q.tup_of
    exact call_tuple_of pins s σ H _ us Q I r ⟨a, ys, rfl, .inr ⟨SqT.of ha, o.imm (.tup ha rr) rfl⟩⟩
theorem pr_list (hc : X.calm = true) : PrR X .list (.type "list") := by
  intro pins s σ H xs us Q I r h
  obtain ⟨S, N, ds, d, f, rb, hp, o⟩ := h
  unfold primD at hp
  split at hp <;> (try (rename_i e; cases e)) <;> (try cases hp)
  · obtain ⟨x, rfl, q⟩ := rb.one
    obtain ⟨a, ys, rfl, ha, rr⟩ := q.list_of
    exact call_list_of pins s σ H _ us Q I r ⟨a, ys, rfl, .inl (SqL.of ha), o.newL f rr⟩
  · obtain ⟨x, rfl, q⟩ := rb.one
    obtain ⟨a, ys, rfl, ha, rr⟩ := q.tup_of
    exact call_list_of pins s σ H _ us Q I r ⟨a, ys, rfl, .inr (SqT.of ha), o.newL f rr⟩
  · obtain ⟨x, rfl, q⟩ := rb.one
    obtain ⟨a, rfl, _⟩ := q.dict_of
    obtain ⟨u, rfl, rx⟩ := r.one
    cases rx
    obtain ⟨ob, es, ep, vs, ho, hx, hd, lo, rv, rr, hz⟩ := dict_raw I f q
    have h1 : es.size = vs.length := by have := rv.length; simp at this; omega
    have h2 := rr.length
    rw [List.length_map] at h2
    refine kdl_call (kdl_raw lo hx hd) (I.ok.hd hc) ho (by omega) fun h' tk acc c hk hS hacc => ?_
    have e : acc.toList = es.toList.map (·.key) := by
      apply List.ext_getElem?
      intro j
      rw [List.getElem?_map]
      cases hj : acc.toList[j]? with
      | none =>
        have q1 := List.getElem?_eq_none_iff.mp hj
        have q2 : acc.size = es.size := hacc.1
        rw [List.getElem?_eq_none (by simp at q1 ⊢; omega)]; rfl
      | some v =>
        obtain ⟨en, he, ev⟩ := hacc.2 j v (by rw [← Array.getElem?_toList]; exact hj)
        rw [Array.getElem?_toList, he, ev]; rfl
    refine ⟨.ref s.heap.objs.size, _, I.laid (t' := tk) (o := .lst vs) hk (Nat.le_refl _) ⟨by omega, acc.toList, c, by rw [e]; exact rv, by rw [Array.toArray_toList]; exact hS⟩, rfl, o.newL f rr _ (I.hok.fresh (Nat.le_refl _))⟩
theorem pr_sorted (hc : X.calm = true) (hu : X.A.units + 64 < cLine) : PrR X .sorted (.builtin "sorted") := by
  intro pins s σ H xs us Q I r h
  obtain ⟨S, N, ds, d, f, rb, hp, o⟩ := h
  unfold primD at hp
  split at hp <;> (try (rename_i e; cases e)) <;> (try cases hp)
  all_goals
    split at hp <;> cases hp
    obtain ⟨x, rfl, q⟩ := rb.one
    obtain ⟨u, rfl, rx⟩ := r.one
    exact sorted_rp hc hu I f q rx rfl (by assumption) o
theorem intsD_of : ∀ {ds : List D} {ns : List Int}, intsD ds = some ns → ds = ns.map PyData.int
  | [], _, h => by cases h; rfl
  | .int i :: r, _, h => by
    simp only [intsD] at h
    obtain ⟨ns, e, rfl⟩ := Option.map_eq_some_iff.mp h
    rw [intsD_of e]; rfl
theorem boolsD_of : ∀ {ds : List D} {ns : List Bool}, boolsD ds = some ns → ds = ns.map PyData.bool
  | [], _, h => by cases h; rfl
  | .bool i :: r, _, h => by
    simp only [boolsD] at h
    obtain ⟨ns, e, rfl⟩ := Option.map_eq_some_iff.mp h
    rw [boolsD_of e]; rfl
theorem pr_sum (hc : X.calm = true) : PrR X .sum (.builtin "sum") := by
  intro pins s σ H xs us Q I r h
  obtain ⟨S, N, ds, d, f, rb, hp, o⟩ := h
  unfold primD at hp
  split at hp <;> (try (rename_i e; cases e)) <;> (try cases hp)
  obtain ⟨ns, e, rfl⟩ := Option.map_eq_some_iff.mp hp
  obtain ⟨x, rfl, q⟩ := rb.one
  obtain ⟨a, ys, rfl, ha, rr⟩ := q.list_of
  rw [intsD_of e] at rr
  exact cr_sum hc pins s σ H _ us Q I r ⟨a, ns, rfl, SqL.of (by rw [← rr.ints]; exact ha), o.imm (.int _) rfl⟩
theorem pr_all (hc : X.calm = true) : PrR X .all (.builtin "all") := by
  intro pins s σ H xs us Q I r h
  obtain ⟨S, N, ds, d, f, rb, hp, o⟩ := h
  unfold primD at hp
  split at hp <;> (try (rename_i e; cases e)) <;> (try cases hp)
  obtain ⟨ns, e, rfl⟩ := Option.map_eq_some_iff.mp hp
  obtain ⟨x, rfl, q⟩ := rb.one
  obtain ⟨a, ys, rfl, ha, rr⟩ := q.list_of
  rw [boolsD_of e] at rr
  exact cr_all hc pins s σ H _ us Q I r ⟨a, ns, rfl, SqL.of (by rw [← rr.bools]; exact ha), o.imm (.bl _) rfl⟩
theorem pr_any (hc : X.calm = true) : PrR X .any (.builtin "any") := by
  intro pins s σ H xs us Q I r h
  obtain ⟨S, N, ds, d, f, rb, hp, o⟩ := h
  unfold primD at hp
  split at hp <;> (try (rename_i e; cases e)) <;> (try cases hp)
  obtain ⟨ns, e, rfl⟩ := Option.map_eq_some_iff.mp hp
  obtain ⟨x, rfl, q⟩ := rb.one
  obtain ⟨a, ys, rfl, ha, rr⟩ := q.list_of
  rw [boolsD_of e] at rr
  exact cr_any hc pins s σ H _ us Q I r ⟨a, ns, rfl, SqL.of (by rw [← rr.bools]; exact ha), o.imm (.bl _) rfl⟩
theorem pr_abs : PrR X .abs (.builtin "abs") := by
  intro pins s σ H xs us Q I r h
  obtain ⟨S, N, ds, d, f, rb, hp, o⟩ := h
  unfold primD at hp
  split at hp <;> (try (rename_i e; cases e)) <;> (try cases hp)
  obtain ⟨x, rfl, q⟩ := rb.one
  cases q.int_of
  exact call_abs pins s σ H _ us Q I r ⟨_, rfl, o.imm (.int _) rfl⟩
theorem pr_int : PrR X .int (.type "int") := by
  intro pins s σ H xs us Q I r h
  obtain ⟨S, N, ds, d, f, rb, hp, o⟩ := h
  unfold primD at hp
  split at hp <;> (try (rename_i e; cases e)) <;> (try cases hp)
  · obtain ⟨x, rfl, q⟩ := rb.one
    cases q.int_of
    exact call_int1 pins s σ H _ us Q I r (.inl ⟨_, rfl, o.imm (.int _) rfl⟩)
  · obtain ⟨x, rfl, q⟩ := rb.one
    cases q.bl_of
    exact call_int1 pins s σ H _ us Q I r (.inr ⟨_, rfl, o.imm (.int _) rfl⟩)
theorem pr_max (hc : X.calm = true) : PrR X .max (.builtin "max") := by
  intro pins s σ H xs us Q I r h
  obtain ⟨S, N, ds, d, f, rb, hp, o⟩ := h
  unfold primD at hp
  split at hp <;> (try (rename_i e; cases e)) <;> (try cases hp)
  obtain ⟨x, y, rfl, q, q2⟩ := rb.two
  cases q.int_of
  cases q2.int_of
  exact call_max2 hc pins s σ H _ us Q I r ⟨_, _, rfl, o.imm (.int _) rfl⟩
theorem pr_min (hc : X.calm = true) : PrR X .min (.builtin "min") := by
  intro pins s σ H xs us Q I r h
  obtain ⟨S, N, ds, d, f, rb, hp, o⟩ := h
  unfold primD at hp
  split at hp <;> (try (rename_i e; cases e)) <;> (try cases hp)
  obtain ⟨x, y, rfl, q, q2⟩ := rb.two
  cases q.int_of
  cases q2.int_of
  exact call_min2 hc pins s σ H _ us Q I r ⟨_, _, rfl, o.imm (.int _) rfl⟩
end
end PD
set_option maxHeartbeats 2000000
/-! PDy: dict of pairs. -/
namespace PD
open PySem L2
theorem put_rp {κ : Type} [DecidableEq κ] {N : Zn} {H : Hp} (enc : κ → PD.D) (hq : ∀ a b, PyData.eqv (enc a) (enc b) = decide (a = b)) (k : κ) {v : V} {x : PD.D} (rv : Rp N H v x) {kvs : List (κ × V)} {ds : List PD.D} (r : RpAll N H (kvs.map (·.2)) ds) :
    ∃ es, RpAll N H ((putK kvs k v).map (·.2)) es ∧ dput ((kvs.map fun p => enc p.1).zip ds) (enc k) x = ((putK kvs k v).map fun p => enc p.1).zip es := by
  have h1 : ∀ (kvs : List (κ × V)) (ds : List PD.D), RpAll N H (kvs.map (·.2)) ds → (((kvs.map fun p => enc p.1).zip ds).any fun p => PyData.eqv p.1 (enc k)) = kvs.any fun kv => decide (kv.1 = k) := by
    intro kvs
    induction kvs with
    | nil => intro ds r; simp
    | cons p kvs ih =>
      intro ds r
      cases r with
      | cons r1 rs => simp [hq, ih _ rs]
  have h2 : ∀ (kvs : List (κ × V)) (ds : List PD.D), RpAll N H (kvs.map (·.2)) ds → ∃ es, RpAll N H ((kvs.map (fun kv => if kv.1 = k then (kv.1, v) else kv)).map (·.2)) es ∧
      (((kvs.map fun p => enc p.1).zip ds).map fun p => if PyData.eqv p.1 (enc k) then (p.1, x) else p) = ((kvs.map (fun kv => if kv.1 = k then (kv.1, v) else kv)).map fun p => enc p.1).zip es := by
    intro kvs
    induction kvs with
    | nil => intro ds r; cases r; exact ⟨[], .nil, rfl⟩
    | cons p kvs ih =>
      intro ds r
      cases r with
      | @cons _ _ d ds r1 rs =>
        obtain ⟨es, re, he⟩ := ih _ rs
        by_cases hk : p.1 = k
        · refine ⟨x :: es, ?_, ?_⟩
          · simp only [List.map_cons, if_pos hk]; exact .cons rv re
          · simp [hq, hk, he]
        · refine ⟨d :: es, ?_, ?_⟩
          · simp only [List.map_cons, if_neg hk]; exact .cons r1 re
          · simp [hq, hk, he]
  unfold dput putK
  rw [h1 kvs ds r]
  by_cases ha : (kvs.any fun kv => decide (kv.1 = k)) = true
  · rw [if_pos ha, if_pos ha]
    exact h2 kvs ds r
  · rw [if_neg ha, if_neg ha]
    refine ⟨ds ++ [x], by rw [List.map_append]; exact r.append (.cons rv .nil), ?_⟩
    rw [List.map_append, List.zip_append (by simpa using r.length)]
    rfl
theorem putK_ne {κ : Type} [DecidableEq κ] {kvs : List (κ × V)} {k : κ} {v : V} : putK kvs k v ≠ [] := by
  unfold putK
  split
  · rename_i h
    intro z
    have : kvs = [] := by simpa using z
    subst this
    simp at h
  · simp
def putAll {κ : Type} [DecidableEq κ] (kvs qs : List (κ × V)) : List (κ × V) := qs.foldl (fun acc q => putK acc q.1 q.2) kvs
theorem puts_rp {κ : Type} [DecidableEq κ] {N : Zn} {H : Hp} (enc : κ → PD.D) (hq : ∀ a b, PyData.eqv (enc a) (enc b) = decide (a = b)) : ∀ {qs kvs : List (κ × V)} {ds : List PD.D} {ps : List (D × D)}, RpAll N H (kvs.map (·.2)) ds → ps.map (·.1) = qs.map (fun q => enc q.1) → RpAll N H (qs.map (·.2)) (ps.map (·.2)) →
    ∃ es, RpAll N H ((putAll kvs qs).map (·.2)) es ∧ dputs ((kvs.map fun p => enc p.1).zip ds) ps = ((putAll kvs qs).map fun p => enc p.1).zip es
  | [], kvs, ds, [], r, _, _ => ⟨ds, r, rfl⟩
  | q :: qs, kvs, ds, p :: ps, r, hk, hv => by
    simp only [List.map_cons, List.cons.injEq] at hk
    cases hv with
    | cons v1 vs =>
      obtain ⟨es, re, he⟩ := put_rp enc hq q.1 v1 r
      obtain ⟨es', re', he'⟩ := puts_rp enc hq (qs := qs) (ps := ps) re hk.2 vs
      refine ⟨es', re', ?_⟩
      show dputs (dput _ p.1 p.2) ps = _
      rw [hk.1, he, he']; rfl
  | [], _, _, _ :: _, _, hk, _ => by simp at hk
  | _ :: _, _, _, [], _, hk, _ => by simp at hk
theorem putAll_len {κ : Type} [DecidableEq κ] : ∀ (qs kvs : List (κ × V)), (putAll kvs qs).length ≤ kvs.length + qs.length
  | [], _ => Nat.le_refl _
  | q :: qs, kvs => by
    have h1 := putAll_len qs (putK kvs q.1 q.2)
    have h2 := length_putK kvs q.1 q.2
    show (putAll (putK kvs q.1 q.2) qs).length ≤ _
    simp only [List.length_cons]; omega
/-- pairs in tuples, keys of one sort -/
inductive KPs (N : Zn) (H : Hp) : List Addr → List (Key × V) → List (D × D) → Prop
  | nil : KPs N H [] [] []
  | cons {A k v x As qs ps} : H A = some (.tup [kV k, v]) → Rp N H v x → KPs N H As qs ps → KPs N H (A :: As) ((k, v) :: qs) ((keyD k, x) :: ps)
inductive TPs (N : Zn) (H : Hp) : List Addr → List Addr → List (List Key × V) → List (D × D) → Prop
  | nil : TPs N H [] [] [] []
  | cons {A b k v x As bs qs ps} : H A = some (.tup [.ref b, v]) → H b = some (.tup (k.map kV)) → Rp N H v x → TPs N H As bs qs ps → TPs N H (A :: As) (b :: bs) ((k, v) :: qs) ((tkeyD k, x) :: ps)
theorem kps_of {N : Zn} {H : Hp} : ∀ {vs : List V} {xs : List D} {ps : List (D × D)}, RpAll N H vs xs → pairsD xs = some ps → ps.all (fun p => isKey1 p.1) = true → ∃ As qs, vs = As.map V.ref ∧ KPs N H As qs ps
  | [], [], ps, _, h, _ => by cases h; exact ⟨[], [], rfl, .nil⟩
  | v :: vs, x :: xs, ps, .cons r rs, h, ha => by
    unfold pairsD at h
    split at h
    · rename_i e; cases e
    · rename_i k y r' e
      cases e
      obtain ⟨ps', h', rfl⟩ := Option.map_eq_some_iff.mp h
      rw [List.all_cons, Bool.and_eq_true] at ha
      obtain ⟨As, qs, e, t⟩ := kps_of rs h' ha.2
      obtain ⟨a, us, rfl, hA, ru⟩ := (RpB.of r).tup_of
      cases ru with
      | cons r1 ru => cases ru with
        | cons r2 ru => cases ru with
          | nil =>
            obtain ⟨k', rfl⟩ := key1_of ha.1
            cases Rp.key (.of r1)
            exact ⟨a :: As, _, by simp [e], .cons hA r2 t⟩
    · cases h
theorem tps_of {N : Zn} {H : Hp} : ∀ {vs : List V} {xs : List D} {ps : List (D × D)}, RpAll N H vs xs → pairsD xs = some ps → ps.all (fun p => isTk p.1) = true → ∃ As bs qs, vs = As.map V.ref ∧ TPs N H As bs qs ps
  | [], [], ps, _, h, _ => by cases h; exact ⟨[], [], [], rfl, .nil⟩
  | v :: vs, x :: xs, ps, .cons r rs, h, ha => by
    unfold pairsD at h
    split at h
    · rename_i e; cases e
    · rename_i k y r' e
      cases e
      obtain ⟨ps', h', rfl⟩ := Option.map_eq_some_iff.mp h
      rw [List.all_cons, Bool.and_eq_true] at ha
      obtain ⟨As, bs, qs, e, t⟩ := tps_of rs h' ha.2
      obtain ⟨a, us, rfl, hA, ru⟩ := (RpB.of r).tup_of
      cases ru with
      | cons r1 ru => cases ru with
        | cons r2 ru => cases ru with
          | nil =>
            obtain ⟨ks, rfl⟩ : ∃ ks, k = tkeyD ks := by
              have h1 := ha.1
              unfold isTk at h1
              split at h1
              · rename_i hk
                obtain ⟨ks, e⟩ := key1s_of h1
                exact ⟨ks, (show k = _ from hk).trans (by rw [e]; rfl)⟩
              · cases h1
            obtain ⟨b, rfl, hb⟩ := Rp.tkey (.of r1)
            exact ⟨a :: As, b :: bs, _, by simp [e], .cons hA hb r2 t⟩
    · cases h
theorem KPs.facts {N : Zn} {H : Hp} {K : PySem.W.Frag} : ∀ {As : List Addr} {qs : List (Key × V)} {ps : List (D × D)}, KPs N H As qs ps → Paired (fun p kv => SqT K H p [kV kv.1, kv.2]) As qs ∧ ps.map (·.1) = qs.map (fun q => keyD q.1) ∧ RpAll N H (qs.map (·.2)) (ps.map (·.2))
  | _, _, _, .nil => ⟨.nil, rfl, .nil⟩
  | _, _, _, .cons h r t => ⟨.cons (SqT.of h) (KPs.facts t).1, by simp [(KPs.facts (K := K) t).2.1], .cons r (KPs.facts (K := K) t).2.2⟩
section
variable {X : Cx}
theorem TPs.facts {N : Zn} {H : Hp} {pins : List (Addr × Obj)} {σ : L2.St} {s : Shared} (I : L2.Inv X pins σ H s) : ∀ {As bs : List Addr} {qs : List (List Key × V)} {ps : List (D × D)}, TPs N H As bs qs ps →
    ps.map (·.1) = qs.map (fun q => tkeyD q.1) ∧ RpAll N H (qs.map (·.2)) (ps.map (·.2)) ∧ ∃ prs : List (List Key × Addr × Value), KT H qs prs ∧ prs.length = As.length ∧ ∀ (j : Nat) (k : List Key) (b : Addr) (u : Value), prs[j]? = some (k, b, u) → ∃ A : Addr, As[j]? = some A ∧ s.heap.IsTuple A #[.ref b, u]
  | _, _, _, _, .nil => ⟨rfl, .nil, [], .nil, rfl, fun j k b u h => by simp at h⟩
  | _, _, _, _, .cons (A := A) (b := b) (k := k) (v := v) h1 h2 r t => by
    obtain ⟨e1, e2, prs, kt, hl, hp⟩ := TPs.facts I t
    obtain ⟨its, rv, ht, _⟩ := I.tuple (SqT.of h1)
    obtain ⟨u0, u, rfl, r1, r2⟩ := L2.Vals.two rv
    cases r1
    refine ⟨by simp [e1], .cons r e2, (k, b, u) :: prs, .cons ⟨rfl, h2, r2⟩ kt, by simp [hl], fun j k' b' u' hj => ?_⟩
    cases j with
    | zero => cases hj; exact ⟨A, rfl, ht⟩
    | succ j =>
      obtain ⟨A', ha, hA⟩ := hp j k' b' u' (by simpa using hj)
      exact ⟨A', by simpa using ha, hA⟩
theorem KT.all {H : Hp} : ∀ {qs kvs : List (List Key × V)} {prs xs : List (List Key × Addr × Value)}, KT H kvs xs → KT H qs prs → KT H (putAll kvs qs) (storedAllH xs prs)
  | _, _, _, _, r, .nil => r
  | _, _, _, _, r, .cons (a := q) (b := p) h t => by
    obtain ⟨e1, e2, e3⟩ := h
    have := KT.put r q.1 e2 e3
    rw [show q.1 = p.1 from e1] at this
    show KT H (putAll (putK _ q.1 q.2) _) (storedAllH (storedH _ p.1 p.2.1 p.2.2) _)
    rw [show q.1 = p.1 from e1]
    exact KT.all this t
theorem mergeK_putAll (qs kvs : List (Key × V)) : mergeK kvs qs = putAll kvs qs := rfl
theorem pr_dictOf (hc : X.calm = true) (hu : X.A.units + 64 < cLine) : PrR X .dictOf (.type "dict") := by
  intro pins s σ H xs us Q I r h
  obtain ⟨S, N, ds, d, f, rb, hp, o⟩ := h
  unfold primD at hp
  split at hp <;> (try (rename_i e; cases e)) <;> (try cases hp)
  obtain ⟨ps, hps, hp⟩ := Option.bind_eq_some_iff.mp hp
  obtain ⟨x, rfl, q⟩ := rb.one
  obtain ⟨a, vs, rfl, ha, rr⟩ := q.list_of
  split at hp
  · rename_i hk
    cases hp
    by_cases hk1 : ps.all (fun p => isKey1 p.1) = true
    · obtain ⟨As, qs, rfl, t⟩ := kps_of rr hps hk1
      obtain ⟨t1, t2, t3⟩ := t.facts (K := X.K)
      obtain ⟨es, re, he⟩ := puts_rp keyD keyD_eqv (kvs := []) (ds := []) .nil t2 t3
      refine call_dictP hc pins s σ H _ us Q I r ⟨a, As, qs, rfl, SqL.of ha, t1, fun p hp => ?_⟩
      have he' : dputs [] ps = _ := he
      rw [he'] at o
      exact o _ _ (Ext.new hp) (.dK (f.ne hp) upd_same (re.ext (Ext.new hp) f)) fun _ _ => ⟨p, rfl, hp, .dK upd_same (re.move (Ext.new hp) f fun b z => z.elim .inl fun z => .inr (z ▸ hp))⟩
    · have hk2 : ps.all (fun p => isTk p.1) = true := by
        rw [Bool.or_eq_true] at hk
        exact hk.resolve_left hk1
      obtain ⟨As, bs, qs, rfl, t⟩ := tps_of rr hps hk2
      obtain ⟨t2, t3, prs, kt, hl, hA⟩ := t.facts I
      obtain ⟨u, rfl, rx⟩ := r.one
      cases rx
      obtain ⟨its, rv, pl, hz⟩ := I.list (SqL.of (K := X.K) ha)
      have ei := refs_at rv
      subst ei
      rw [List.length_map] at hz
      have hne : ps ≠ [] := fun z => by subst z; exact hk1 rfl
      have hprs : prs ≠ [] := fun z => by
        subst z
        cases kt
        cases ps with
        | nil => exact hne rfl
        | cons p ps => simp at t2
      let pr : List (Value × Value) := prs.map fun x => (.ref x.2.1, x.2.2)
      have hpl : pr.length = As.length := by simp [pr, hl]
      have hpr : ∀ (i : Nat) (key v : Value), pr[i]? = some (key, v) → ∃ k b, prs[i]? = some (k, b, v) ∧ key = .ref b := fun i key v hi => by
        simp only [pr, List.getElem?_map] at hi
        obtain ⟨⟨k, b, u⟩, h1, h2⟩ := Option.map_eq_some_iff.mp hi
        cases h2
        exact ⟨k, b, h1, rfl⟩
      have kin : ∀ x ∈ prs, H x.2.1 = some (.tup (x.1.map kV)) := by
        have : ∀ {qs : List (List Key × V)} {prs : List (List Key × Addr × Value)}, KT H qs prs → ∀ x ∈ prs, H x.2.1 = some (.tup (x.1.map kV)) := by
          intro qs prs kt
          induction kt with
          | nil => intro x hx; cases hx
          | cons h t ih =>
            intro x hx
            rcases List.mem_cons.mp hx with rfl | hx
            · obtain ⟨e1, e2, _⟩ := h
              rw [← e1]; exact e2
            · exact ih x hx
        exact this kt
      refine call_dict_pairsH (knd := tupleKind (mixKind X.prog X.w)) (ps := prs) (PairArg.list a (As.map Value.ref).toArray (fun j => As.getD j 0) pr) (I.ok.hd hc) (by show X.A.units + 1 + 1 < cLine; omega) ⟨pl, ?_, fun j k v hj => ?_⟩ ⟨by simp [pr], hpr⟩ (fun h' hk' x hx => ?_) (by rw [hpl]; exact hz) fun h' tk hd' hkeep => ?_
      · simp [hpl]
      · obtain ⟨k', b, h1, rfl⟩ := hpr j k v hj
        obtain ⟨A, hA1, hA2⟩ := hA j k' b v h1
        refine ⟨?_, ?_⟩
        · simp [hA1, List.getD]
        · show PairAt s.heap (As.getD j 0) _ _
          rw [show As.getD j 0 = A by simp [List.getD, hA1]]
          exact .inl hA2
      · obtain ⟨o', its', n', h1, h2⟩ := key_of (ks := x.1) I.hok (kin x hx)
        exact ⟨o', its', n', hk' _ _ (Nat.ne_of_lt (Heap.lt_size h1)) (by simp) h1, h2⟩
      · obtain ⟨es, re, he⟩ := puts_rp tkeyD tkeyD_eqv (kvs := []) (ds := []) .nil t2 t3
        have he' : dputs [] ps = _ := he
        rw [he'] at o
        have hp := I.hok.fresh (Nat.le_refl s.heap.objs.size)
        have hm : (s.heap.objs.size == sysModules) = false := beq_eq_false_iff_ne.mpr (Nat.ne_of_gt I.big)
        have kt2 : KT H (putAll [] qs) (storedAllH [] prs) := KT.all .nil kt
        have hqs : qs ≠ [] := fun z => by subst z; cases kt; exact hprs rfl
        have hne2 : putAll [] qs ≠ [] := by
          intro z
          have e2 := re.length
          rw [z] at e2 he'
          have hz2 : dputs [] ps = [] := by rw [he']; simp
          have key : ∀ (ps acc : List (D × D)), dputs acc ps = [] → ps = [] := by
            intro ps
            induction ps with
            | nil => intro acc _; rfl
            | cons p ps ih =>
              intro acc h
              have := ih _ (show dputs (dput acc p.1 p.2) ps = [] from h)
              subst this
              have h : dput acc p.1 p.2 = [] := h
              unfold dput at h
              split at h
              · rename_i hh
                have : acc = [] := by simpa using h
                subst this; simp at hh
              · simp at h
          exact hne (key _ _ hz2)
        have ob : ObjOk X.prog X.w (upd H s.heap.objs.size (.dT (putAll [] qs))) h' s.heap.objs.size (.dT (putAll [] qs)) := by
          obtain ⟨q, ents, ep, g1, g2, g3, g4, _, g5⟩ := hd'
          refine ⟨?_, hm, storedAllH [] prs, kt2.keeps fun b ys e => ?_, q, ents, ep, g1, g2, g3, g4, g5⟩
          · have h1 := putAll_len qs ([] : List (List Key × V))
            have h2 : qs.length = prs.length := Paired.length kt
            simp only [List.length_nil, Nat.zero_add] at h1
            omega
          · rw [upd_ne (ne_of_none e hp)]; exact e
        refine ⟨.ref s.heap.objs.size, _, I.laid (t' := tk) (fun b q e => hkeep b q (by simp) e) (Nat.le_refl _) ob, rfl, ?_⟩
        exact o _ _ (Ext.new hp) (.dT (f.ne hp) hne2 upd_same (re.ext (Ext.new hp) f)) fun _ _ => ⟨_, rfl, hp, .dT hne2 upd_same (re.move (Ext.new hp) f fun b z => z.elim .inl fun z => .inr (z ▸ hp))⟩
  · cases hp
end
end PD
/-! PDk: targets, what is walked, list comprehensions. -/
namespace PD
open PySem L2

section
variable {S : Src} {P P' : Zn} {ρ ρ' : Nv} {σ σ' : L2.St} {H H' H1 : Hp} {N N' : Zn}
theorem own_wipe : ∀ {vs : List Nat} {a : Addr}, OwnAt (wipeN ρ vs) (wipe σ vs) a → OwnAt ρ σ a
  | vs, a, ⟨i, d, h1, h2⟩ => ⟨i, d, by
      induction vs with
      | nil => exact h1
      | cons v vs ih =>
        have h2' := (wipe_some (vs := v :: vs) h2)
        simp only [List.mem_cons, not_or] at h2'
        have e : (wipeN ρ (v :: vs))[i]? = (wipeN ρ vs)[i]? := by
          show ((wipeN ρ vs).set v none)[i]? = _
          rw [List.getElem?_set_ne (Ne.symm h2'.2.1)]
        rw [e] at h1
        have e2 : (wipe σ (v :: vs))[i]? = (wipe σ vs)[i]? := by
          show ((wipe σ vs).set v none)[i]? = _
          rw [List.getElem?_set_ne (Ne.symm h2'.2.1)]
        rw [e2] at h2
        exact ih h1 h2, (wipe_some h2).1⟩
theorem wipeN_length (ρ : Nv) : ∀ vs : List Nat, (wipeN ρ vs).length = ρ.length
  | [] => rfl
  | v :: vs => by unfold wipeN; rw [List.length_set, wipeN_length ρ vs]
theorem wipeN_some {i : Nat} {b : B} : ∀ {vs : List Nat}, (wipeN ρ vs)[i]? = some (some b) → ρ[i]? = some (some b) ∧ i ∉ vs
  | [], h => ⟨h, by simp⟩
  | v :: vs, h => by
    unfold wipeN at h
    by_cases hi : v = i
    · subst hi
      by_cases hv : v < (wipeN ρ vs).length
      · rw [List.getElem?_set_self hv] at h; cases h
      · rw [List.getElem?_eq_none (by simpa using hv)] at h; cases h
    · rw [List.getElem?_set_ne hi] at h
      obtain ⟨h1, h2⟩ := wipeN_some h
      exact ⟨h1, by simp only [List.mem_cons, not_or]; exact ⟨fun e => hi e.symm, h2⟩⟩
theorem wipe_keep {i : Nat} : ∀ {vs : List Nat}, i ∉ vs → (wipe σ vs)[i]? = σ[i]?
  | [], _ => rfl
  | v :: vs, h => by
    simp only [List.mem_cons, not_or] at h
    show ((wipe σ vs).set v none)[i]? = _
    rw [List.getElem?_set_ne (Ne.symm h.1)]
    exact wipe_keep h.2
theorem Rel.shrink (R : Rel S P ρ σ H) (vs : List Nat) : Rel S P (wipeN ρ vs) (L2.wipe σ vs) H := by
  have hN : ∀ a, Nn P (wipeN ρ vs) (L2.wipe σ vs) a → Nn P ρ σ a := fun a h => h.elim .inl fun q => .inr (own_wipe q)
  refine ⟨by rw [wipeN_length, wipe_length]; exact R.len, R.sub, R.fitP, R.inv, fun i d h => ?_, fun i d h => ?_, fun i j d e' a h1 h2 h3 h4 => R.dis i j d e' a (wipeN_some h1).1 (wipeN_some h2).1 (wipe_some h3).1 (wipe_some h4).1, fun i h => ?_⟩
  · obtain ⟨h1, h2⟩ := wipeN_some h
    obtain ⟨v, q, r⟩ := R.sh i d h1
    exact ⟨v, by rw [wipe_keep h2]; exact q, r.less hN⟩
  · obtain ⟨h1, h2⟩ := wipeN_some h
    obtain ⟨a, q, l, r, n⟩ := R.own i d h1
    exact ⟨a, by rw [wipe_keep h2]; exact q, l, r.less hN, n⟩
  · obtain ⟨h1, h2⟩ := wipeN_some h
    rw [wipe_keep h2]; exact R.src i h1
theorem own_free {vs : List Nat} (hf : free ρ vs = true) {a : Addr} (h : OwnAt ρ σ a) : OwnAt (wipeN ρ vs) (L2.wipe σ vs) a := by
  obtain ⟨i, d, h1, h2⟩ := h
  have hi : i ∉ vs := fun z => by
    have := List.all_eq_true.mp hf i z
    rw [h1] at this
    cases this
  refine ⟨i, d, ?_, by rw [wipe_keep hi]; exact h2⟩
  clear hf
  induction vs with
  | nil => exact h1
  | cons v vs ih =>
    simp only [List.mem_cons, not_or] at hi
    show ((wipeN ρ vs).set v none)[i]? = _
    rw [List.getElem?_set_ne (Ne.symm hi.1)]
    exact ih hi.2
/-- a new place is kept away -/
theorem Rel.prot (R : Rel S P ρ σ H) {p : Addr} {o : HO} (hp : H p = none) (m : Mut (some o)) : Rel S (fun a => P a ∨ a = p) ρ σ (upd H p o) := by
  have hN : ∀ a, Nn (fun a => P a ∨ a = p) ρ σ a → Nn P ρ σ a ∨ H a = none := fun a h => by
    rcases h with (h | h) | h
    · exact .inl (.inl h)
    · exact .inr (h ▸ hp)
    · exact .inl (.inr h)
  have e : Ext (Nn P ρ σ) H (upd H p o) := Ext.new hp
  refine ⟨R.len, fun a h => .inl (R.sub a h), ⟨fun a h => ?_⟩, S.ext R.inv (Ext.new hp), fun i d h => ?_, fun i d h => ?_, R.dis, R.src⟩
  · rcases h with h | rfl
    · obtain ⟨q, h1, h2⟩ := R.fitP.dom a h
      exact ⟨q, by rw [upd_ne (ne_of_none h1 hp)]; exact h1, h2⟩
    · exact ⟨o, upd_same, m⟩
  · obtain ⟨v, q, r⟩ := R.sh i d h
    exact ⟨v, q, r.move e R.fit hN⟩
  · obtain ⟨a, q, l, r, n⟩ := R.own i d h
    refine ⟨a, q, l, r.move e R.fit hN (fun b o' eb hb => by rw [upd_ne (ne_of_none hb hp)]; exact hb), fun z => ?_⟩
    rcases z with z | z
    · exact n z
    · obtain ⟨o', ho', _⟩ := r.list_at l
      rw [z, hp] at ho'; cases ho'
/-- what is kept away may change -/
theorem Rel.extP (R : Rel S P ρ σ H) {M : Zn} (hM : ∀ a, M a → P a) (e : Ext M H H') (i : S.inv H') (f : Fit P H') : Rel S P ρ σ H' where
  len := R.len
  sub := R.sub
  fitP := f
  inv := i
  sh := fun j d h => by
    obtain ⟨v, q, r⟩ := R.sh j d h
    exact ⟨v, q, r.ext (e.mono fun a z => .inl (hM a z)) R.fit⟩
  own := fun j d h => by
    obtain ⟨a, q, l, r, n⟩ := R.own j d h
    exact ⟨a, q, l, r.extA R.fit (e.mono fun a z => .inl (hM a z)) (fun b o eb hb => by cases eb; exact e _ o hb fun z => n (hM _ z)), n⟩
  dis := R.dis
  src := R.src

/-! ### targets -/
theorem own_set {i : Nat} {d : D} {v : V} {a : Addr} (h : OwnAt (ρ.set i (some (.sh d))) (σ.set i (some v)) a) : OwnAt ρ σ a := by
  obtain ⟨j, e, h1, h2⟩ := h
  by_cases hj : i = j
  · subst hj
    by_cases hl : i < ρ.length
    · rw [List.getElem?_set_self hl] at h1; cases h1
    · rw [List.getElem?_eq_none (by simpa using hl)] at h1; cases h1
  · rw [List.getElem?_set_ne hj] at h1 h2
    exact ⟨j, e, h1, h2⟩
theorem Rel.set (R : Rel S P ρ σ H) (i : Nat) {v : V} {d : D} (r : Rp (Nn P ρ σ) H v d) : Rel S P (ρ.set i (some (.sh d))) (σ.set i (some v)) H := by
  have hN : ∀ a, Nn P (ρ.set i (some (.sh d))) (σ.set i (some v)) a → Nn P ρ σ a := fun a h => h.elim .inl fun q => .inr (own_set q)
  have key : ∀ (j : Nat) (b : B), i ≠ j → (ρ.set i (some (.sh d)))[j]? = some (some b) → ρ[j]? = some (some b) := fun j b hj h => by rwa [List.getElem?_set_ne hj] at h
  have ne : ∀ (j : Nat) (e : D), (ρ.set i (some (.sh d)))[j]? = some (some (.own e)) → i ≠ j := fun j e h z => by
    subst z
    by_cases hl : i < ρ.length
    · rw [List.getElem?_set_self hl] at h; cases h
    · rw [List.getElem?_eq_none (by simpa using hl)] at h; cases h
  refine ⟨by simp [R.len], R.sub, R.fitP, R.inv, fun j e h => ?_, fun j e h => ?_, fun j k e f a h1 h2 h3 h4 => ?_, fun j h => ?_⟩
  · by_cases hj : i = j
    · subst hj
      have hl : i < ρ.length := by
        by_cases hl : i < ρ.length
        · exact hl
        · rw [List.getElem?_eq_none (by simpa using hl)] at h; cases h
      rw [List.getElem?_set_self hl] at h
      cases h
      exact ⟨v, by rw [List.getElem?_set_self (by rw [← R.len]; exact hl)], r.less hN⟩
    · obtain ⟨w, q, rw'⟩ := R.sh j e (key j _ hj h)
      exact ⟨w, by rw [List.getElem?_set_ne hj]; exact q, rw'.less hN⟩
  · have hj := ne j e h
    obtain ⟨a, q, l, rw', n⟩ := R.own j e (key j _ hj h)
    exact ⟨a, by rw [List.getElem?_set_ne hj]; exact q, l, rw'.less hN, n⟩
  · have hj := ne j e h1
    have hk := ne k f h2
    rw [List.getElem?_set_ne hj] at h1 h3
    rw [List.getElem?_set_ne hk] at h2 h4
    exact R.dis j k e f a h1 h2 h3 h4
  · by_cases hj : i = j
    · subst hj
      by_cases hl : i < ρ.length
      · rw [List.getElem?_set_self hl] at h; cases h
      · rw [List.getElem?_eq_none (by simpa using hl)] at h; cases h
    · rw [List.getElem?_set_ne hj]; exact R.src j (key j _ hj h)
/-- which slots may be another's behind a target -/
def Sto (vs : List Nat) (ρ ρ' : Nv) (σ σ' : L2.St) : Prop := ∀ i, i ∉ vs → ρ'[i]? = ρ[i]? ∧ σ'[i]? = σ[i]?
theorem Sto.refl {vs : List Nat} : Sto vs ρ ρ σ σ := fun _ _ => ⟨rfl, rfl⟩
theorem Sto.trans {vs ws : List Nat} {ρ2 : Nv} {σ2 : L2.St} (a : Sto vs ρ ρ' σ σ') (b : Sto ws ρ' ρ2 σ' σ2) : Sto (vs ++ ws) ρ ρ2 σ σ2 := fun i h => by
  simp only [List.mem_append, not_or] at h
  exact ⟨(b i h.2).1.trans (a i h.1).1, (b i h.2).2.trans (a i h.1).2⟩
theorem wipe_at {i : Nat} : ∀ {vs : List Nat}, i ∈ vs → i < σ.length → (L2.wipe σ vs)[i]? = some none
  | v :: vs, h, hl => by
    show ((L2.wipe σ vs).set v none)[i]? = _
    by_cases e : v = i
    · subst e; rw [List.getElem?_set_self (by rw [wipe_length]; exact hl)]
    · rw [List.getElem?_set_ne e]
      exact wipe_at ((List.mem_cons.mp h).resolve_left (Ne.symm e)) hl
theorem Sto.wipe {vs : List Nat} (h : Sto vs ρ ρ' σ σ') (hl : σ'.length = σ.length) : L2.wipe σ' vs = L2.wipe σ vs := by
  apply List.ext_getElem?
  intro i
  by_cases hi : i ∈ vs
  · by_cases hl2 : i < σ.length
    · rw [wipe_at hi hl2, wipe_at hi (by omega)]
    · rw [List.getElem?_eq_none (by rw [wipe_length]; omega), List.getElem?_eq_none (by rw [wipe_length]; omega)]
  · rw [wipe_keep hi, wipe_keep hi, (h i hi).2]
theorem Sto.own {vs : List Nat} (h : Sto vs ρ ρ' σ σ') (hf : free ρ vs = true) {a : Addr} (o : OwnAt ρ σ a) : OwnAt ρ' σ' a := by
  obtain ⟨i, d, h1, h2⟩ := o
  have hi : i ∉ vs := fun z => by
    have := List.all_eq_true.mp hf i z
    rw [h1] at this
    cases this
  exact ⟨i, d, by rw [(h i hi).1]; exact h1, by rw [(h i hi).2]; exact h2⟩
/-- a target's reading -/
def tG (g : G) : TG := fun v σ H Q => ∃ S P ρ d ρ', Rel S P ρ σ H ∧ Rp (Nn P ρ σ) H v d ∧ asg g d ρ = some ρ' ∧ ∀ σ', Rel S P ρ' σ' H → Sto (gSlots g) ρ ρ' σ σ' → (∀ a, Nn P ρ' σ' a → Nn P ρ σ a) → Q σ' H
def tGs (gs : List G) : TGs := fun vs σ H Q => ∃ S P ρ ds ρ', Rel S P ρ σ H ∧ RpAll (Nn P ρ σ) H vs ds ∧ asgs gs ds ρ = some ρ' ∧ ∀ σ', Rel S P ρ' σ' H → Sto (gsSlots gs) ρ ρ' σ σ' → (∀ a, Nn P ρ' σ' a → Nn P ρ σ a) → Q σ' H
end
section
variable {X : Cx}
theorem PG.weak {x : PySem.Expr} {t t' : TG} (h : PG X x t) (w : ∀ v σ H Q, t' v σ H Q → t v σ H Q) : PG X x t' := ⟨fun pins s σ H v u Q I r q => h.run pins s σ H v u Q I r (w v σ H Q q)⟩
theorem PGs.weak {x : List PySem.Expr} {t t' : TGs} (h : PGs X x t) (w : ∀ v σ H Q, t' v σ H Q → t v σ H Q) : PGs X x t' := ⟨fun pins s σ H v u Q I r q => h.run pins s σ H v u Q I r (w v σ H Q q)⟩
theorem assignEach_cons (e : PySem.Expr) (es : List PySem.Expr) (env : PySem.Env) (h : notStar e = true) : (assignEach (e :: es) env).map (·.2) = assign e env :: (assignEach es env).map (·.2) := by
  cases e <;> first | rfl | cases h
theorem chkG_star {N : List Str} {sc : Scope} {own : Str → Bool} {g : G} {x : PySem.Expr} (h : chkG N sc own g x = true) : notStar x = true := by
  cases g <;> cases x <;> first | rfl | (unfold chkG at h; cases h)
theorem chkGs_shape {N : List Str} {sc : Scope} {own : Str → Bool} {env : PySem.Env} : ∀ {gs : List G} {xs : List PySem.Expr}, chkGs N sc own gs xs = true → (assignEach xs env).length = gs.length ∧ (assignEach xs env).findIdx? (·.1) = none
  | [], [], _ => ⟨rfl, rfl⟩
  | g :: gs, x :: xs, h => by
    unfold chkGs at h
    rw [Bool.and_eq_true] at h
    obtain ⟨h1, h2⟩ := chkGs_shape (env := env) h.2
    have hs := chkG_star h.1
    have e : assignEach (x :: xs) env = (false, assign x env) :: assignEach xs env := by cases x <;> first | rfl | cases hs
    rw [e]
    refine ⟨by simp [h1], ?_⟩
    rw [List.findIdx?_cons]
    simp [h2]
  | [], _ :: _, h => by unfold chkGs at h; cases h
  | _ :: _, [], h => by unfold chkGs at h; cases h
theorem asgs_len {ρ ρ' : Nv} : ∀ {gs : List G} {ds : List D}, asgs gs ds ρ = some ρ' → ds.length = gs.length
  | [], [], _ => rfl
  | g :: gs, d :: ds, h => by
    unfold asgs at h
    obtain ⟨ρ1, _, e2⟩ := Option.bind_eq_some_iff.mp h
    simp [asgs_len e2]
  | [], _ :: _, h => by unfold asgs at h; cases h
  | _ :: _, [], h => by unfold asgs at h; cases h
theorem PG.or {x : PySem.Expr} {t t' : TG} (h : PG X x t) (h' : PG X x t') : PG X x (fun v σ H Q => t v σ H Q ∨ t' v σ H Q) := ⟨fun pins s σ H v u Q I r q => q.elim (h.run pins s σ H v u Q I r) (h'.run pins s σ H v u Q I r)⟩
mutual
theorem okG {own : Str → Bool} (hN : X.N.Nodup) (hc : X.calm = true) (ho : ∀ x, own x = true → X.fn x = true ∨ X.env.scope.names.lookup x = some .local) : ∀ (g : G) (x : PySem.Expr), chkG X.N X.env.scope own g x = true → PG X x (tG g)
  | .v i, .Name x p, h => by
    unfold chkG at h
    simp only [Bool.and_eq_true, decide_eq_true_eq] at h
    have h2 := h.1.2
    unfold locB at h2
    have hl : L2.Loc X.env.scope x := by
      unfold L2.Loc
      split at h2 <;> first | exact .inl (by assumption) | exact .inr (by assumption) | cases h2
    refine PG.weak (pg_name (i := i) hN h.1.1 hl (ho x h.2)) fun v σ H Q ⟨S, P, ρ, d, ρ', R, r, e, q⟩ => ?_
    unfold asg at e
    cases e
    refine q _ (R.set i r) (fun j hj => ?_) fun a z => z.elim .inl fun q => .inr (own_set q)
    have : i ≠ j := fun z => hj (by simp [gSlots, z])
    exact ⟨List.getElem?_set_ne this, List.getElem?_set_ne this⟩
  | .tup gs, .Tuple es k p, h => by
    unfold chkG at h
    obtain ⟨s1, s2⟩ := chkGs_shape (env := X.env) h
    have hh := okGs hN hc ho gs es h
    refine PG.weak (PG.or (pg_tup (k := k) (pos := p) (n := gs.length) hc hh s1 s2) (pg_unl (k := k) (pos := p) (n := gs.length) hc hh s1 s2)) fun v σ H Q ⟨S, P, ρ, d, ρ', R, r, e, q⟩ => ?_
    cases d with
    | tuple ds =>
      unfold asg at e
      obtain ⟨a, xs, rfl, ha, rr⟩ := (RpB.of r).tup_of
      exact .inl ⟨a, xs, rfl, SqT.of ha, by rw [rr.length]; exact asgs_len e, S, P, ρ, ds, ρ', R, rr, e, q⟩
    | list ds =>
      unfold asg at e
      obtain ⟨a, xs, rfl, ha, rr⟩ := (RpB.of r).list_of
      exact .inr ⟨a, xs, rfl, SqL.of ha, by rw [rr.length]; exact asgs_len e, S, P, ρ, ds, ρ', R, rr, e, q⟩
    | none => unfold asg at e; cases e
    | bool _ => unfold asg at e; cases e
    | int _ => unfold asg at e; cases e
    | str _ => unfold asg at e; cases e
    | dict _ => unfold asg at e; cases e
theorem okGs {own : Str → Bool} (hN : X.N.Nodup) (hc : X.calm = true) (ho : ∀ x, own x = true → X.fn x = true ∨ X.env.scope.names.lookup x = some .local) : ∀ (gs : List G) (xs : List PySem.Expr), chkGs X.N X.env.scope own gs xs = true → PGs X xs (tGs gs)
  | [], [], h => PGs.weak pgs_nil fun v σ H Q ⟨S, P, ρ, d, ρ', R, r, e, q⟩ => by
    cases d with
    | nil => cases r; unfold asgs at e; cases e; exact ⟨rfl, q σ R Sto.refl fun a z => z⟩
    | cons _ _ => unfold asgs at e; cases e
  | g :: gs, x :: xs, h => by
    unfold chkGs at h
    rw [Bool.and_eq_true] at h
    refine PGs.weak (pgs_cons (okG hN hc ho g x h.1) (okGs hN hc ho gs xs h.2) (assignEach_cons x xs X.env (chkG_star h.1))) fun v σ H Q ⟨S, P, ρ, d, ρ', R, r, e, q⟩ => ?_
    cases d with
    | nil => unfold asgs at e; cases e
    | cons d ds =>
      cases r with
      | cons r1 rs =>
        unfold asgs at e
        obtain ⟨ρ1, e1, e2⟩ := Option.bind_eq_some_iff.mp e
        refine ⟨_, _, rfl, S, P, ρ, d, ρ1, R, r1, e1, fun σ1 R1 st1 n1 => ?_⟩
        refine ⟨S, P, ρ1, ds, ρ', R1, rs.less n1, e2, fun σ2 R2 st2 n2 => ?_⟩
        exact q σ2 R2 (st1.trans st2) fun a z => n1 a (n2 a z)
end
end
end PD
/-! PDl: walks, list comprehensions, calls. -/
namespace PD
open PySem L2 RZ

/-- J gives, from H1 on, what ds tells, while all but M stands -/
structure Wk (M N : Zn) (H1 : Hp) (J : L2.It) (ds : List D) : Prop where
  len : ds.length ≤ sizeLine
  go : ∀ i H d, Ext M H1 H → ds[i]? = some d → J.go i H
  yld : ∀ i H d x H', Ext M H1 H → ds[i]? = some d → J.yld i H x H' → Ext No H H' ∧ ∀ N', (∀ a, N' a → N a ∨ H1 a = none) → Rp N' H' x d
  stop : ∀ i H, Ext M H1 H → ds.length ≤ i → J.stop i H

section
variable {C : Calls} {X : Cx} {tb : List (Str × Nat)} {tg : PySem.Expr}
theorem PI.weak {x : PySem.Expr} {t t' : TI} (h : PI X tg x t) (w : ∀ σ H Q, t' σ H Q → t σ H Q) : PI X tg x t' := ⟨fun pins s σ H R I q => h.run pins s σ H R I (w σ H R q)⟩
theorem PI.or {x : PySem.Expr} {t t' : TI} (h : PI X tg x t) (h' : PI X tg x t') : PI X tg x (fun σ H Q => t σ H Q ∨ t' σ H Q) := ⟨fun pins s σ H R I q => q.elim (h.run pins s σ H R I) (h'.run pins s σ H R I)⟩
def tI (C : Calls) (b : Bool) (it : PD.It) : TI := fun σ H R => ∃ S P ρ Q0, Rel S P ρ σ H ∧ evi C b it ρ Q0 ∧ ∀ ds, Q0 ds → ∀ J H', Ext S.dom H H' → S.inv H' → Wk (if b = true then S.dom else Nn P ρ σ) (Nn P ρ σ) H' J ds → R J H'
theorem walks_list {K : PySem.W.Frag} {M N : Zn} {H : Hp} {a : Addr} {vs : List V} {ds : List D} (hl : ds.length ≤ sizeLine) (ha : H a = some (.lst vs)) (nM : ¬ M a) (r : RpAll N H vs ds) (f : Fit N H) (hM : ∀ b, M b → N b) : Wk M N H (Itl K a) ds where
  len := hl
  go := fun i H' d e h => by
    obtain ⟨v, hv, _⟩ := r.get' h
    exact ⟨vs, v, SqL.of (e _ _ ha nM), hv⟩
  yld := fun i H' d x H2 e h y => by
    obtain ⟨rfl, y⟩ := y
    have hv := y vs (SqL.of (e _ _ ha nM))
    obtain ⟨d', hd, rd⟩ := r.get hv
    rw [h] at hd; cases hd
    exact ⟨Ext.refl, fun N' hN => rd.move (e.mono hM) f hN⟩
  stop := fun i H' e h => ⟨vs, SqL.of (e _ _ ha nM), by rw [r.length]; exact h⟩
theorem walks_tup {K : PySem.W.Frag} {M N : Zn} {H : Hp} {a : Addr} {vs : List V} {ds : List D} (hl : ds.length ≤ sizeLine) (ha : H a = some (.tup vs)) (nM : ¬ M a) (r : RpAll N H vs ds) (f : Fit N H) (hM : ∀ b, M b → N b) : Wk M N H (Itt K a) ds where
  len := hl
  go := fun i H' d e h => by
    obtain ⟨v, hv, _⟩ := r.get' h
    exact ⟨vs, v, SqT.of (e _ _ ha nM), hv⟩
  yld := fun i H' d x H2 e h y => by
    obtain ⟨rfl, y⟩ := y
    have hv := y vs (SqT.of (e _ _ ha nM))
    obtain ⟨d', hd, rd⟩ := r.get hv
    rw [h] at hd; cases hd
    exact ⟨Ext.refl, fun N' hN => rd.move (e.mono hM) f hN⟩
  stop := fun i H' e h => ⟨vs, SqT.of (e _ _ ha nM), by rw [r.length]; exact h⟩
theorem rangeI_get {a b : Int} {i : Nat} {d : D} (h : (rangeI a b)[i]? = some d) : i < (b - a).toNat ∧ d = .int (a + i) := by
  unfold rangeI at h
  rw [List.getElem?_map] at h
  obtain ⟨j, hj, rfl⟩ := Option.map_eq_some_iff.mp h
  obtain ⟨h1, h2⟩ := List.getElem?_eq_some_iff.mp hj
  rw [List.length_range] at h1
  rw [List.getElem_range] at h2
  exact ⟨h1, by rw [h2]⟩
theorem walks_rng {M N : Zn} {H : Hp} {a b : Int} (h : RgOk a b) : Wk M N H (Itr a (b - a).toNat) (rangeI a b) where
  len := by
    unfold rangeI
    rw [List.length_map, List.length_range, sizeLine_eq]
    exact h.2.2.2.2
  go := fun i H' d e q => (rangeI_get q).1
  yld := fun i H' d x H2 e q y => by
    obtain ⟨rfl, rfl⟩ := y
    obtain ⟨_, rfl⟩ := rangeI_get q
    exact ⟨Ext.refl, fun _ _ => .int _⟩
  stop := fun i H' e q => by
    unfold rangeI at q
    rw [List.length_map, List.length_range] at q
    exact q
theorem pi_seq {R' : V → Hp → (L2.It → Hp → Prop) → Prop} {l : PySem.Expr} {tl : TE} (hl : PE X l tl)
    (hR : ∀ x H R, R' x H R → ∃ a, x = .ref a ∧ ((∃ xs, SqL X.K H a xs ∧ R (Itl X.K a) H) ∨ (∃ xs, SqT X.K H a xs ∧ R (Itt X.K a) H))) : PI X tg l (fun σ H R => tl σ H fun x H1 => R' x H1 R) := by
  refine ⟨fun pins s σ H R I h => ?_⟩
  refine thn (hl.run pins s σ H _ I h) fun v s1 ⟨x, H1, I1, r1, q1⟩ => ?_
  obtain ⟨a, rfl, ⟨xs, hq, q⟩ | ⟨xs, hq, q⟩⟩ := hR _ _ _ q1
  · cases r1
    obtain ⟨its, rv, p, hz⟩ := I1.list hq
    refine wpAny_pyIter_list p.isList ?_
    refine ⟨s1.heap.objs.size, [s1.heap.objs.size], _, _, H1, rfl, I1.kept (t' := s1.toks) fun b o e => Heap.get?_push_of_some _ e, turn_list a _, ⟨_, Heap.get?_push_size _ rfl, rfl, rfl⟩, fun b hb => ?_, q⟩
    have e : b = s1.heap.objs.size := by simpa using hb
    subst e
    exact I1.fpOk (Nat.le_refl _) (I1.hok.fresh (Nat.le_refl _))
  · cases r1
    obtain ⟨its, rv, p, hz⟩ := I1.tuple hq
    refine wpAny_pyIter_tuple (show s1.heap.IsTuple a its.toArray from p) ?_
    refine ⟨s1.heap.objs.size, [s1.heap.objs.size], _, _, H1, rfl, I1.kept (t' := s1.toks) fun b o e => Heap.get?_push_of_some _ e, turn_tuple a _, ⟨_, Heap.get?_push_size _ rfl, rfl, rfl⟩, fun b hb => ?_, q⟩
    have e : b = s1.heap.objs.size := by simpa using hb
    subst e
    exact I1.fpOk (Nat.le_refl _) (I1.hok.fresh (Nat.le_refl _))
/-- what a walked value wants -/
def SeqR (x : V) (H : Hp) (R : L2.It → Hp → Prop) (K : PySem.W.Frag) : Prop := ∃ M N d ds, RpB N H x d ∧ ltD d = some ds ∧ Fit N H ∧ (∀ b, M b → N b) ∧ (∀ a, x = .ref a → ¬ M a) ∧ ds.length ≤ sizeLine ∧ ∀ J, Wk M N H J ds → R J H
theorem seqR_ok {K : PySem.W.Frag} {x : V} {H : Hp} {R : L2.It → Hp → Prop} (h : SeqR x H R K) : ∃ a, x = .ref a ∧ ((∃ xs, SqL K H a xs ∧ R (Itl K a) H) ∨ (∃ xs, SqT K H a xs ∧ R (Itt K a) H)) := by
  obtain ⟨M, N, d, ds, r, hd, f, hM, nM, hz, q⟩ := h
  cases d <;> simp only [ltD] at hd <;> cases hd
  · obtain ⟨a, xs, rfl, ha, rr⟩ := r.list_of
    exact ⟨a, rfl, .inl ⟨xs, SqL.of ha, q _ (walks_list hz ha (nM a rfl) rr f hM)⟩⟩
  · obtain ⟨a, xs, rfl, ha, rr⟩ := r.tup_of
    exact ⟨a, rfl, .inr ⟨xs, SqT.of ha, q _ (walks_tup hz ha (nM a rfl) rr f hM)⟩⟩
theorem seq_size {pins : List (Addr × Obj)} {s : Shared} {σ : L2.St} {H : Hp} {N : Zn} {v : V} {d : D} {ds : List D} (I : Inv X pins σ H s) (r : RpB N H v d) (hd : ltD d = some ds) : ds.length ≤ sizeLine := by
  cases d <;> simp only [ltD] at hd <;> cases hd
  · obtain ⟨a, xs, rfl, ha, rr⟩ := r.list_of
    obtain ⟨_, _, _, hz⟩ := I.list (SqL.of ha)
    rw [← rr.length]; exact hz
  · obtain ⟨a, xs, rfl, ha, rr⟩ := r.tup_of
    obtain ⟨_, _, _, hz⟩ := I.tuple (SqT.of ha)
    rw [← rr.length]; exact hz
/-- a list or tuple walked -/
theorem it_val (b : Bool) {e : E} {x : PySem.Expr} (hb : PE X x (tBo C e)) (he : PE X x (tE C e)) : PI X tg x (tI C b (.val e)) := by
  have szE : ∀ {t : TE}, PE X x t → PE X x (fun σ H Q => t σ H fun v H' => (∀ N d ds, RpB N H' v d → ltD d = some ds → ds.length ≤ sizeLine) → Q v H') := fun h =>
    ⟨fun pins s σ H Q I q => thn (h.run pins s σ H _ I q) fun u s1 ⟨v, H1, I1, r1, q1⟩ => ⟨v, H1, I1, r1, q1 fun N d ds r hd => seq_size I1 r hd⟩⟩
  cases b with
  | true =>
    refine PI.weak (pi_seq (szE hb) (R' := fun x H R => SeqR x H R X.K) fun x H R h => seqR_ok h) fun σ H R ⟨S, P, ρ, Q0, R', h, q⟩ => ?_
    refine ⟨S, P, ρ, _, R', h, fun d hd v H1 e1 i1 r1 sz => ?_⟩
    obtain ⟨ds, eds, q0⟩ := hd
    have R1 := R'.ext e1 i1
    exact ⟨S.dom, _, d, ds, r1.1, eds, R1.fit, R1.domN, r1.2, sz _ d ds r1.1 eds, fun J w => q ds q0 J H1 e1 i1 w⟩
  | false =>
    refine PI.weak (pi_seq (szE he) (R' := fun x H R => SeqR x H R X.K) fun x H R h => seqR_ok h) fun σ H R ⟨S, P, ρ, Q0, R', h, q⟩ => ?_
    refine ⟨S, P, ρ, _, R', h, fun d hd v H1 e1 i1 r1 _ sz => ?_⟩
    obtain ⟨ds, eds, q0⟩ := hd
    have R1 := R'.ext e1 i1
    refine ⟨Nn P ρ σ, _, d, ds, .of r1, eds, R1.fit, fun _ z => z, fun a ea z => ?_, sz _ d ds (.of r1) eds, fun J w => q ds q0 J H1 e1 i1 w⟩
    subst ea
    cases r1 with
    | lst n _ _ => exact n z
    | tup ha _ =>
      obtain ⟨o, ho, m⟩ := R1.fit.dom a z
      rw [ha] at ho; cases ho; exact m
    | dK n _ _ => exact n z
    | dT n _ _ _ => exact n z
theorem rngD_of {lo hi : D} {ds : List D} (h : rngD lo hi = some ds) : ∃ a b, lo = .int a ∧ hi = .int b ∧ RgOk a b ∧ ds = rangeI a b := by
  unfold rngD at h
  split at h
  · split at h <;> cases h
    exact ⟨_, _, rfl, rfl, by assumption, rfl⟩
  · cases h
theorem it_rng1 (b : Bool) {hi : E} {x : PySem.Expr} {p p2 : Pos} (hg : Gl X "range") (hm : X.mg "range" = none) (hs : notStar x = true) (h : PE X x (tE C hi)) : PI X tg (.Call (.Name "range" p) [x] [] p2) (tI C b (.rng .no hi)) := by
  have hst : starEach [x] X.env = [(false, eval x X.env)] := star_eq hs
  refine PI.weak (pi_range1 hg hm (pa_cons h pa_nil hst) hst) fun σ H R ⟨S, P, ρ, Q0, R', h, q⟩ => ?_
  refine ⟨S, P, ρ, _, R', h, fun d hd v H1 e1 i1 r1 _ => ?_⟩
  obtain ⟨ds, eds, q0⟩ := hd
  obtain ⟨a, c, ea, rfl, hr, rfl⟩ := rngD_of eds
  cases ea
  cases (RpB.of r1).int_of
  refine ⟨c, rfl, hr.2.2.1, hr.2.2.2.1, ?_⟩
  have w := q _ q0 (Itr 0 (c - 0).toNat) H1 e1 i1 (walks_rng hr)
  rwa [Int.sub_zero] at w
theorem it_rng2 (b : Bool) {lo hi : E} {x y : PySem.Expr} {p p2 : Pos} (hg : Gl X "range") (hm : X.mg "range" = none) (hs : notStar x = true) (hs2 : notStar y = true) (hl : PE X x (tE C lo)) (h : PE X y (tE C hi)) : PI X tg (.Call (.Name "range" p) [x, y] [] p2) (tI C b (.rng (.yes lo) hi)) := by
  have hst2 : starEach [y] X.env = [(false, eval y X.env)] := star_eq hs2
  have hst : starEach [x, y] X.env = [(false, eval x X.env), (false, eval y X.env)] := (star_eq hs).trans (by rw [hst2])
  refine PI.weak (pi_range2 hg hm (pa_cons hl (pa_cons h pa_nil hst2) (star_eq hs)) hst hst2) fun σ H R ⟨S, P, ρ, Q0, R', h, q⟩ => ?_
  refine ⟨S, P, ρ, _, R', h, fun d hd v H1 e1 i1 r1 _ => ?_⟩
  have R1 := R'.ext e1 i1
  obtain ⟨j, rfl, hd⟩ := hd
  cases (RpB.of r1).int_of
  refine ⟨S, P, ρ, _, R1, hd, fun d2 hd2 v2 H2 e2 i2 r2 _ => ?_⟩
  obtain ⟨ds, eds, q0⟩ := hd2
  obtain ⟨a, c, ea, rfl, hr, rfl⟩ := rngD_of eds
  cases ea
  cases (RpB.of r2).int_of
  exact ⟨_, _, rfl, ⟨hr.1, hr.2.1, hr.2.2.1, hr.2.2.2.1⟩, q _ q0 (Itr j (c - j).toNat) H2 (e1.trans e2) i2 (walks_rng hr)⟩
theorem zip_get {xs ys : List D} {i : Nat} {d : D} (h : (List.zipWith pairT xs ys)[i]? = some d) : ∃ x y, xs[i]? = some x ∧ ys[i]? = some y ∧ d = .tuple [x, y] := by
  rw [List.getElem?_zipWith] at h
  split at h
  · cases h; exact ⟨_, _, by assumption, by assumption, rfl⟩
  · cases h
theorem walks_zipL {K : PySem.W.Frag} {M N : Zn} {H : Hp} {a b : Addr} {vs ws : List V} {ds es : List D} (hl : ds.length ≤ sizeLine) (ha : H a = some (.lst vs)) (hb : H b = some (.lst ws)) (nM : ¬ M a) (nM2 : ¬ M b) (r : RpAll N H vs ds) (r2 : RpAll N H ws es) (f : Fit N H) (hM : ∀ b, M b → N b) : Wk M N H (Itz K a b) (List.zipWith pairT ds es) where
  len := by rw [List.length_zipWith]; omega
  go := fun i H' d e h => by
    obtain ⟨x, y, hx, hy, rfl⟩ := zip_get h
    obtain ⟨v, hv, _⟩ := r.get' hx
    obtain ⟨w, hw, _⟩ := r2.get' hy
    exact ⟨vs, ws, v, w, SqL.of (e _ _ ha nM), SqL.of (e _ _ hb nM2), hv, hw⟩
  yld := fun i H' d x H2 e h y => by
    obtain ⟨p, q, hp, hq, rfl⟩ := zip_get h
    obtain ⟨T, u, v, rfl, hT, rfl, hu, hv⟩ := y
    obtain ⟨d1, h1, rd1⟩ := r.get (hu vs (SqL.of (e _ _ ha nM)))
    obtain ⟨d2, h2, rd2⟩ := r2.get (hv ws (SqL.of (e _ _ hb nM2)))
    rw [hp] at h1; rw [hq] at h2
    cases h1; cases h2
    have en : Ext No H' (upd H' T (.tup [u, v])) := Ext.new hT
    have e2 : Ext N H (upd H' T (.tup [u, v])) := (e.mono hM).trans (en.any N)
    exact ⟨en, fun N' hN => .tup upd_same (.cons (rd1.move e2 f hN) (.cons (rd2.move e2 f hN) .nil))⟩
  stop := fun i H' e h => ⟨vs, ws, SqL.of (e _ _ ha nM), SqL.of (e _ _ hb nM2), by rw [List.length_zipWith] at h; rw [r.length, r2.length]; omega⟩
theorem walks_zipT {K : PySem.W.Frag} {M N : Zn} {H : Hp} {a b : Addr} {vs ws : List V} {ds es : List D} (hl : ds.length ≤ sizeLine) (ha : H a = some (.tup vs)) (hb : H b = some (.tup ws)) (nM : ¬ M a) (nM2 : ¬ M b) (r : RpAll N H vs ds) (r2 : RpAll N H ws es) (f : Fit N H) (hM : ∀ b, M b → N b) : Wk M N H (ItzT K a b) (List.zipWith pairT ds es) where
  len := by rw [List.length_zipWith]; omega
  go := fun i H' d e h => by
    obtain ⟨x, y, hx, hy, rfl⟩ := zip_get h
    obtain ⟨v, hv, _⟩ := r.get' hx
    obtain ⟨w, hw, _⟩ := r2.get' hy
    exact ⟨vs, ws, v, w, SqT.of (e _ _ ha nM), SqT.of (e _ _ hb nM2), hv, hw⟩
  yld := fun i H' d x H2 e h y => by
    obtain ⟨p, q, hp, hq, rfl⟩ := zip_get h
    obtain ⟨T, u, v, rfl, hT, rfl, hu, hv⟩ := y
    obtain ⟨d1, h1, rd1⟩ := r.get (hu vs (SqT.of (e _ _ ha nM)))
    obtain ⟨d2, h2, rd2⟩ := r2.get (hv ws (SqT.of (e _ _ hb nM2)))
    rw [hp] at h1; rw [hq] at h2
    cases h1; cases h2
    have en : Ext No H' (upd H' T (.tup [u, v])) := Ext.new hT
    have e2 : Ext N H (upd H' T (.tup [u, v])) := (e.mono hM).trans (en.any N)
    exact ⟨en, fun N' hN => .tup upd_same (.cons (rd1.move e2 f hN) (.cons (rd2.move e2 f hN) .nil))⟩
  stop := fun i H' e h => ⟨vs, ws, SqT.of (e _ _ ha nM), SqT.of (e _ _ hb nM2), by rw [List.length_zipWith] at h; rw [r.length, r2.length]; omega⟩
theorem size_of {t : TE} {x : PySem.Expr} (h : PE X x t) : PE X x (fun σ H Q => t σ H fun v H' => (∀ N d ds, RpB N H' v d → ltD d = some ds → ds.length ≤ sizeLine) → Q v H') :=
  ⟨fun pins s σ H Q I q => thn (h.run pins s σ H _ I q) fun u s1 ⟨v, H1, I1, r1, q1⟩ => ⟨v, H1, I1, r1, q1 fun N d ds r hd => seq_size I1 r hd⟩⟩
theorem zip_run {K : PySem.W.Frag} {M N : Zn} {H : Hp} {x y : V} {d e : D} {ds : List D} {R : L2.It → Hp → Prop} (r : RpB N H x d) (r2 : RpB N H y e) (hz : zipD d e = some ds) (f : Fit N H) (hM : ∀ b, M b → N b) (n1 : ∀ a, x = .ref a → ¬ M a) (n2 : ∀ a, y = .ref a → ¬ M a) (sz : ∀ zs, ltD d = some zs → zs.length ≤ sizeLine) (q : ∀ J, Wk M N H J ds → R J H) :
    ∃ a b xs ys, [x, y] = [.ref a, .ref b] ∧ ((SqL K H a xs ∧ SqL K H b ys ∧ R (Itz K a b) H) ∨ (SqT K H a xs ∧ SqT K H b ys ∧ R (ItzT K a b) H)) := by
  unfold zipD at hz
  split at hz
  · cases hz
    obtain ⟨a, xs, rfl, ha, rr⟩ := r.list_of
    obtain ⟨b, ys, rfl, hb, rr2⟩ := r2.list_of
    exact ⟨a, b, xs, ys, rfl, .inl ⟨SqL.of ha, SqL.of hb, q _ (walks_zipL (sz _ rfl) ha hb (n1 a rfl) (n2 b rfl) rr rr2 f hM)⟩⟩
  · cases hz
    obtain ⟨a, xs, rfl, ha, rr⟩ := r.tup_of
    obtain ⟨b, ys, rfl, hb, rr2⟩ := r2.tup_of
    exact ⟨a, b, xs, ys, rfl, .inr ⟨SqT.of ha, SqT.of hb, q _ (walks_zipT (sz _ rfl) ha hb (n1 a rfl) (n2 b rfl) rr rr2 f hM)⟩⟩
  · cases hz
theorem rp_top {N : Zn} {H : Hp} {v : V} {d : D} (r : Rp N H v d) (f : Fit N H) : ∀ a, v = .ref a → ¬ N a := fun a ea z => by
  subst ea
  cases r with
  | lst n _ _ => exact n z
  | tup ha _ =>
    obtain ⟨o, ho, m⟩ := f.dom a z
    rw [ha] at ho; cases ho; exact m
  | dK n _ _ => exact n z
  | dT n _ _ _ => exact n z
theorem it_zip (b : Bool) {e f : E} {x y : PySem.Expr} {p p2 tpos : Pos} {elts : List PySem.Expr} {kk : Nat} (hg : Gl X "zip") (hm : X.mg "zip" = none) (hs : notStar x = true) (hs2 : notStar y = true) (hxB : PE X x (tBo C e)) (hxE : PE X x (tE C e)) (hyB : PE X y (tBo C f)) (hyE : PE X y (tE C f)) :
    PI X (.Tuple elts kk tpos) (.Call (.Name "zip" p) [x, y] [] p2) (tI C b (.zip e f)) := by
  have hst2 : starEach [y] X.env = [(false, eval y X.env)] := star_eq hs2
  have hpl : (backTo p2 (starEach [y] X.env)).any (·.1) = false := by rw [hst2]; rfl
  cases b with
  | true =>
    refine PI.weak (pi_zipA hg hm (pa_cons (size_of hxB) (pa_cons hyB pa_nil hst2) (star_eq hs)) (star_eq hs) hpl) fun σ H R ⟨S, P, ρ, Q0, R', h, q⟩ => ?_
    refine ⟨S, P, ρ, _, R', h, fun d hd v H1 e1 i1 r1 sz => ?_⟩
    have R1 := R'.ext e1 i1
    refine ⟨S, P, ρ, _, R1, hd, fun d2 hd2 v2 H2 e2 i2 r2 => ?_⟩
    have R2 := R1.ext e2 i2
    obtain ⟨ds, eds, q0⟩ := hd2
    have r1' := r1.ext R1.fit R1.domN e2
    exact zip_run r1'.1 r2.1 eds R2.fit R2.domN r1'.2 r2.2 (fun zs hz => sz _ d zs r1.1 hz) fun J w => q ds q0 J H2 (e1.trans e2) i2 w
  | false =>
    refine PI.weak (pi_zipA hg hm (pa_cons (size_of hxE) (pa_cons hyE pa_nil hst2) (star_eq hs)) (star_eq hs) hpl) fun σ H R ⟨S, P, ρ, Q0, R', h, q⟩ => ?_
    refine ⟨S, P, ρ, _, R', h, fun d hd v H1 e1 i1 r1 _ sz => ?_⟩
    have R1 := R'.ext e1 i1
    refine ⟨S, P, ρ, _, R1, hd, fun d2 hd2 v2 H2 e2 i2 r2 _ => ?_⟩
    have R2 := R1.ext e2 i2
    obtain ⟨ds, eds, q0⟩ := hd2
    have r1' := r1.ext (e2.mono R1.domN) R1.fit
    exact zip_run (.of r1') (.of r2) eds R2.fit (fun _ z => z) (rp_top r1' R2.fit) (rp_top r2 R2.fit) (fun zs hz => sz _ d zs (.of r1) hz) fun J w => q ds q0 J H2 (e1.trans e2) i2 w
def tTo (C : Calls) (c : To) : TT := fun σ H Q => ∃ S P ρ Q0, Rel S P ρ σ H ∧ evc C c ρ Q0 ∧ ∀ b, Q0 b → ∀ H', Ext S.dom H H' → S.inv H' → Q b H'
theorem to_no : PTs X [] (tTo C .no) := ⟨fun pins s σ H Q I ⟨S, P, ρ, Q0, R, h, q⟩ => pts_nil.run pins s σ H Q I (q _ h H Ext.refl R.inv)⟩
theorem to_yes {c : T} {x : PySem.Expr} (h : PT X x (tT C c)) : PTs X [x] (tTo C (.yes c)) := ⟨fun pins s σ H Q I ⟨S, P, ρ, Q0, R, hh, q⟩ => (pts_one h).run pins s σ H Q I ⟨S, P, ρ, Q0, R, hh, q⟩⟩
theorem Ext.mut {M : Zn} {H1 H : Hp} {p : Addr} {o : HO} (e : Ext M H1 H) (hp : H1 p = none) : Ext M H1 (upd H p o) := fun a q ha n => by
  rw [upd_ne (ne_of_none ha hp)]; exact e a q ha n
theorem wipe_wipe {σ : L2.St} {vs : List Nat} : wipe (wipe σ vs) vs = wipe σ vs := by
  apply List.ext_getElem?
  intro i
  by_cases hi : i ∈ vs
  · by_cases hl2 : i < σ.length
    · rw [wipe_at hi hl2, wipe_at hi (by rw [wipe_length]; exact hl2)]
    · rw [List.getElem?_eq_none (by rw [wipe_length, wipe_length]; omega), List.getElem?_eq_none (by rw [wipe_length]; omega)]
  · rw [wipe_keep hi]
mutual
theorem asg_len : ∀ {g : G} {d : D} {ρ ρ' : Nv}, asg g d ρ = some ρ' → ρ'.length = ρ.length
  | .v i, d, ρ, ρ', h => by unfold asg at h; cases h; simp
  | .tup gs, .tuple ds, ρ, ρ', h => by unfold asg at h; exact asgs_len2 h
  | .tup gs, .list ds, ρ, ρ', h => by unfold asg at h; exact asgs_len2 h
  | .tup _, .none, ρ, ρ', h => by unfold asg at h; cases h
  | .tup _, .bool _, ρ, ρ', h => by unfold asg at h; cases h
  | .tup _, .int _, ρ, ρ', h => by unfold asg at h; cases h
  | .tup _, .str _, ρ, ρ', h => by unfold asg at h; cases h
  | .tup _, .dict _, ρ, ρ', h => by unfold asg at h; cases h
theorem asgs_len2 : ∀ {gs : List G} {ds : List D} {ρ ρ' : Nv}, asgs gs ds ρ = some ρ' → ρ'.length = ρ.length
  | [], [], ρ, ρ', h => by unfold asgs at h; cases h; rfl
  | g :: gs, d :: ds, ρ, ρ', h => by
    unfold asgs at h
    obtain ⟨ρ1, e1, e2⟩ := Option.bind_eq_some_iff.mp h
    rw [asgs_len2 e2, asg_len e1]
  | [], _ :: _, _, _, h => by unfold asgs at h; cases h
  | _ :: _, [], _, _, h => by unfold asgs at h; cases h
end
/-- the turns of a list comprehension -/
theorem lc_body {S : Src} {P : Zn} {ρ : Nv} {σ : L2.St} {H1 : Hp} {J : L2.It} {ds : List D} {Q0 : D → Prop} {Q : VK} {vs : List Nat} {g : G} {c : To} {elt : E} (hgs : gSlots g = vs) (R1 : Rel S P ρ σ H1) (hf : free ρ vs = true) (w : Wk S.dom (Nn P ρ σ) H1 J ds)
    (hds : lcW ds (fun d K => lift (asg g d (wipeN ρ vs)) fun ρ' => evc C c ρ' fun t => if t = true then ev C elt ρ' (fun y => K (some y)) else K none) (fun r => Q0 (.list r)))
    (q : ∀ ads, Q0 (.list ads) → ∀ (D : Addr) (acc : List V) (H' : Hp), Ext S.dom H1 H' → S.inv H' → H1 D = none → H' D = some (.lst acc) → RpAll (fun a => Nn P ρ σ a ∨ a = D) H' acc ads → Q (.ref D) H') :
    tLc (fun _ _ R => R J H1) (tG g) (tTo C c) (tE C elt) vs σ H1 Q := by
  intro D hD
  have i1 := R1.inv
  have Rp1 : Rel S (fun a => P a ∨ a = D) (wipeN ρ vs) (wipe σ vs) (upd H1 D (.lst [])) := (R1.shrink vs).prot hD trivial
  generalize hP' : (fun a => P a ∨ a = D) = P' at Rp1
  have hPD : P' D := by rw [← hP']; exact .inr rfl
  have hPP : ∀ a, P' a → P a ∨ a = D := fun a z => by rw [← hP'] at z; exact z
  have hNN : ∀ a, Nn P' (wipeN ρ vs) (wipe σ vs) a → Nn P ρ σ a ∨ H1 a = none := fun a z => by
    rcases z with z | z
    · rcases hPP a z with z | z
      · exact .inl (.inl z)
      · exact .inr (z ▸ hD)
    · exact .inl (.inr (own_wipe z))
  have hNb : ∀ a, Nn P ρ σ a → Nn P' (wipeN ρ vs) (wipe σ vs) a := fun a z => by
    rcases z with z | z
    · exact .inl (by rw [← hP']; exact .inl z)
    · exact .inr (own_free hf z)
  have nD : ¬ S.dom D := fun z => by
    obtain ⟨o, ho, _⟩ := (S.fit H1 i1).dom D z
    rw [hD] at ho; cases ho
  refine ⟨fun i m H => ∃ acc ads, i ≤ ds.length ∧ m = ds.length - i ∧ H D = some (.lst acc) ∧ Rel S P' (wipeN ρ vs) (wipe σ vs) H ∧ RpAll (Nn P' (wipeN ρ vs) (wipe σ vs)) H acc ads ∧ ads.length ≤ i ∧ Ext S.dom H1 H ∧
    lcW (ds.drop i) (fun d K => lift (asg g d (wipeN ρ vs)) fun ρ' => evc C c ρ' fun t => if t = true then ev C elt ρ' (fun y => K (some y)) else K none) (fun r => Q0 (.list (ads ++ r))), ⟨ds.length, [], [], Nat.zero_le _, rfl, upd_same, Rp1, .nil, Nat.le_refl _, Ext.new hD, by simpa using hds⟩, ?_⟩
  rintro i m H2 ⟨acc, ads, hi, rfl, hD2, R2, ra, hl, e2, hw⟩
  by_cases hlt : i < ds.length
  · right
    have hgd : ds[i]? = some ds[i] := List.getElem?_eq_getElem hlt
    refine ⟨w.go i H2 _ e2 hgd, fun H' => ∃ m', m' < ds.length - i ∧ ∃ acc ads, i + 1 ≤ ds.length ∧ m' = ds.length - (i + 1) ∧ H' D = some (.lst acc) ∧ Rel S P' (wipeN ρ vs) (wipe σ vs) H' ∧ RpAll (Nn P' (wipeN ρ vs) (wipe σ vs)) H' acc ads ∧ ads.length ≤ i + 1 ∧ Ext S.dom H1 H' ∧
      lcW (ds.drop (i + 1)) (fun d K => lift (asg g d (wipeN ρ vs)) fun ρ' => evc C c ρ' fun t => if t = true then ev C elt ρ' (fun y => K (some y)) else K none) (fun r => Q0 (.list (ads ++ r))), fun H' z => z, fun v H3 hy => ?_⟩
    obtain ⟨e3, hrp⟩ := w.yld i H2 _ v H3 e2 hgd hy
    have R3 := R2.ext0 e3
    rw [List.drop_eq_getElem_cons hlt] at hw
    obtain ⟨ρ', ea, hw⟩ := hw
    refine ⟨S, P', _, ds[i], ρ', R3, hrp _ hNN, ea, fun σ' R4 st n4 => ?_⟩
    rw [hgs] at st
    have hlen : σ'.length = (wipe σ vs).length := by
      have a1 := R4.len
      have a2 := R3.len
      have a3 : ρ'.length = (wipeN ρ vs).length := by
        exact asg_len ea
      omega
    have hff : free (wipeN ρ vs) vs = true := by
      unfold free
      rw [List.all_eq_true]
      intro j hj
      split
      · rename_i hh
        exact absurd hj (wipeN_some hh).2
      · rfl
    refine ⟨by rw [st.wipe hlen, wipe_wipe], S, P', ρ', _, R4, hw, fun b hb H5 e5 i5 => ?_⟩
    have R5 := R4.ext e5 i5
    have R5w := R3.ext e5 i5
    have hD5 : H5 D = some (.lst acc) := e5 D _ (e3 D _ hD2 fun z => z) nD
    have ra5 : RpAll (Nn P' (wipeN ρ vs) (wipe σ vs)) H5 acc ads := (ra.ext (e3.any _) R2.fit).ext (e5.mono R3.domN) R3.fit
    cases b with
    | false =>
      simp only [Bool.false_eq_true, if_false] at hb ⊢
      exact ⟨_, by omega, acc, ads, hlt, rfl, hD5, R5w, ra5, by omega, (e2.trans (e3.any _)).trans e5, by simpa using hb⟩
    | true =>
      simp only [if_true] at hb ⊢
      refine ⟨S, P', ρ', _, R5, hb, fun d hd v6 H6 e6 i6 r6 _ => ?_⟩
      have R6 := R5w.ext e6 i6
      have hD6 : H6 D = some (.lst acc) := e6 D _ hD5 nD
      refine ⟨acc, hD6, ?_, _, by omega, acc ++ [v6], ads ++ [d], hlt, rfl, upd_same, ?_, ?_, by simp; omega, ?_, ?_⟩
      · have := ra.length
        have := w.len
        omega
      · refine R6.extP (M := fun a => a = D) (fun a z => (show a = D from z) ▸ hPD) (fun a o ho n => by rw [upd_ne n]; exact ho) (S.stab _ _ i6 fun a ha => upd_ne fun z => nD (z ▸ ha)) ⟨fun a z => ?_⟩
        by_cases hz : a = D
        · exact ⟨.lst (acc ++ [v6]), by rw [hz]; exact upd_same, trivial⟩
        · obtain ⟨o, ho, m⟩ := R6.fitP.dom a z
          exact ⟨o, by rw [upd_ne hz]; exact ho, m⟩
      · have up : Ext (Nn P' (wipeN ρ vs) (wipe σ vs)) H6 (upd H6 D (.lst (acc ++ [v6]))) := fun a o ho n => by
          rw [upd_ne (fun z => n (.inl (by rw [z]; exact hPD)))]; exact ho
        have r6' : Rp (Nn P' (wipeN ρ vs) (wipe σ vs)) H6 v6 d := r6.less fun a z => z.elim .inl fun z => .inr (st.own hff z)
        exact ((ra5.ext (e6.mono R5w.domN) R5w.fit).append (.cons r6' .nil)).ext up R6.fit
      · exact ((e2.trans (e3.any _)).trans (e5.trans e6)).mut hD
      · simpa using hd
  · left
    have hi' : i = ds.length := by omega
    subst hi'
    refine ⟨w.stop _ H2 e2 (Nat.le_refl _), ?_⟩
    rw [List.drop_length] at hw
    have hw : Q0 (.list (ads ++ [])) := hw
    rw [List.append_nil] at hw
    exact q _ hw D acc H2 e2 R2.inv hD hD2 (ra.less fun a z => z.elim (hNb a) fun z => .inl (by rw [z]; exact hPD))
/-- a list comprehension -/
theorem ev_lc {vs : List Nat} {g : G} {it : PD.It} {c : To} {elt : E} {tg iter x : PySem.Expr} {ifs : List PySem.Expr} {scope : Scope} {own : List (Str × Nat)} {pos : Pos} (hc : X.calm = true) (hN : X.N.Nodup) (hi : PI X tg iter (tI C true it)) (ok : BlkOk X.N X.env.scope scope own) (hv : own.map (·.2) = vs) (hgs : gSlots g = vs)
    (hg : ∀ (s : Shared) (H : Hp) (Cc : Addr) (cl : List (Str × Addr)) (fp : List Addr), PG (X.blk s H scope (compEnvC scope cl Cc X.env) fp) tg (tG g)) (ht : ∀ (s : Shared) (H : Hp) (Cc : Addr) (cl : List (Str × Addr)) (fp : List Addr), PTs (X.blk s H scope (compEnvC scope cl Cc X.env) fp) ifs (tTo C c))
    (he : ∀ (s : Shared) (H : Hp) (Cc : Addr) (cl : List (Str × Addr)) (fp : List Addr), PE (X.blk s H scope (compEnvC scope cl Cc X.env) fp) x (tE C elt)) (hs : ∀ z, foldedSetIterable iter X.env z = pure z) :
    PE X (.ListComp x [⟨tg, iter, ifs, 0⟩] scope pos) (tE C (.lc vs g it c elt)) ∧
    ∀ {i : Nat} {y : Str} {py spos : Pos}, X.N[i]? = some y → X.env.scope.names.lookup y = some .local → swapsWith (.ListComp x [⟨tg, iter, ifs, 0⟩] scope pos) (some (.Name y py)) spos.line X.env = pure true →
      PS X (.Assign [.Name y py] (.ListComp x [⟨tg, iter, ifs, 0⟩] scope pos) spos) (tAsg (tE C (.lc vs g it c elt)) (gName i)) := by
  have key : ∀ σ H Q, tE C (.lc vs g it c elt) σ H Q → tLc (tI C true it) (tG g) (tTo C c) (tE C elt) (own.map (·.2)) σ H Q := by
    intro σ H Q ⟨S, P, ρ, Q0, R, ⟨hf, h⟩, q⟩
    rw [hv]
    refine ⟨S, P, ρ, _, R, h, fun ds hds J H1 e1 i1 w => ?_⟩
    have R1 := R.ext e1 i1
    exact lc_body hgs R1 hf w hds fun ads hq D acc H' e2 i2 hD hD2 ra => q _ hq _ H' (e1.trans e2) i2 (.lst (R1.fit.ne hD) hD2 (ra.less fun a z => .inl z)) fun _ _ => ⟨D, rfl, fresh_trans i1 e1 hD, .lst hD2 ra⟩
  refine ⟨PE.weak (pe_lc hc hN hi ok hg ht he hs) key, fun hy hyl hsw => ?_⟩
  refine ⟨fun pins s σ H Dd I h => (ps_setLc hc hN hy hyl hsw hi ok hg ht he hs).run pins s σ H Dd I (key _ _ _ h)⟩
end
end PD
set_option maxHeartbeats 2000000
/-! PDlb: enumerate of a list, of a tuple; range with a step. -/
namespace PD
open PySem L2 RZ PyProof.Rows
theorem new_enumT (l : Addr) (its : Array Value) (n : Nat) (dd : Option Addr) (sl : Array (Option Value)) :
    Meets (Builtin.«enumerate.__new__» ⟨[.type "enumerate", .ref l], []⟩) (fun _ R s => s.heap.get? l = some { cls := .type "tuple", dict := dd, data := .seq its n, slots := sl } ∧
      R (.ok (.ret (.ref (s.heap.push { cls := .type "tuple_iterator", data := .fields #[.ref l, .int 0 0] }).objs.size)))
        { s with heap := (s.heap.push { cls := .type "tuple_iterator", data := .fields #[.ref l, .int 0 0] }).push { cls := .type "enumerate", data := .fields #[.none, .bool false, .ref s.heap.objs.size, rawInt 0, .none, .none] } }) := .of_wp fun prog w A R s h => by
    obtain ⟨hp, g, d, tk, os⟩ := s
    obtain ⟨hl, h⟩ := h
    have hsub := sub_enumerate
    have hT : Heap.IsTuple (Shared.heap ⟨hp, g, d, tk, os⟩) l its := ⟨_, hl, rfl, n, rfl⟩
    wp_walk using AutoSeq1.wpAny_loadPart' hl
    refine wpAny_stack_any fun st => (wpAny_pure ?_)
    split
    · rename_i c _ _ _ _ _
      cases (c == Value.type "enumerate") <;> (wp_walk using AutoSeq1.wpAny_loadPart' hl, wpAny_pyIter_tuple hT; exact ⟨_, rfl, h⟩)
    · wp_walk using AutoSeq1.wpAny_loadPart' hl, wpAny_pyIter_tuple hT
      exact ⟨_, rfl, h⟩
section
variable {prog : Program} {w : World} {A : Around} {E : Value → Shared → Prop} {s : Shared}
theorem call_enumT {l : Addr} {its : Array Value} {Q : Value → Shared → Prop} (hL : s.heap.IsTuple l its)
    (h : ∀ h', IsEnum h' (s.heap.objs.size + 1) s.heap.objs.size 0 .none → h'.IsTupleIter s.heap.objs.size l 0 → (∀ b o, s.heap.get? b = some o → h'.get? b = some o) → Q (.ref (s.heap.objs.size + 1)) { s with heap := h' }) :
    wpAny (model prog w) A (call (.type "enumerate") [.ref l]) Q E s := by
  obtain ⟨⟨c, dct, dt, sl⟩, hl, (hc : c = .type "tuple"), n, (hd : dt = .seq its n)⟩ := hL
  subst hc hd
  refine callType_new F.called_enumerate (by decide) (F.typeCall_enumerate_1 _) (F.newCall_enumerate_1 _) (fun obj => F.args_object_init_2 obj _) F.entry_enumerate_new (new_enumT l its n dct sl) ⟨hl, ?_⟩
  have hz : (s.heap.push { cls := .type "tuple_iterator", data := .fields #[.ref l, .int 0 0] }).objs.size = s.heap.objs.size + 1 := Heap.size_push ..
  rw [hz]
  have he : IsEnum ((s.heap.push { cls := .type "tuple_iterator", data := .fields #[.ref l, .int 0 0] }).push { cls := .type "enumerate", data := .fields #[.none, .bool false, .ref s.heap.objs.size, rawInt 0, .none, .none] }) (s.heap.objs.size + 1) s.heap.objs.size 0 .none := by
    have e := Heap.get?_push_size (s.heap.push { cls := .type "tuple_iterator", data := .fields #[.ref l, .int 0 0] }) (o := { cls := .type "enumerate", data := .fields #[.none, .bool false, .ref s.heap.objs.size, rawInt 0, .none, .none] }) rfl
    rw [hz] at e; exact e
  exact ⟨⟨_, he, rfl⟩, h _ he ⟨_, Heap.get?_push_of_some _ (Heap.get?_push_size _ rfl), rfl, rfl⟩ fun b o x => Heap.get?_push_of_some _ (Heap.get?_push_of_some _ x)⟩
end
/-- (i, the tuple's item i), in new pairs -/
def IteT (K : PySem.W.Frag) (a : Addr) : L2.It :=
  ⟨fun i H => ∃ (xs : List V) (x : V), SqT K H a xs ∧ xs[i]? = some x, fun i H v H' => ∃ T x, v = .ref T ∧ H T = none ∧ H' = upd H T (.tup [.int (i : Nat), x]) ∧ ∀ xs, SqT K H a xs → xs[i]? = some x, fun i H => ∃ xs : List V, SqT K H a xs ∧ xs.length ≤ i⟩
theorem turn_enumT {P : Program} {w : World} {K : PySem.W.Frag} {elts : List PySem.Expr} {kk : Nat} {tpos : Pos} (a e it : Addr) :
    Turn P w K (.Tuple elts kk tpos) (IteT K a) [e, it] e (fun i h => (∃ old, IsEnum h e it ((i : Nat) : Int) old) ∧ h.IsTupleIter it a i ∧ e ≠ it) where
  mem := by simp
  obj := fun i h st b hb => by
    obtain ⟨⟨old, he⟩, ⟨o, ho, hc, hd⟩, _⟩ := st
    rcases (show b = e ∨ b = it by simpa using hb) with rfl | rfl
    · exact ⟨_, he, fun v q => nomatch q⟩
    · exact ⟨o, ho, fun v q => by rw [hd] at q; cases q⟩
  keep := fun i h h' st k => by
    obtain ⟨⟨old, he⟩, hi, hne⟩ := st
    exact ⟨⟨old, k e (by simp) _ he⟩, hi.at fun o q => k it (by simp) o q, hne⟩
  item := by
    intro X hP hw hK hc i pins s σ H E I hf st hg
    subst hP hw hK
    obtain ⟨⟨old, he⟩, hit, hne⟩ := st
    obtain ⟨xs, x, hq, hx⟩ := hg
    obtain ⟨its, rv, p, hz⟩ := I.tuple hq
    obtain ⟨u, hu, ru⟩ := rv.get hx
    have hT : s.heap.IsTuple a its.toArray := p
    have hel : e < s.heap.objs.size := (Heap.lt_size he)
    have hil : it < s.heap.objs.size := let ⟨_, q, _⟩ := hit; Heap.lt_size q
    have hai : a ≠ it := fun z => by
      obtain ⟨o1, e1, c1, _⟩ := hit
      obtain ⟨o2, e2, c2, _⟩ := hT
      rw [z, e1] at e2; cases e2; rw [c1] at c2; injection c2 with c2; exact absurd c2 (by decide)
    have hae : e ≠ a := fun z => by
      obtain ⟨o2, e2, c2, _⟩ := hT
      rw [← z, he] at e2; cases e2; injection c2 with c2; exact absurd c2 (by decide)
    have hlt : i < its.toArray.size := by
      have := (List.getElem?_eq_some_iff.mp hu).1
      simpa using this
    have Dr := Draws.tuple (prog := X.prog) (w := X.w) (A := X.A.in1) (I.ok.hd hc) it a hai its.toArray
    refine wpAny_pyNext_enum_itemD Dr he ⟨hit, hT⟩ hlt hne (by simp [hne, hae]) fun y h' tk hy ho hst' hn hsz hk => ?_
    have ey : y = u := by
      have h1 : its[i]? = some y := by simpa using hy
      rw [hu] at h1; exact (Option.some.inj h1).symm
    subst ey
    refine ⟨_, rfl, wpAny_letOwnedTupleGo_enum (s := { s with heap := h', toks := tk + 1 }) ho fun h'' he' sb => ?_⟩
    have hT2 : h''.get? s.heap.objs.size = some { cls := .type "tuple", data := .seq #[.int i tk, y] } := (sb.2 _ (Nat.ne_of_gt hel)).trans hn
    have new : ObjOk X.prog X.w (upd H s.heap.objs.size (.tup [.int (i : Nat), x])) h'' s.heap.objs.size (.tup [.int (i : Nat), x]) :=
      ⟨by show 2 ≤ sizeLine; decide, [.int i tk, y], .cons ⟨_, rfl⟩ (.cons ru .nil), ⟨_, hT2, rfl, _, rfl⟩⟩
    have I1 : Inv X pins σ (upd H s.heap.objs.size (.tup [.int (i : Nat), x])) { s with heap := h'', toks := tk + 1 } :=
      I.turnedNew (ch := [e, it]) (fun b ob hb q => ((sb.2 b fun z => hb (by simp [z])).trans (hk b ob (fun z => hb (by simp [z])) (fun z => hb (by simp [z])) q))) hf (Nat.le_refl _) new
    refine ⟨.ref s.heap.objs.size, _, I1, rfl, ⟨_, x, rfl, I.hok.fresh (Nat.le_refl _), rfl, fun ys hy => by rw [I.tuple_inj hy hq]; exact hx⟩, ⟨⟨y, ?_⟩, hst'.1.at fun o q => ((sb.2 it (Ne.symm hne)).trans q), hne⟩, fun b hb => ?_⟩
    · rw [show ((i + 1 : Nat) : Int) = (i : Int) + 1 by omega]; exact he'
    · have hb' : b < s.heap.objs.size := by
        rcases (show b = e ∨ b = it by simpa using hb) with z | z <;> rw [z] <;> assumption
      rw [upd_ne (Nat.ne_of_lt hb')]; exact (hf b hb).1
  done := by
    intro X hP hw hK hc i pins s σ H E I hf st hg
    subst hP hw hK
    obtain ⟨⟨old, he⟩, hit, hne⟩ := st
    obtain ⟨xs, hq, hx⟩ := hg
    obtain ⟨its, rv, p, hz⟩ := I.tuple hq
    have hT : s.heap.IsTuple a its.toArray := p
    have hai : a ≠ it := fun z => by
      obtain ⟨o1, e1, c1, _⟩ := hit
      obtain ⟨o2, e2, c2, _⟩ := hT
      rw [z, e1] at e2; cases e2; rw [c1] at c2; injection c2 with c2; exact absurd c2 (by decide)
    obtain ⟨f0, f1, f2, f3, f4, f5⟩ := hf it (by simp)
    have hl := rv.length
    have hxn : its.toArray[i]? = none := by simp; omega
    have D0 : Draws X.prog X.w X.A.in1 it [it, a] 0 (fun _ _ => False) (fun _ h => h.IsTupleIter it a i ∧ h.IsTuple a its.toArray) :=
      { live := fun _ _ st => let ⟨o, ho, _⟩ := st.1; ⟨o, ho⟩
        frame := fun _ _ _ st hk => ⟨st.1.at fun o e => hk it (by simp) o e, st.2.at fun o e => hk a (by simp) o e⟩
        item := fun j _ _ _ hj => absurd hj (Nat.not_lt_zero j)
        done := fun s Q E st hE => wpAny_nextOf_tuple_end (I.ok.hd hc) st.1 st.2 hxn hE }
    exact wpAny_pyNext_enum_endD D0 he ⟨hit, hT⟩ fun h' eb => ⟨rfl, I.turned (t' := s.toks) (fun b o hb q => eb b o hb q) f0 f1 f3 f4 f5⟩
  self := fun A i s Q E st h => wpAny_pyIter_enum st.1.choose_spec h
/-- enumerate(x), x a list or a tuple -/
def iEnumA (K : PySem.W.Frag) (ta : TA) : TI := fun σ H R => ta σ H fun vs H1 => ∃ a xs, vs = [.ref a] ∧ ((SqL K H1 a xs ∧ R (Ite K a) H1) ∨ (SqT K H1 a xs ∧ R (IteT K a) H1))
theorem pi_enumA {X : Cx} {e : PySem.Expr} {ta : TA} {p pos tpos : Pos} {elts : List PySem.Expr} {kk : Nat} (hg : Gl X "enumerate") (hm : X.mg "enumerate" = none) (ha : PA X [e] ta) (hs : starEach [e] X.env = [(false, eval e X.env)]) :
    PI X (.Tuple elts kk tpos) (.Call (.Name "enumerate" p) [e] [] pos) (iEnumA X.K ta) := by
  refine ⟨fun pins s σ H R I h => ?_⟩
  refine Call_ (ld_blt I hg hm boot_enumerate (PyProof.Rows.callWith_type1 (thn (ha.run pos pins s σ H _ I h) fun us s1 ⟨vs, H1, I1, r1, a, xs, ex, q1⟩ => ?_) hs rfl))
  subst ex
  obtain ⟨u, rfl, ru⟩ := Vals.one r1
  cases ru
  have fin : ∀ (h' : Heap) (J : L2.It) (tn : Nat → Heap → Prop), (∀ b o, s1.heap.get? b = some o → h'.get? b = some o) → Turn X.prog X.w X.K (.Tuple elts kk tpos) J [s1.heap.objs.size + 1, s1.heap.objs.size] (s1.heap.objs.size + 1) tn → tn 0 h' → R J H1 →
      PIE X pins σ (.Tuple elts kk tpos) R (.ref (s1.heap.objs.size + 1)) { s1 with heap := h' } := fun h' J tn hk ht h0 q => by
    have I2 : Inv X pins σ H1 { s1 with heap := h' } := I1.kept (t' := s1.toks) hk
    refine ⟨s1.heap.objs.size + 1, [s1.heap.objs.size + 1, s1.heap.objs.size], tn, J, H1, rfl, I2, ht, h0, fun b hb => ?_, q⟩
    have hle : s1.heap.objs.size ≤ b := by
      rcases (show b = s1.heap.objs.size + 1 ∨ b = s1.heap.objs.size by simpa using hb) with z | z <;> rw [z]
      · exact Nat.le_add_right _ _
      · exact Nat.le_refl _
    exact I1.fpOk hle (I1.hok.fresh hle)
  rcases q1 with ⟨hq, q⟩ | ⟨hq, q⟩
  · obtain ⟨its, rv, p', hz⟩ := I1.list hq
    exact call_enumerate_list p'.isList fun h' he hit hsz hk => wpAny_pyIter_enum he (fin h' _ _ hk (turn_enum a _ _) ⟨⟨.none, he⟩, hit, Nat.succ_ne_self _⟩ q)
  · obtain ⟨its, rv, p', hz⟩ := I1.tuple hq
    exact call_enumT (its := its.toArray) p' fun h' he hit hk => wpAny_pyIter_enum he (fin h' _ _ hk (turn_enumT a _ _) ⟨⟨.none, he⟩, hit, Nat.succ_ne_self _⟩ q)
theorem enum_get {ds : List D} {i : Nat} {d : D} (h : (enumD ds)[i]? = some d) : ∃ x, ds[i]? = some x ∧ d = .tuple [.int i, x] := by
  unfold enumD at h
  rw [List.getElem?_map, List.getElem?_zipIdx] at h
  cases hx : ds[i]? with
  | none => rw [hx] at h; cases h
  | some x => rw [hx] at h; simp at h; exact ⟨x, rfl, h.symm⟩
theorem enum_len (ds : List D) : (enumD ds).length = ds.length := by unfold enumD; simp
theorem no_starI : ∀ {xs : List PySem.Expr} {env : PySem.Env} {pos : Pos}, xs.all notStar = true → (backTo pos (starEach xs env)).any (·.1) = false
  | [], _, _, _ => rfl
  | x :: xs, env, pos, h => by
    rw [List.all_cons, Bool.and_eq_true] at h
    rw [star_eq h.1]
    show (false || (backTo pos (starEach xs env)).any (·.1)) = false
    rw [no_starI h.2]; rfl
section
variable {C : Calls} {X : Cx} {tg : PySem.Expr}
theorem walks_enumL {K : PySem.W.Frag} {M N : Zn} {H : Hp} {a : Addr} {vs : List V} {ds : List D} (hl : ds.length ≤ sizeLine) (ha : H a = some (.lst vs)) (nM : ¬ M a) (r : RpAll N H vs ds) (f : Fit N H) (hM : ∀ b, M b → N b) : Wk M N H (Ite K a) (enumD ds) where
  len := by rw [enum_len]; exact hl
  go := fun i H' d e h => by
    obtain ⟨x, hx, rfl⟩ := enum_get h
    obtain ⟨v, hv, _⟩ := r.get' hx
    exact ⟨vs, v, SqL.of (e _ _ ha nM), hv⟩
  yld := fun i H' d x H2 e h y => by
    obtain ⟨z, hz, rfl⟩ := enum_get h
    obtain ⟨T, u, rfl, hT, rfl, hu⟩ := y
    obtain ⟨d1, h1, rd1⟩ := r.get (hu vs (SqL.of (e _ _ ha nM)))
    rw [hz] at h1; cases h1
    have en : Ext No H' (upd H' T (.tup [.int (i : Nat), u])) := Ext.new hT
    exact ⟨en, fun N' hN => .tup upd_same (.cons (.int _) (.cons (rd1.move ((e.mono hM).trans (en.any N)) f hN) .nil))⟩
  stop := fun i H' e h => ⟨vs, SqL.of (e _ _ ha nM), by rw [enum_len] at h; rw [r.length]; exact h⟩
theorem walks_enumT {K : PySem.W.Frag} {M N : Zn} {H : Hp} {a : Addr} {vs : List V} {ds : List D} (hl : ds.length ≤ sizeLine) (ha : H a = some (.tup vs)) (nM : ¬ M a) (r : RpAll N H vs ds) (f : Fit N H) (hM : ∀ b, M b → N b) : Wk M N H (IteT K a) (enumD ds) where
  len := by rw [enum_len]; exact hl
  go := fun i H' d e h => by
    obtain ⟨x, hx, rfl⟩ := enum_get h
    obtain ⟨v, hv, _⟩ := r.get' hx
    exact ⟨vs, v, SqT.of (e _ _ ha nM), hv⟩
  yld := fun i H' d x H2 e h y => by
    obtain ⟨z, hz, rfl⟩ := enum_get h
    obtain ⟨T, u, rfl, hT, rfl, hu⟩ := y
    obtain ⟨d1, h1, rd1⟩ := r.get (hu vs (SqT.of (e _ _ ha nM)))
    rw [hz] at h1; cases h1
    have en : Ext No H' (upd H' T (.tup [.int (i : Nat), u])) := Ext.new hT
    exact ⟨en, fun N' hN => .tup upd_same (.cons (.int _) (.cons (rd1.move ((e.mono hM).trans (en.any N)) f hN) .nil))⟩
  stop := fun i H' e h => ⟨vs, SqT.of (e _ _ ha nM), by rw [enum_len] at h; rw [r.length]; exact h⟩
theorem enum_run {K : PySem.W.Frag} {M N : Zn} {H : Hp} {x : V} {d : D} {ds : List D} {R : L2.It → Hp → Prop} (r : RpB N H x d) (hd : ltD d = some ds) (f : Fit N H) (hM : ∀ b, M b → N b) (n1 : ∀ a, x = .ref a → ¬ M a) (sz : ds.length ≤ sizeLine) (q : ∀ J, Wk M N H J (enumD ds) → R J H) :
    ∃ a xs, [x] = [.ref a] ∧ ((SqL K H a xs ∧ R (Ite K a) H) ∨ (SqT K H a xs ∧ R (IteT K a) H)) := by
  unfold ltD at hd
  split at hd
  · cases hd
    obtain ⟨a, xs, rfl, ha, rr⟩ := r.list_of
    exact ⟨a, xs, rfl, .inl ⟨SqL.of ha, q _ (walks_enumL sz ha (n1 a rfl) rr f hM)⟩⟩
  · cases hd
    obtain ⟨a, xs, rfl, ha, rr⟩ := r.tup_of
    exact ⟨a, xs, rfl, .inr ⟨SqT.of ha, q _ (walks_enumT sz ha (n1 a rfl) rr f hM)⟩⟩
  · cases hd
theorem it_enum (b : Bool) {e : E} {x : PySem.Expr} {p p2 tpos : Pos} {elts : List PySem.Expr} {kk : Nat} (hg : Gl X "enumerate") (hm : X.mg "enumerate" = none) (hs : notStar x = true) (hxB : PE X x (tBo C e)) (hxE : PE X x (tE C e)) :
    PI X (.Tuple elts kk tpos) (.Call (.Name "enumerate" p) [x] [] p2) (tI C b (.enum e)) := by
  have hst : starEach [x] X.env = [(false, eval x X.env)] := star_eq hs
  cases b with
  | true =>
    refine PI.weak (pi_enumA hg hm (pa_cons (size_of hxB) pa_nil hst) hst) fun σ H R ⟨S, P, ρ, Q0, R', h, q⟩ => ?_
    refine ⟨S, P, ρ, _, R', h, fun d hd v H1 e1 i1 r1 sz => ?_⟩
    have R1 := R'.ext e1 i1
    obtain ⟨ds, eds, q0⟩ := hd
    exact enum_run r1.1 eds R1.fit R1.domN r1.2 (sz _ d ds r1.1 eds) fun J w => q _ q0 J H1 e1 i1 w
  | false =>
    refine PI.weak (pi_enumA hg hm (pa_cons (size_of hxE) pa_nil hst) hst) fun σ H R ⟨S, P, ρ, Q0, R', h, q⟩ => ?_
    refine ⟨S, P, ρ, _, R', h, fun d hd v H1 e1 i1 r1 _ sz => ?_⟩
    have R1 := R'.ext e1 i1
    obtain ⟨ds, eds, q0⟩ := hd
    exact enum_run (.of r1) eds R1.fit (fun _ z => z) (rp_top r1 R1.fit) (sz _ d ds (.of r1) eds) fun J w => q _ q0 J H1 e1 i1 w
/-! range with a step -/
theorem rng3_of {lo hi st : D} {ds : List D} (h : rng3D lo hi st = some ds) : ∃ a b c n, lo = .int a ∧ hi = .int b ∧ st = .int c ∧ RgC a b c n ∧ n ≤ sizeLine ∧ ds = (List.range n).map fun i : Nat => .int (a + (i : Int) * c) := by
  unfold rng3D at h
  split at h
  · rename_i a b c
    split at h
    · rename_i hc
      cases h
      exact ⟨a, b, c, _, rfl, rfl, rfl, ⟨hc.1, hc.2.1, hc.2.2.1, hc.2.2.2.1⟩, hc.2.2.2.2, rfl⟩
    · cases h
  · cases h
theorem walks_rng3 {M N : Zn} {H : Hp} {a c : Int} {n : Nat} (hn : n ≤ sizeLine) : Wk M N H (Itc a c n) ((List.range n).map fun i : Nat => .int (a + (i : Int) * c)) where
  len := by simpa using hn
  go := fun i H' d e q => by
    have := (List.getElem?_eq_some_iff.mp q).1
    show i < n
    simpa using this
  yld := fun i H' d x H2 e q y => by
    obtain ⟨rfl, rfl⟩ := y
    rw [List.getElem?_map] at q
    obtain ⟨j, hj, rfl⟩ := Option.map_eq_some_iff.mp q
    obtain ⟨h1, h2⟩ := List.getElem?_eq_some_iff.mp hj
    rw [List.getElem_range] at h2
    subst h2
    exact ⟨Ext.refl, fun N' _ => .int _⟩
  stop := fun i H' e h => by show n ≤ i; simpa using h
theorem it_rng3 (b : Bool) {lo hi st : E} {x y z : PySem.Expr} {p p2 : Pos} (hg : Gl X "range") (hm : X.mg "range" = none) (hs : notStar x = true) (hs2 : notStar y = true) (hs3 : notStar z = true) (hl : PE X x (tE C lo)) (hh : PE X y (tE C hi)) (hst : PE X z (tE C st)) :
    PI X tg (.Call (.Name "range" p) [x, y, z] [] p2) (tI C b (.rng3 lo hi st)) := by
  have e3 : starEach [z] X.env = [(false, eval z X.env)] := star_eq hs3
  have hpl : (backTo p2 (starEach [y, z] X.env)).any (·.1) = false := no_starI (by simp [hs2, hs3])
  refine PI.weak (pi_range3 hg hm (pa_cons hl (pa_cons hh (pa_cons hst pa_nil e3) (star_eq hs2)) (star_eq hs)) (star_eq hs) hpl) fun σ H R ⟨S, P, ρ, Q0, R', h, q⟩ => ?_
  refine ⟨S, P, ρ, _, R', h, fun d hd v H1 e1 i1 r1 _ => ?_⟩
  have R1 := R'.ext e1 i1
  refine ⟨S, P, ρ, _, R1, hd, fun d2 hd2 v2 H2 e2 i2 r2 _ => ?_⟩
  have R2 := R1.ext e2 i2
  refine ⟨S, P, ρ, _, R2, hd2, fun d3 hd3 v3 H3 e3 i3 r3 _ => ?_⟩
  obtain ⟨ds, eds, q0⟩ := hd3
  obtain ⟨a, c, k, n, rfl, rfl, rfl, hr, hn, rfl⟩ := rng3_of eds
  cases (RpB.of r1).int_of
  cases (RpB.of r2).int_of
  cases (RpB.of r3).int_of
  exact ⟨a, c, k, n, rfl, hr, q _ q0 _ H3 ((e1.trans e2).trans e3) i3 (walks_rng3 hn)⟩
end
end PD
/-! PDle: list comprehensions over a dict of one's own, which they do not use. -/
namespace PD
open PySem L2 RZ
section
variable {N N' : Zn} {H : Hp} {p : Addr} {ob : Obj} {u : HO}
theorem frz_ne (hd : H p = some (.frz ob u)) {a : Addr} {o : HO} (q : H a = some o) (h : ∀ ob u, o ≠ .frz ob u) : a ≠ p := fun e => by
  subst e
  rw [hd] at q
  exact h ob u (Option.some.inj q).symm
mutual
theorem Rp.unl (hd : H p = some (.frz ob u)) (h : ∀ a, N' a → N a ∨ a = p) : ∀ {v : V} {d : D}, Rp N H v d → Rp N' (upd H p u) v d
  | _, _, .non => .non
  | _, _, .bl b => .bl b
  | _, _, .int i => .int i
  | _, _, .str x => .str x
  | _, _, .lst n q r => by
    have ne := frz_ne hd q (by intro _ _ e; cases e)
    exact .lst (fun z => (h _ z).elim n ne) (by rw [upd_ne ne]; exact q) (RpAll.unl hd h r)
  | _, _, .tup q r => by
    have ne := frz_ne hd q (by intro _ _ e; cases e)
    exact .tup (by rw [upd_ne ne]; exact q) (RpAll.unl hd h r)
  | _, _, .dK n q r => by
    have ne := frz_ne hd q (by intro _ _ e; cases e)
    exact .dK (fun z => (h _ z).elim n ne) (by rw [upd_ne ne]; exact q) (RpAll.unl hd h r)
  | _, _, .dT n k q r => by
    have ne := frz_ne hd q (by intro _ _ e; cases e)
    exact .dT (fun z => (h _ z).elim n ne) k (by rw [upd_ne ne]; exact q) (RpAll.unl hd h r)
theorem RpAll.unl (hd : H p = some (.frz ob u)) (h : ∀ a, N' a → N a ∨ a = p) : ∀ {vs : List V} {ds : List D}, RpAll N H vs ds → RpAll N' (upd H p u) vs ds
  | _, _, .nil => .nil
  | _, _, .cons r t => .cons (Rp.unl hd h r) (RpAll.unl hd h t)
end
end
section
variable {S : Src} {P : Zn} {ρ : Nv} {σ : L2.St} {H : Hp}
theorem rp_ky {N : Zn} (k : Key) : Rp N H (kV k) (keyD k) := by
  cases k with
  | inl i => exact .int i
  | inr x => exact .str x
theorem rp_kys {N : Zn} : ∀ ks : List Key, RpAll N H (ks.map kV) (ks.map keyD)
  | [] => .nil
  | k :: ks => .cons (rp_ky k) (rp_kys ks)
theorem own_sNo {i : Nat} {a : Addr} (z : OwnAt (ρ.set i none) σ a) : OwnAt ρ σ a := by
  obtain ⟨j, d, h1, h2⟩ := z
  by_cases e : j = i
  · subst e
    rw [List.getElem?_set] at h1
    simp only [if_true] at h1
    split at h1 <;> cases h1
  · rw [List.getElem?_set_ne (Ne.symm e)] at h1
    exact ⟨j, d, h1, h2⟩
/-- the dict is put aside -/
theorem Rel.lock (R : Rel S P ρ σ H) {i : Nat} {kvs : List (D × D)} {p : Addr} {o : HO} (hi : ρ[i]? = some (some (.own (.dict kvs)))) (hs : σ[i]? = some (some (.ref p))) (np : ¬ P p) : Rel S P (ρ.set i none) σ (upd H p o) := by
  have nset : ∀ {j : Nat} {x : B}, (ρ.set i none)[j]? = some (some x) → j ≠ i ∧ ρ[j]? = some (some x) := fun {j x} h => by
    by_cases e : j = i
    · subst e
      rw [List.getElem?_set] at h
      simp only [if_true] at h
      split at h <;> cases h
    · rw [List.getElem?_set_ne (Ne.symm e)] at h
      exact ⟨e, h⟩
  have less : ∀ a, Nn P (ρ.set i none) σ a → Nn P ρ σ a := fun a z => z.elim .inl fun z => .inr (own_sNo z)
  have ex : Ext (Nn P ρ σ) H (upd H p o) := fun a q ha n => by
    have ne : a ≠ p := fun e => by subst e; exact n (.inr ⟨i, _, hi, hs⟩)
    rw [upd_ne ne]; exact ha
  have pne : ∀ a, P a → a ≠ p := fun a z e => by subst e; exact np z
  exact {
    len := by rw [List.length_set]; exact R.len
    sub := R.sub
    fitP := ⟨fun a z => by
      obtain ⟨q, hq, m⟩ := R.fitP.dom a z
      exact ⟨q, by rw [upd_ne (pne a z)]; exact hq, m⟩⟩
    inv := S.stab _ _ R.inv fun a ha => upd_ne (pne a (R.sub a ha))
    sh := fun j d h => by
      obtain ⟨_, h⟩ := nset h
      obtain ⟨v, hv, r⟩ := R.sh j d h
      exact ⟨v, hv, (r.ext ex R.fit).less less⟩
    own := fun j d h => by
      obtain ⟨ne, h⟩ := nset h
      obtain ⟨a, ha, l, r, na⟩ := R.own j d h
      refine ⟨a, ha, l, (r.extA R.fit ex fun b q eb hb => ?_).less less, na⟩
      cases eb
      have nb : a ≠ p := fun e => by subst e; exact ne (R.dis j i _ _ _ h hi ha hs)
      rw [upd_ne nb]
      exact hb
    dis := fun j k d e a h1 h2 => R.dis j k d e a (nset h1).2 (nset h2).2
    src := fun j h => R.src j (nset h).2 }
theorem zip_fst {α : Type} : ∀ {xs : List α} {ds : List D}, xs.length = ds.length → (xs.zip ds).map (·.1) = xs
  | [], [], _ => rfl
  | x :: xs, d :: ds, h => by rw [List.zip_cons_cons, List.map_cons, zip_fst (by simpa using h)]
  | [], _ :: _, h => nomatch h
  | _ :: _, [], h => nomatch h
theorem wk_keys {M N : Zn} {H1 : Hp} {p : Addr} {od : Obj} {kvs : List (Key × V)} (hz : kvs.length ≤ sizeLine) (hp : H1 p = some (.frz od (.dK kvs))) (nM : ¬ M p) : Wk M N H1 (Itk p od kvs) (kvs.map fun q => keyD q.1) where
  len := by rw [List.length_map]; exact hz
  go := fun i H d e h => by
    obtain ⟨hi, _⟩ := List.getElem?_eq_some_iff.mp h
    exact ⟨e _ _ hp nM, by simpa using hi⟩
  yld := fun i H d x H' e h y => by
    obtain ⟨rfl, k, v, hk, rfl⟩ := y
    rw [List.getElem?_map, hk] at h
    cases h
    exact ⟨Ext.refl, fun _ _ => rp_ky k⟩
  stop := fun i H e h => ⟨e _ _ hp nM, by simpa using h⟩
theorem wk_keysT {M N : Zn} {H1 : Hp} {p : Addr} {od : Obj} {kvs : List (List Key × V)} (hz : kvs.length ≤ sizeLine) (hp : H1 p = some (.frz od (.dT kvs))) (nM : ¬ M p) : Wk M N H1 (Itkt p od kvs) (kvs.map fun q => tkeyD q.1) where
  len := by rw [List.length_map]; exact hz
  go := fun i H d e h => by
    obtain ⟨hi, _⟩ := List.getElem?_eq_some_iff.mp h
    exact ⟨e _ _ hp nM, by simpa using hi⟩
  yld := fun i H d x H' e h y => by
    obtain ⟨rfl, k, v, q, hk, rfl, hq⟩ := y
    rw [List.getElem?_map, hk] at h
    cases h
    exact ⟨Ext.refl, fun _ _ => .tup hq (rp_kys k)⟩
  stop := fun i H e h => ⟨e _ _ hp nM, by simpa using h⟩
/-- the dict of an own slot -/
theorem own_dict (R : Rel S P ρ σ H) {i : Nat} {kvs : List (D × D)} (hi : ρ[i]? = some (some (.own (.dict kvs)))) : ∃ p, σ[i]? = some (some (.ref p)) ∧ ¬ P p ∧ ((∃ ks : List (Key × V), H p = some (.dK ks) ∧ ks.map (fun q => keyD q.1) = kvs.map (·.1)) ∨ ∃ ks : List (List Key × V), H p = some (.dT ks) ∧ ks.map (fun q => tkeyD q.1) = kvs.map (·.1)) := by
  obtain ⟨p, hs, _, r, np⟩ := R.own i _ hi
  refine ⟨p, hs, np, ?_⟩
  generalize hk : PyData.dict kvs = x at r
  cases r with
  | of r => cases r with
    | lst _ _ _ => cases hk
    | tup _ _ => cases hk
    | dK n _ _ => exact absurd (.inr ⟨i, _, hi, hs⟩) n
    | dT n _ _ _ => exact absurd (.inr ⟨i, _, hi, hs⟩) n
  | lst _ _ => cases hk
  | dK q r =>
    cases hk
    have := r.length
    exact .inl ⟨_, q, (zip_fst (by simpa using this)).symm⟩
  | dT _ q r =>
    cases hk
    have := r.length
    exact .inr ⟨_, q, (zip_fst (by simpa using this)).symm⟩
end
section
variable {C : Calls} {X : Cx} {tg : PySem.Expr}
theorem ev_lck {vs : List Nat} {g : G} {i : Nat} {c : To} {elt : E} {iter x : PySem.Expr} {ifs : List PySem.Expr} {scope : Scope} {own : List (Str × Nat)} {pos : Pos} (hc : X.calm = true) (hN : X.N.Nodup) (hi : PE X iter (tVar i)) (ok : BlkOk X.N X.env.scope scope own) (hv : own.map (·.2) = vs) (hgs : gSlots g = vs)
    (hg : ∀ (s : Shared) (H : Hp) (Cc : Addr) (cl : List (Str × Addr)) (fp : List Addr), PG (X.blk s H scope (compEnvC scope cl Cc X.env) fp) tg (tG g)) (ht : ∀ (s : Shared) (H : Hp) (Cc : Addr) (cl : List (Str × Addr)) (fp : List Addr), PTs (X.blk s H scope (compEnvC scope cl Cc X.env) fp) ifs (tTo C c))
    (he : ∀ (s : Shared) (H : Hp) (Cc : Addr) (cl : List (Str × Addr)) (fp : List Addr), PE (X.blk s H scope (compEnvC scope cl Cc X.env) fp) x (tE C elt)) (hs : ∀ z, foldedSetIterable iter X.env z = pure z) :
    PE X (.ListComp x [⟨tg, iter, ifs, 0⟩] scope pos) (tE C (.lck vs g i c elt)) := by
  refine PE.weak (pe_lock (pe_lc hc hN (pi_keys hi) ok hg ht he hs)) fun σ H Q ⟨S, P, ρ, Q0, R, ⟨kvs, hk, hz, hf, h⟩, q⟩ => ?_
  rw [hv]
  obtain ⟨p, hp, np, hd⟩ := own_dict R hk
  have nS : ¬ S.dom p := fun z => np (R.sub p z)
  have fin : ∀ (u : HO) (od : Obj) (J : L2.It), H p = some u → Mut (some u) → Wk S.dom (Nn P (ρ.set i none) σ) (upd H p (.frz od u)) J (kvs.map (·.1)) → tLc (fun _ _ R => R J (upd H p (.frz od u))) (tG g) (tTo C c) (tE C elt) vs σ (upd H p (.frz od u)) fun v H' => H' p = some (.frz od u) ∧ Q v (upd H' p u) := fun u od J hu m w => by
    refine lc_body hgs (R.lock hk hp np) hf w h fun ads hq D acc H' e2 i2 hD hD2 ra => ?_
    have hp' : H' p = some (.frz od u) := e2 _ _ upd_same nS
    have hDp : D ≠ p := fun e => by rw [e, upd_same] at hD; cases hD
    have hDH : H D = none := by rw [upd_ne hDp] at hD; exact hD
    have le : ∀ a, Nn P ρ σ a → Nn P (ρ.set i none) σ a ∨ a = p := fun a z => by
      rcases z with z | ⟨j, d, h1, h2⟩
      · exact .inl (.inl z)
      · by_cases e : j = i
        · subst e
          rw [hp] at h2; cases h2
          exact .inr rfl
        · exact .inl (.inr ⟨j, d, by rw [List.getElem?_set_ne (Ne.symm e)]; exact h1, h2⟩)
    have ra' : RpAll (fun a => Nn P ρ σ a ∨ a = D) (upd H' p u) acc ads := ra.unl hp' fun a z => z.elim (fun z => (le a z).elim (fun z => .inl (.inl z)) .inr) fun z => .inl (.inr z)
    refine ⟨hp', q _ hq _ _ (fun a o ha n => ?_) (S.stab _ _ i2 fun a ha => upd_ne fun e => nS (e ▸ ha)) (.lst (R.fit.ne hDH) (by rw [upd_ne hDp]; exact hD2) (ra'.less fun a z => .inl z)) fun _ _ => ⟨D, rfl, hDH, .lst (by rw [upd_ne hDp]; exact hD2) ra'⟩⟩
    by_cases e : a = p
    · rw [e, upd_same, ← hu, ← e]; exact ha
    · rw [upd_ne e]
      exact e2 a o (by rw [upd_ne e]; exact ha) n
  rcases hd with ⟨ks, hks, ek⟩ | ⟨ks, hks, ek⟩
  · have hl : ks.length ≤ sizeLine := by
      have := congrArg List.length ek
      simp only [List.length_map] at this
      omega
    refine ⟨p, _, hks, trivial, fun od => ?_⟩
    refine ⟨_, hp, p, od, rfl, .inl ⟨ks, upd_same, ?_⟩⟩
    exact fin _ od _ hks trivial (ek ▸ wk_keys hl upd_same nS)
  · have hl : ks.length ≤ sizeLine := by
      have := congrArg List.length ek
      simp only [List.length_map] at this
      omega
    refine ⟨p, _, hks, trivial, fun od => ?_⟩
    refine ⟨_, hp, p, od, rfl, .inr ⟨ks, upd_same, ?_⟩⟩
    exact fin _ od _ hks trivial (ek ▸ wk_keysT hl upd_same nS)
end
end PD
set_option maxHeartbeats 4000000
/-! PDls: the set of a list of ints (HandS has the one of a tuple). -/
namespace PD
open PySem L2 PySem.Spec PyProof.Rows
/-- a new set, as this world makes it -/
abbrev mtSet (w : World) : Obj := { cls := .type "set", dict := none, data := .set #[] 0 (.fresh 0 0 (!w.params.followText "set-order")) }
section
variable {P : Program} {w : World} {A : Around} {E : Value → Shared → Prop} {s : Shared}
/-- what __init__ leaves behind -/
def Filled (w : World) (s : Shared) (ns : List Int) (r : Value) (s2 : Shared) : Prop :=
  r = .none ∧ ∃ (h' : Heap) (tk c : Nat), s2 = { s with heap := h', toks := tk } ∧ SetR w h' s.heap.objs.size (fun j => decide (j ∈ ns)) c ∧ c ≤ ns.length ∧ ∀ b o, s.heap.get? b = some o → h'.get? b = some o
theorem lst_vals {items : Array Value} {ns : List Int} (hit : IntsAre items.toList ns) (len : items.size = ns.length) : ∀ (i : Nat) (v : Value), items[i]? = some v → ∃ k t, ns[i]? = some k ∧ v = .int k t := by
  intro i v hv
  have hi : i < ns.length := len ▸ (Array.getElem?_eq_some_iff.mp hv).1
  obtain ⟨t, rfl⟩ := PyProof.Rows.IntsAre.int_at hit i v (by rw [Array.getElem?_toList]; exact hv)
  have hg := List.getElem?_eq_getElem hi
  exact ⟨_, t, hg, by rw [List.getD_eq_getElem?_getD, hg]; rfl⟩
/-- the loop over the list, from the new set on -/
theorem fill_list {A : Around} {l : Addr} {items : Array Value} {ns : List Int} {R : Result → Shared → Prop} (hh : A.in1.handled = none) (hl : s.heap.IsList l items) (hit : IntsAre items.toList ns) (hb : ns.length + 1 < scanBound)
    (q : ∀ (h' : Heap) (tk c : Nat), SetR w h' s.heap.objs.size (fun j => decide (j ∈ ns)) c → c ≤ ns.length → (∀ b o, s.heap.get? b = some o → h'.get? b = some o) → R (.ok (.ret .none)) { s with heap := h', toks := tk }) :
    codeAny (model P w) A (.builtin "set.update.loop" ⟨[.ref s.heap.objs.size, .ref (s.heap.objs.size + 1)], []⟩) R { s with heap := (s.heap.push (mtSet w)).push { cls := .type "list_iterator", data := .fields #[.ref l, .int 0 0] } } := by
  have len : items.size = ns.length := by
    rw [← Array.length_toList]; exact IntsAre.length hit
  have hlS : l < s.heap.objs.size := by
    obtain ⟨o, ho, _⟩ := hl
    exact Heap.lt_size ho
  have z1 : (s.heap.push (mtSet w)).objs.size = s.heap.objs.size + 1 := Heap.size_push ..
  have hI : ((s.heap.push (mtSet w)).push { cls := .type "list_iterator", data := .fields #[.ref l, .int 0 0] }).get? (s.heap.objs.size + 1) = some { cls := .type "list_iterator", data := .fields #[.ref l, .int 0 0] } := by
    rw [← z1]; exact Heap.get?_push_size _ rfl
  have hS0 : ((s.heap.push (mtSet w)).push { cls := .type "list_iterator", data := .fields #[.ref l, .int 0 0] }).get? s.heap.objs.size = some (mtSet w) := Heap.get?_push_of_some _ (Heap.get?_push_size _ rfl)
  have out : s.heap.objs.size ∉ [s.heap.objs.size + 1, l] := fun z => by
    rcases List.mem_cons.mp z with z | z
    · exact absurd z (Nat.ne_of_lt (Nat.lt_succ_self _))
    · exact absurd (List.mem_singleton.mp z) (Nat.ne_of_gt hlS)
  refine set_update_ints ((Walks.list hh _ l (Nat.ne_of_lt (Nat.lt_succ_of_lt hlS)) items).toS) s.heap.objs.size out ns len hb (lst_vals hit len) (items.size - 0) 0 _ (by omega) (Nat.zero_le _) ⟨⟨_, hI, rfl, rfl⟩, (hl.push _).push _⟩ ⟨0, Nat.le_refl 0, setR_new_at hS0⟩ ?_
  rintro ⟨h', g, d, tk, os⟩ c hm hc hR
  obtain rfl : g = s.gens := hm.gens
  obtain rfl : d = s.drawn := hm.drawn
  obtain rfl : os = s.os := hm.os
  refine q h' tk c hR (by omega) fun b o e => ?_
  have hb0 := Heap.lt_size e
  have off : b ∉ [s.heap.objs.size, s.heap.objs.size + 1] := fun z => by
    rcases List.mem_cons.mp z with z | z
    · exact absurd z (Nat.ne_of_lt hb0)
    · exact absurd (List.mem_singleton.mp z) (Nat.ne_of_lt (Nat.lt_succ_of_lt hb0))
  exact hm.heap b o off (Heap.get?_push_of_some _ (Heap.get?_push_of_some _ e))
set_option maxHeartbeats 8000000 in
/-- __init__ of the new set -/
theorem init_list {A : Around} {l : Addr} {items : Array Value} {ns : List Int} (hh : A.handled = none) (hl : s.heap.IsList l items) (hit : IntsAre items.toList ns) (hb : ns.length + 1 < scanBound) :
    codeAny (model P w) A (.call (.builtin "set.__init__") ⟨[.ref s.heap.objs.size, .ref l], []⟩) (wants (Filled w s ns) E) { s with heap := s.heap.push (mtSet w) } := by
  have hS : (s.heap.push (mtSet w)).get? s.heap.objs.size = some (mtSet w) := Heap.get?_push_size _ rfl
  have hT : Shared.TypeIs { s with heap := s.heap.push (mtSet w) } (.ref s.heap.objs.size) "set" := ⟨_, hS, rfl⟩
  refine codeAny_call_builtin F.called_set.init.plain F.entry_set_init (check_set_init_1 hT ?_)
  have sl := F.sub_list_set
  have sf := F.sub_list_frozenset
  have nd : (Value.type "list" == Value.type "dict") = false := by decide
  have hl1 : (s.heap.push (mtSet w)).IsList l items := hl.push _
  obtain ⟨ol, hol, hcl, nl, hdl⟩ := id hl
  obtain ⟨ocls, odict, odata, oslots⟩ := ol
  simp only at hcl hdl
  subst hcl
  subst hdl
  have hol' : (s.heap.push (mtSet w)).get? l = some { cls := .type "list", dict := odict, data := .seq items nl, slots := oslots } := Heap.get?_push_of_some _ hol
  unfold Builtin.«set.__init__» noKeywords Builtin.Frozenset.updateFrom
  generalize hP : pyIter = PI
  wp_walk
  subst hP
  refine wpAny_pyIter_list hl1 ?_
  refine wpAny_bind (wpAny_runValue ?_)
  have z1 : (s.heap.push (mtSet w)).objs.size = s.heap.objs.size + 1 := Heap.size_push ..
  show codeAny _ _ (.builtin "set.update.loop" ⟨[.ref s.heap.objs.size, .ref (s.heap.push (mtSet w)).objs.size], []⟩) _ _
  rw [z1]
  refine fill_list (s := s) (by simp [hh]) hl hit hb fun h' tk c r1 r2 r3 => ?_
  show wpAny _ _ _ _ _ _
  refine wpAny_pure ?_
  show wpAny _ _ (ret Value.none) _ _ _
  exact wpAny_pure ⟨rfl, h', tk, c, rfl, r1, r2, r3⟩
set_option maxHeartbeats 8000000 in
/-- set(xs), xs a list of ints -/
theorem call_set_lst {l : Addr} {items : Array Value} (ns : List Int) {Q : Value → Shared → Prop} (hh : A.handled = none) (hl : s.heap.IsList l items) (hit : IntsAre items.toList ns) (hb : ns.length + 1 < scanBound)
    (q : ∀ (h' : Heap) (tk c : Nat), SetR w h' s.heap.objs.size (fun j => decide (j ∈ ns)) c → c ≤ ns.length → (∀ b o, s.heap.get? b = some o → h'.get? b = some o) → Q (.ref s.heap.objs.size) { s with heap := h', toks := tk }) :
    wpAny (model P w) A (call (.type "set") [.ref l]) Q E s := by
  refine wpAny_call (codeAny_of_tree ?_)
  show wpAny _ _ (callAny (.type "set") _) _ _ _
  refine wpAny_pure ⟨Code.quiet_builtin _ (by decide +kernel), codeAny_builtin F.entry_type_call ?_⟩
  rw [Around.under_plain (weight_type_call_type "set" [.ref l] []) rfl]
  obtain ⟨c, tl, hmro⟩ := F.called_set.mro
  have a1 := F.called_set.made
  have a2 := F.called_set.sub
  have a3 := F.called_set.notType
  have a4 := F.called_set.canCreate
  have a5 := F.typeCall_set_1 (.ref l)
  have a6 := F.called_set.init.lookup
  repeat (any_goals (first | assumption | wp_step))
  refine codeAny_mono (code_set_led1 (.ref l) (E := E) (Q₁ := fun v s1 => v = .ref s.heap.objs.size ∧ s1 = { s with heap := s.heap.push (mtSet w) }) ⟨rfl, rfl⟩) fun r s1 hr => ?_
  match r, hr with
  | .error e, hr => exact hr
  | .ok (.ret v), hr =>
    obtain ⟨rfl, rfl⟩ := hr
    have hS : (s.heap.push (mtSet w)).get? s.heap.objs.size = some (mtSet w) := Heap.get?_push_size _ rfl
    have hT : Shared.TypeIs { s with heap := s.heap.push (mtSet w) } (.ref s.heap.objs.size) "set" := ⟨_, hS, rfl⟩
    have a7 := F.called_set.init.bind (.ref s.heap.objs.size)
    repeat (any_goals (first | assumption | wp_step))
    refine codeAny_mono (init_list (E := E) (by simp [hh]) hl hit hb) fun r2 s2 h2 => ?_
    match r2, h2 with
    | .error e, h2 => exact h2
    | .ok (.ret v), h2 =>
      obtain ⟨rfl, h', tk, c2, rfl, r1, r2, r3⟩ := h2
      repeat (any_goals (first | assumption | wp_step))
      exact q _ _ _ r1 r2 r3
end
end PD
/-! PDm: calls, tests, and: every expression is as its compact form says. -/
namespace PD
open PySem L2

section
variable {C : Calls} {X : Cx} {tb : List (Str × Nat)}
theorem gl_of {x : Str} (h : glB X.env.scope x = true) : Gl X x := by
  unfold glB at h
  split at h
  · assumption
  · cases h
theorem no_star : ∀ {xs : List PySem.Expr} {env : PySem.Env} {pos : Pos}, xs.all notStar = true → (backTo pos (starEach xs env)).any (·.1) = false
  | [], _, _, _ => rfl
  | x :: xs, env, pos, h => by
    rw [List.all_cons, Bool.and_eq_true] at h
    rw [star_eq h.1]
    show (false || (backTo pos (starEach xs env)).any (·.1)) = false
    rw [no_star h.2]; rfl
theorem ev_call (G : Good tb C X) {f : Nat} {nm : Str} {np : Nat} {as : Es} {x : PySem.Expr} {xs : List PySem.Expr} {p pos : Pos} (hf : tb[f]? = some (nm, np)) (hg : glB X.env.scope nm = true) (hn : okName nm = true) (hs : (x :: xs).all notStar = true) (hl : (x :: xs).length = np)
    (ha : PA X (x :: xs) (tEa C as)) : PE X (.Call (.Name nm p) (x :: xs) [] pos) (tE C (.call f as)) := by
  obtain ⟨k, a, fd, ps, hr, hm, hk, hb, F⟩ := G.fns f nm np hf
  unfold okName at hn
  simp only [Bool.and_eq_true, Bool.not_eq_true'] at hn
  rw [List.all_cons, Bool.and_eq_true] at hs
  refine PE.weak (pe_callG F hr G.grd (gl_of hg) hm hk hb ha hn.1.1 (star_eq hs.1) (no_star hs.2)) fun σ H Q ⟨S, P, ρ, Q0, R, h, q⟩ => ?_
  refine ⟨S, P, ρ, _, R, h, fun bs hbs vs H1 e1 i1 r1 => ?_⟩
  have R1 := R.ext e1 i1
  exact ⟨S, _, bs, Q0, R1.domN, R1.fit, i1, r1, hbs, fun d hd v H2 e2 i2 r2 => q d hd v H2 (e1.trans e2) i2 r2 (fun z => nomatch z)⟩
/-- a built-in called -/
theorem w_prim {p : Prim} {as : Es} {σ : L2.St} {H : Hp} {Q : VK} (h : tE C (.prim p as) σ H Q) :
    tCB (fun xs H Q => ∃ S N ds r, Fit N H ∧ RpBs S N H xs ds ∧ primD p ds = some r ∧ Out true N H r Q) (tEb C as) σ H Q := by
  obtain ⟨S, P, ρ, Q0, R, h, q⟩ := h
  refine ⟨S, P, ρ, _, R, h, fun ds hds vs H1 e1 i1 r1 => ?_⟩
  have R1 := R.ext e1 i1
  obtain ⟨r, er, q0⟩ := hds
  refine ⟨S, _, ds, r, R1.fit, r1, er, fun v' H' e' rp fs => q r q0 v' H' (e1.trans (e'.any _)) (S.ext i1 e') rp fun f l => (fs rfl l).back i1 e1⟩
theorem ev_primB {p : Prim} {as : Es} {nm : Str} {id : String} {x : PySem.Expr} {xs : List PySem.Expr} {pp pos : Pos} (hc : PrR X p (.builtin id)) (hg : glB X.env.scope nm = true) (hm : X.mg nm = none) (hv : bootBuiltins nm = some (.builtin id)) (h1 : nm ≠ "__name__") (h2 : (nm == ("__debug__" : Str)) = false) (hs : (x :: xs).all notStar = true)
    (ha : PA X (x :: xs) (tEb C as)) : PE X (.Call (.Name nm pp) (x :: xs) [] pos) (tE C (.prim p as)) := by
  rw [List.all_cons, Bool.and_eq_true] at hs
  exact PE.weak (pe_callB hc (gl_of hg) hm hv ha h1 h2 (star_eq hs.1) (no_star hs.2)) fun σ H Q h => w_prim h
theorem ev_primT {p : Prim} {as : Es} {nm : Str} {id : String} {x : PySem.Expr} {xs : List PySem.Expr} {pp pos : Pos} (hc : PrR X p (.type id)) (hg : glB X.env.scope nm = true) (hm : X.mg nm = none) (hv : bootBuiltins nm = some (.type id)) (h1 : nm ≠ "__name__") (h2 : (nm == ("__debug__" : Str)) = false) (hs : (x :: xs).all notStar = true)
    (ha : PA X (x :: xs) (tEb C as)) : PE X (.Call (.Name nm pp) (x :: xs) [] pos) (tE C (.prim p as)) := by
  rw [List.all_cons, Bool.and_eq_true] at hs
  exact PE.weak (pe_callTy hc (gl_of hg) hm hv ha h1 h2 (star_eq hs.1) (no_star hs.2)) fun σ H Q h => w_prim h
theorem pr_repr (G : Good tb C X) : PrR X .repr (.builtin "repr") := by
  intro pins s σ H xs us Q I r h
  obtain ⟨S, N, ds, d, f, rb, hp, o⟩ := h
  unfold primD at hp
  split at hp <;> (try (rename_i e; cases e)) <;> (try cases hp)
  rename_i d
  split at hp <;> cases hp
  rename_i ok
  unfold showOk at ok
  simp only [Bool.and_eq_true, decide_eq_true_eq] at ok
  obtain ⟨⟨h1, h2⟩, h3⟩ := ok
  have hu := G.units
  obtain ⟨x, rfl, q⟩ := rb.one
  obtain ⟨u, rfl, rx⟩ := r.one
  obtain ⟨as, rd, hd⟩ := q.reads I rx
  have sm : PyData.hasDict d = true → sysModules ∉ as := fun _ z => by
    obtain ⟨ob, hob⟩ := G.smod
    obtain ⟨_, hn⟩ := I.bs _ _ hob
    obtain ⟨o', ho'⟩ := hd _ z
    rw [hn] at ho'; cases ho'
  have fin : ∀ (t : Tok) (s' : Shared), Inv X pins σ H s' → EP X pins σ Q (.str d.shown t) s' := fun t s' I' => ⟨.str _, H, I', ⟨t, rfl⟩, o.imm (.str _) rfl⟩
  cases rd with
  | none =>
    exact PySem.P.repr_of_none (fin _ _ (I.tok _))
  | bool b =>
    have e : (PyData.bool b).shown = (if b then "True" else "False" : Str) := by simp only [PyData.shown]
    rw [e] at fin
    exact PySem.P.repr_of_bool (fin _ _ (I.tok _))
  | int i t =>
    have e : (PyData.int i).shown = (toString i : Str) := by simp only [PyData.shown]
    rw [e] at fin
    exact PySem.P.repr_of_int (by simpa [PyData.showable] using h1) (fin _ _ (I.tok _))
  | str x t =>
    have e : (PyData.str x).shown = reprText x := by simp only [PyData.shown]
    rw [e] at fin h3
    exact PySem.P.repr_of_str (fin _ _ (I.tok _)) h3
  | list a1 a2 a3 a4 =>
    exact repr_of_reads' (h₀ := s.heap) (.list a1 a2 a3 a4) h1 sm G.grd (by omega) (fun _ _ q => q) (fun h' u tk hk => fin _ _ (I.kept hk)) h3
  | tuple a1 a2 a3 a4 =>
    exact repr_of_reads' (h₀ := s.heap) (.tuple a1 a2 a3 a4) h1 sm G.grd (by omega) (fun _ _ q => q) (fun h' u tk hk => fin _ _ (I.kept hk)) h3
  | dict a1 a2 a3 a4 a5 =>
    exact repr_of_reads' (h₀ := s.heap) (.dict a1 a2 a3 a4 a5) h1 sm G.grd (by omega) (fun _ _ q => q) (fun h' u tk hk => fin _ _ (I.kept hk)) h3
theorem ev_prim (G : Good tb C X) {p : Prim} {as : Es} {nm : Str} {ty : Bool} {id : String} {x : PySem.Expr} {xs : List PySem.Expr} {pp pos : Pos} (hp : primName p = some (nm, ty, id)) (hg : glB X.env.scope nm = true) (hs : (x :: xs).all notStar = true)
    (ha : PA X (x :: xs) (tEb C as)) : PE X (.Call (.Name nm pp) (x :: xs) [] pos) (tE C (.prim p as)) := by
  cases p <;> simp only [primName] at hp <;> (try cases hp)
  · exact ev_primB (pr_len G.units) hg (G.blt _ (by simp)) (by decide +kernel) (by decide) (by decide) hs ha
  · exact ev_primT pr_tuple hg (G.blt _ (by simp)) (by decide +kernel) (by decide) (by decide) hs ha
  · exact ev_primT (pr_list G.calm) hg (G.blt _ (by simp)) (by decide +kernel) (by decide) (by decide) hs ha
  · exact ev_primB (pr_sorted G.calm G.units) hg (G.blt _ (by simp)) (by decide +kernel) (by decide) (by decide) hs ha
  · exact ev_primB (pr_sum G.calm) hg (G.blt _ (by simp)) (by decide +kernel) (by decide) (by decide) hs ha
  · exact ev_primB (pr_max G.calm) hg (G.blt _ (by simp)) (by decide +kernel) (by decide) (by decide) hs ha
  · exact ev_primB (pr_min G.calm) hg (G.blt _ (by simp)) (by decide +kernel) (by decide) (by decide) hs ha
  · exact ev_primB pr_abs hg (G.blt _ (by simp)) (by decide +kernel) (by decide) (by decide) hs ha
  · exact ev_primB (pr_all G.calm) hg (G.blt _ (by simp)) (by decide +kernel) (by decide) (by decide) hs ha
  · exact ev_primB (pr_any G.calm) hg (G.blt _ (by simp)) (by decide +kernel) (by decide) (by decide) hs ha
  · exact ev_primT pr_int hg (G.blt _ (by simp)) (by decide +kernel) (by decide) (by decide) hs ha
  · exact ev_primB (pr_repr G) hg (G.blt _ (by simp)) (by decide +kernel) (by decide) (by decide) hs ha
  · exact ev_primT (pr_dictOf G.calm G.units) hg (G.blt _ (by simp)) (by decide +kernel) (by decide) (by decide) hs ha
/-! isinstance -/
def tyN : Ty → String
  | .int => "int" | .bool => "bool" | .str => "str" | .list => "list" | .tuple => "tuple" | .dict => "dict"
def tyOfD : D → String
  | .none => "NoneType" | .bool _ => "bool" | .int _ => "int" | .str _ => "str" | .list _ => "list" | .tuple _ => "tuple" | .dict _ => "dict"
theorem ty_of {N : Zn} {H : Hp} {x : V} {d : D} (h : RpB N H x d) : TyOf X.K H x (.type (tyOfD d)) := by
  cases d with
  | none => cases h.non_of; exact .non
  | bool b => cases h.bl_of; exact .bl b
  | int i => cases h.int_of; exact .int i
  | str z => cases h.str_of; exact .str z
  | list xs => obtain ⟨a, ys, rfl, ha, _⟩ := h.list_of; exact .lst ha
  | tuple xs => obtain ⟨a, ys, rfl, ha, _⟩ := h.tup_of; exact .tup ha
  | dict xs =>
    obtain ⟨a, rfl, ⟨_, _, ha, _⟩ | ⟨_, _, _, ha, _⟩⟩ := h.dict_of
    · exact .dK ha
    · exact .dT ha
theorem kit_of (d : D) (t : Ty) : PySem.W.kitOne X.K (.type (tyOfD d)) (.type (tyN t)) = some (isiD d [t]) := by
  refine kit_ty (K := X.K) ?_
  cases d <;> cases t <;> (dsimp only [tyOfD, tyN, isiD, List.any]; decide +kernel)
def rIsiD : List V → Hp → VK → Prop := fun xs H Q => ∃ N x d t, xs = [x, .ty (tyN t)] ∧ RpB N H x d ∧ Q (.bl (isiD d [t])) H
theorem cr_isi : CallR X (.builtin "isinstance") rIsiD := by
  intro pins s σ H xs us Q I r h
  obtain ⟨N, x, d, t, rfl, rb, q⟩ := h
  obtain ⟨u, v, rfl, r1, r2⟩ := r.two
  cases r2
  exact isinst_ok I r1 (ty_of rb) (kit_of d t) fun tk => ⟨.bl _, H, I.tok _, rfl, q⟩
theorem ev_isi (G : Good tb C X) {a : E} {t : Ty} {x : PySem.Expr} {tn : Str} {p p2 pos : Pos} (ht : bootBuiltins tn = some (.type (tyN t))) (hm : X.mg tn = none) (hn : tn ≠ "__name__") (hdb : (tn == ("__debug__" : Str)) = false) (hg : glB X.env.scope "isinstance" = true) (hg2 : glB X.env.scope tn = true) (hs : notStar x = true)
    (ha : PE X x (tBo C a)) : PE X (.Call (.Name "isinstance" p) [x, .Name tn p2] [] pos) (tE C (.isi a [t])) :=
  PE.weak (pe_callB cr_isi (gl_of hg) (G.blt _ (by simp)) (by decide +kernel) (pa_cons ha (pa_cons (pe_bltn (v := .ty (tyN t)) (gl_of hg2) hm ht rfl hn hdb) pa_nil) (star_eq hs)) (by decide) (by decide) (star_eq hs)) fun σ H Q ⟨S, P, ρ, Q0, R, h, q⟩ =>
    ⟨S, P, ρ, _, R, h, fun d hd v H1 e1 i1 r1 => ⟨_, v, d, t, rfl, r1.1, q _ hd _ H1 e1 i1 (.bl _) (fun z => nomatch z)⟩⟩
/-! list(range(..)), tuple(range(..)) -/
def tRgE (C : Calls) (lo : Eo) (hi : E) : L2.St → Hp → (Int → Int → Hp → Prop) → Prop := fun σ H Q => ∃ S P ρ Q0, Rel S P ρ σ H ∧ (evo C lo ρ fun l => ev C hi ρ fun h => lift (rngD (.int (l.getD 0)) h) Q0) ∧ ∀ a b, RgOk a b → Q0 (rangeI a b) → ∀ H', Ext S.dom H H' → S.inv H' → Q a b H'
theorem prg_e1 (G : Good tb C X) {hi : E} {x : PySem.Expr} {p pos : Pos} (hg : glB X.env.scope "range" = true) (hs : notStar x = true) (h : PE X x (tE C hi)) : PRg X (.Call (.Name "range" p) [x] [] pos) (tRgE C .no hi) :=
  fun pins s σ H Q I ⟨S, P, ρ, Q0, R, hh, q⟩ => prg_1 (gl_of hg) (G.blt _ (by simp)) h (star_eq hs) pins s σ H Q I ⟨S, P, ρ, _, R, hh, fun d hd v H1 e1 i1 r1 _ => by
    obtain ⟨ds, eds, q0⟩ := hd
    obtain ⟨a, c, ea, rfl, hr, rfl⟩ := rngD_of eds
    cases ea
    exact ⟨c, (RpB.of r1).int_of, q _ _ hr q0 H1 e1 i1⟩⟩
theorem prg_e2 (G : Good tb C X) {lo hi : E} {x y : PySem.Expr} {p pos : Pos} (hg : glB X.env.scope "range" = true) (hs : notStar x = true) (hs2 : notStar y = true) (hl : PE X x (tE C lo)) (h : PE X y (tE C hi)) : PRg X (.Call (.Name "range" p) [x, y] [] pos) (tRgE C (.yes lo) hi) :=
  fun pins s σ H Q I ⟨S, P, ρ, Q0, R, hh, q⟩ => prg_2 (gl_of hg) (G.blt _ (by simp)) hl h (star_eq hs) (star_eq hs2) (no_star (by simp [hs2])) pins s σ H Q I ⟨S, P, ρ, _, R, hh, fun d hd v H1 e1 i1 r1 _ => by
    obtain ⟨j, rfl, hd⟩ := hd
    refine ⟨S, P, ρ, _, R.ext e1 i1, hd, fun d2 hd2 v2 H2 e2 i2 r2 _ => ?_⟩
    obtain ⟨ds, eds, q0⟩ := hd2
    obtain ⟨a, c, ea, rfl, hr, rfl⟩ := rngD_of eds
    cases ea
    exact ⟨j, c, (RpB.of r1).int_of, (RpB.of r2).int_of, q _ _ hr q0 H2 (e1.trans e2) i2⟩⟩
theorem rgV_rp {N : Zn} {H : Hp} (a b : Int) : RpAll N H (rgV a b) (rangeI a b) := by
  unfold rgV rangeI
  generalize List.range (b - a).toNat = l
  induction l with
  | nil => exact .nil
  | cons i l ih => exact .cons (.int _) ih
theorem ev_rg (G : Good tb C X) {t : Bool} {lo : Eo} {hi : E} {x : PySem.Expr} {p pos : Pos} (hg : glB X.env.scope (if t then "tuple" else "list") = true) (hs : notStar x = true) (h : PRg X x (tRgE C lo hi)) : PE X (.Call (.Name (if t then "tuple" else "list") p) [x] [] pos) (tE C (.rg t lo hi)) := by
  cases t with
  | true =>
    refine PE.weak (pe_tupRg G.calm (gl_of hg) (G.blt _ (by simp)) h (star_eq hs)) fun σ H Q ⟨S, P, ρ, Q0, R, hh, q⟩ => ⟨S, P, ρ, _, R, hh, fun a b hr q0 H1 e1 i1 => ⟨hr, fun z hz => ?_⟩⟩
    exact q _ q0 _ _ (e1.trans (Ext.new hz)) (S.ext i1 (Ext.new hz)) (.tup upd_same (rgV_rp a b)) (fun z => nomatch z)
  | false =>
    refine PE.weak (pe_listRg G.calm (gl_of hg) (G.blt _ (by simp)) h (star_eq hs)) fun σ H Q ⟨S, P, ρ, Q0, R, hh, q⟩ => ⟨S, P, ρ, _, R, hh, fun a b hr q0 H1 e1 i1 => ⟨hr, fun z hz => ?_⟩⟩
    exact q _ q0 _ _ (e1.trans (Ext.new hz)) (S.ext i1 (Ext.new hz)) (.lst ((R.ext e1 i1).fit.ne hz) upd_same (rgV_rp a b)) (fun _ _ => (freshL (R.ext e1 i1).fit (rgV_rp a b) hz).back i1 e1)
/-! tests -/
theorem t_plain {a : E} {x : PySem.Expr} (hp : plainTest x = true) (h : PE X x (tBo C a)) : PT X x (tT C (.e a)) :=
  PT.weak (pt_truth h (by intro w; cases x <;> first | rfl | cases hp)) fun σ H Q ⟨S, P, ρ, Q0, R, hh, q⟩ => ⟨S, P, ρ, _, R, hh, fun d hd v H1 e1 i1 r1 => by
    obtain ⟨k, ek, q0⟩ := hd
    exact ⟨k, truV_of r1.1 ek, q k q0 H1 e1 i1⟩⟩
theorem t_cmp (hu : X.A.units + 64 < cLine) {op : COp} {a b : E} {x y : PySem.Expr} {p : Pos} (ha : PE X x (tBo C a)) (hb : PE X y (tBo C b)) (hs : notSet y = true) : PT X (.Compare x [copF op] [y] p) (tT C (.e (.cmp op a b))) :=
  PT.weak (pt_cmpR (op2_cop hu op) ha hb (by cases y <;> first | rfl | cases hs)) fun σ H Q ⟨S, P, ρ, Q0, R, h, q⟩ => by
    refine w_op2s (C := C) (a := a) (b := b) (sem := copD op) (fr := false) ⟨S, P, ρ, (fun d => lift (truD d) Q0), R, h, fun d hd hb v H1 e1 i1 r1 _ => ?_⟩
    obtain ⟨k, ek, q0⟩ := hd
    obtain ⟨_, _, eb⟩ := hb
    obtain ⟨k', rfl⟩ := copD_bool eb
    cases ek
    exact ⟨_, (RpB.of r1).bl_of, q _ q0 H1 e1 i1⟩
theorem t_chain (hu : X.A.units + 64 < cLine) {o1 o2 : COp} {a b c : E} {x y z : PySem.Expr} {p : Pos} (ha : PE X x (tBo C a)) (hb : PE X y (tBo C b)) (hc : PE X z (tBo C c)) (hs : notSet z = true) :
    PT X (.Compare x [copF o1, copF o2] [y, z] p) (tT C (.e (.chain o1 o2 a b c))) := by
  refine PT.weak (pt_chain (op2_cop hu o1) (op2_cop hu o2) ha hb hc (by
    show behindInMarks (copF o2) z = false
    cases z <;> first | rfl | cases hs)) fun σ H Q ⟨S, P, ρ, Q0, R, h, q⟩ => ?_
  refine ⟨S, P, ρ, _, R, h, fun d hd v H1 e1 i1 r1 => ?_⟩
  have R1 := R.ext e1 i1
  refine ⟨S, P, ρ, _, R1, hd, fun d2 hd2 v2 H2 e2 i2 r2 => ?_⟩
  have R2 := R1.ext e2 i2
  obtain ⟨w, ew, k, ek, hk⟩ := hd2
  refine ⟨_, d, d2, w, R2.fit, (r1.ext R1.fit R1.domN e2).1, r2.1, ew, fun v' H' e' rp _ => ?_⟩
  obtain ⟨k', rfl⟩ := copD_bool ew
  cases ek
  cases (RpB.of rp).bl_of
  refine ⟨_, rfl, ?_⟩
  have R3 := R2.ext0 e'
  cases k with
  | false =>
    simp only [Bool.false_eq_true, if_false] at hk ⊢
    obtain ⟨k2, ek2, q0⟩ := hk
    cases ek2
    exact ⟨_, rfl, q _ q0 H' ((e1.trans e2).trans (e'.any _)) R3.inv⟩
  | true =>
    simp only [if_true] at hk ⊢
    refine ⟨S, P, ρ, _, R3, hk, fun d3 hd3 v3 H3 e3 i3 r3 => ?_⟩
    have R4 := R3.ext e3 i3
    obtain ⟨u, eu, k2, ek2, q0⟩ := hd3
    refine ⟨_, d2, d3, u, R4.fit, ((r2.ext R2.fit R2.domN (e'.any _)).ext R3.fit R3.domN e3).1, r3.1, eu, fun v4 H4 e4 rp4 _ => ?_⟩
    obtain ⟨k3, rfl⟩ := copD_bool eu
    cases ek2
    exact ⟨_, (RpB.of rp4).bl_of, q _ q0 H4 ((((e1.trans e2).trans (e'.any _)).trans e3).trans (e4.any _)) (S.ext i3 e4)⟩
theorem t_and {a b : T} {x y : PySem.Expr} {r : List PySem.Expr} {p : Pos} (ha : PT X x (tT C a)) (hb : PW X (.BoolOp .And (y :: r) p) (tT C b)) : PW X (.BoolOp .And (x :: y :: r) p) (tT C (.and a b)) :=
  ⟨fun whole pins s σ H Q I ⟨S, P, ρ, Q0, R, h, q⟩ => (pw_and ha hb).run whole pins s σ H Q I ⟨S, P, ρ, _, R, h, fun c hc H1 e1 i1 => by
    cases c with
    | true =>
      simp only [if_true] at hc ⊢
      exact ⟨S, P, ρ, _, R.ext e1 i1, hc, fun k hk H2 e2 i2 => q k hk H2 (e1.trans e2) i2⟩
    | false =>
      simp only [Bool.false_eq_true, if_false] at hc ⊢
      exact q _ hc H1 e1 i1⟩⟩
theorem t_or {a b : T} {x y : PySem.Expr} {r : List PySem.Expr} {p : Pos} (ha : PT X x (tT C a)) (hb : PW X (.BoolOp .Or (y :: r) p) (tT C b)) : PW X (.BoolOp .Or (x :: y :: r) p) (tT C (.or a b)) :=
  ⟨fun whole pins s σ H Q I ⟨S, P, ρ, Q0, R, h, q⟩ => (pw_or ha hb).run whole pins s σ H Q I ⟨S, P, ρ, _, R, h, fun c hc H1 e1 i1 => by
    cases c with
    | true =>
      simp only [if_true] at hc ⊢
      exact q _ hc H1 e1 i1
    | false =>
      simp only [Bool.false_eq_true, if_false] at hc ⊢
      exact ⟨S, P, ρ, _, R.ext e1 i1, hc, fun k hk H2 e2 i2 => q k hk H2 (e1.trans e2) i2⟩⟩⟩
theorem t_not {a : T} {x : PySem.Expr} {p : Pos} (ha : PT X x (tT C a)) : PT X (.UnaryOp .Not x p) (tT C (.not a)) :=
  PT.weak (pt_not ha) fun σ H Q ⟨S, P, ρ, Q0, R, h, q⟩ => ⟨S, P, ρ, _, R, h, fun c hc H1 e1 i1 => q _ hc H1 e1 i1⟩
end
end PD
set_option maxHeartbeats 2000000
/-! PDmb: methods asked of data (list.index); dicts displayed. -/
namespace PD
open PySem L2 PyProof.Rows
section
variable {C : Calls} {X : Cx} {tb : List (Str × Nat)}
theorem indexD_of {xs : List D} {d r : D} (h : indexD xs d = some r) : d.canLay0 = true ∧ PyData.canLayAll0 xs = true ∧ min (PyData.depthAll xs) d.depth ≤ 60 ∧ ∃ j, j < xs.length ∧ r = .int (j : Nat) ∧ (∃ z, xs[j]? = some z ∧ PyData.eqv z d = true) ∧ ∀ m z, m < j → xs[m]? = some z → PyData.eqv z d = false := by
  unfold indexD at h
  split at h
  · rename_i hc
    simp only [Bool.and_eq_true, decide_eq_true_eq] at hc
    cases h
    obtain ⟨⟨⟨h1, h2⟩, h3⟩, h4⟩ := hc
    have hj : (xs.findIdx fun y => PyData.eqv y d) < xs.length := List.findIdx_lt_length_of_exists (by simpa using h4)
    refine ⟨h1, h2, h3, _, hj, rfl, ⟨xs[xs.findIdx fun y => PyData.eqv y d], List.getElem?_eq_getElem hj, List.findIdx_getElem (w := hj)⟩, fun m z hm hz => ?_⟩
    obtain ⟨hl, e⟩ := List.getElem?_eq_some_iff.mp hz
    have := List.not_of_lt_findIdx hm
    rw [e] at this
    simpa using this
  · cases h
theorem index_list {pins : List (Addr × Obj)} {s : Shared} {σ : L2.St} {H : Hp} {N : Zn} {a : Addr} {vs : List V} {ds : List D} {y : V} {d r : D} {uy : Value} {Q : VK} (hu : X.A.units + 64 < cLine) (I : Inv X pins σ H s) (ha : H a = some (.lst vs)) (rr : RpAll N H vs ds) (ry : RpB N H y d) (rv : RelV y uy) (h : indexD ds d = some r) (q : ∀ i : Int, r = .int i → Q (.int i) H) :
    wpAny (model X.prog X.w) X.A (call (.builtin "list.index") [.ref a, uy]) (EP X pins σ Q) X.xe s := by
  obtain ⟨c1, c2, c3, j, hj, rfl, ⟨z, hz, hzd⟩, hno⟩ := indexD_of h
  obtain ⟨as, r1, _⟩ := (RpB.lst ha rr : RpB N H (.ref a) (.list ds)).reads I (show RelV (.ref a) (.ref a) from rfl)
  obtain ⟨bs, r2, _⟩ := ry.reads I rv
  obtain ⟨its, rvs, ⟨⟨cls, dd, data, sls⟩, n, ho, hc, hdn, hdt⟩, hlen⟩ := I.list (SqL.of (K := X.K) ha)
  simp only at hc hdt
  subst hc hdt
  obtain ⟨as', h4⟩ : ∃ as', ReadsAll s.heap its ds as' := by
    cases r1 with
    | list e1 e2 e3 e4 =>
      rw [ho] at e1; cases e1; cases e3
      exact ⟨_, by simpa using e4⟩
  have hn : its.length = ds.length := SeqAt.ReadsAll.length ds its as' h4
  have hmap : its.map (SeqAt.readOf s.heap) = ds := SeqAt.readsAll_map ds its as' c2 h4
  have hvl := rvs.length
  have hsl := sizeLine_eq
  have hjs : j < its.toArray.size := by simp; omega
  have at_ : ∀ (m : Nat) (hm : m < its.toArray.size) (z' : D), ds[m]? = some z' → SeqAt.readOf s.heap its.toArray[m] = z' := by
    intro m hm z' hz'
    have hml : m < its.length := by simpa using hm
    rw [← hmap, List.getElem?_map, List.getElem?_eq_getElem hml] at hz'
    have e1 : SeqAt.readOf s.heap its[m] = z' := Option.some.inj hz'
    simpa using e1
  have e0 : PyData.eqv (SeqAt.readOf s.heap its.toArray[j]) d = true := by rw [at_ j hjs z hz]; exact hzd
  have e1 : ∀ m (hm : m < its.toArray.size), m < j → PyData.eqv (SeqAt.readOf s.heap its.toArray[m]) d = false := fun m hm hmj => by
    have hz' : ds[m]? = some ds[m] := List.getElem?_eq_getElem (by omega)
    rw [at_ m hm _ hz']
    exact hno m _ hmj hz'
  exact call_meets PySem.F.slot_list_index ⟨_, ho, rfl⟩ PySem.F.entry_list_index (PySem.F.args_list_index_2 _ _) (SeqAt.list_indexAt a its.toArray n dd sls uy (fun u => PyData.eqv (SeqAt.readOf s.heap u) d) j hjs (by omega) e0 e1)
    ⟨ho, SeqAt.items_eqAt (vs := its.toArray) (show ReadsAll s.heap its.toArray.toList ds as' from h4) r2 c2 c1 (by omega), ⟨.int (j : Nat), H, I.tok _, ⟨_, rfl⟩, q _ rfl⟩⟩
theorem ev_meth (G : Good tb C X) {p : Prim} {a : E} {as : Es} {o x : PySem.Expr} {m : Str} {ap cp : Pos} (hp : methS p = some m) (hl : (ap.endLine == cp.line) = true) (hs : notStar x = true) (hb : plainO o = true) (ho : PE X o (tBo C a)) (ha : PA X [x] (tEb C as)) : PE X (.Call (.Attribute o m ap) [x] [] cp) (tE C (.meth p a as)) := by
  have hst : starEach [x] X.env = [(false, eval x X.env)] := star_eq hs
  refine ⟨fun pins s σ H Q I ⟨S, P, ρ, Q0, R, h, q⟩ => ?_⟩
  refine wpAny_Call_method_late (by cases o <;> first | rfl | cases hb) (by rw [hst]; rfl) hl rfl (thn (ho.run pins s σ H (fun v H1 => ∃ d, mOk p d = true ∧ S.inv H1 ∧ Ext S.dom H H1 ∧ RpS S (Nn P ρ σ) H1 v d ∧ evb C as ρ fun ds => lift (primD p (d :: ds)) Q0) I ⟨S, P, ρ, _, R, h, fun d hd v H1 e1 i1 r1 => ⟨d, hd.1, i1, e1, r1, hd.2⟩⟩) fun v s1 ⟨xv, H1, I1, rv, d, hm, i1, e1, r1, hd⟩ => ?_)
  have R1 := R.ext e1 i1
  cases p <;> cases d <;> first | (cases hm; done) | skip
  rename_i ds
  cases hp
  obtain ⟨l, vs, rfl, hl1, rr⟩ := r1.1.list_of
  obtain ⟨t1, t2⟩ := tyV_is (T := "list") I1 rv (.inl ⟨rfl, vs, SqL.of hl1⟩)
  refine ⟨"list", "list.index", PySem.F.plainAttrs_list, PySem.F.slot_list_index, PySem.F.type_list_index, t1, t2, ?_⟩
  have hA := ha.run cp pins s1 σ H1 (fun us H2 => ∃ e r, us.length = 1 ∧ S.inv H2 ∧ Ext S.dom H1 H2 ∧ (∀ y, us = [y] → RpS S (Nn P ρ σ) H2 y e) ∧ indexD ds e = some r ∧ Q0 r) I1 ⟨S, P, ρ, _, R1, hd, fun es hes us H2 e2 i2 r2 => by
    obtain ⟨r, er, q0⟩ := hes
    unfold primD at er
    cases es with
    | nil => cases er
    | cons e es => cases es with
      | nil =>
        cases r2 with
        | cons r21 r22 => cases r22; exact ⟨e, r, rfl, i2, e2, fun y hy => by cases hy; exact r21, er, q0⟩
      | cons _ _ => cases er⟩
  rw [hst] at hA ⊢
  refine Calls.callWith_builtin rfl (Calls.evalArgs_plain (thn hA fun us s2 ⟨ys, H2, I2, r2, e, r, hy1, i2, e2, re, er, q0⟩ => ?_))
  obtain ⟨y, rfl⟩ : ∃ y, ys = [y] := by
    cases ys with
    | nil => cases hy1
    | cons y t => cases t with
      | nil => exact ⟨y, rfl⟩
      | cons _ _ => cases hy1
  obtain ⟨uy, rfl, ry⟩ := Vals.one r2
  cases rv
  have hl2 : H2 l = some (.lst vs) := e2 _ _ hl1 (r1.2 l rfl)
  have rr2 : RpAll (Nn P ρ σ) H2 vs ds := rr.ext (e2.mono R1.domN) R1.fit
  exact index_list G.units I2 hl2 rr2 (re y rfl).1 ry er fun i hi => by
    subst hi
    exact q _ q0 _ H2 (e1.trans e2) i2 (.int i) fun _ z => nomatch z
/-! sorted(set(t)) -/
theorem insU_mem (x k : Int) : ∀ l : List Int, k ∈ insU x l ↔ k = x ∨ k ∈ l
  | [] => by simp [insU]
  | y :: r => by
    unfold insU
    by_cases h1 : x < y
    · rw [if_pos h1]; simp
    · rw [if_neg h1]
      by_cases h2 : x = y
      · rw [if_pos h2]; subst h2; simp
      · rw [if_neg h2, List.mem_cons, insU_mem x k r, List.mem_cons]
        constructor
        · rintro (h | h | h)
          · exact .inr (.inl h)
          · exact .inl h
          · exact .inr (.inr h)
        · rintro (h | h | h)
          · exact .inr (.inl h)
          · exact .inl h
          · exact .inr (.inr h)
theorem insU_srt (x : Int) : ∀ {l : List Int}, l.Pairwise (· < ·) → (insU x l).Pairwise (· < ·)
  | [], _ => by simp [insU]
  | y :: r, h => by
    have h := List.pairwise_cons.mp h
    unfold insU
    by_cases h1 : x < y
    · rw [if_pos h1]
      refine List.pairwise_cons.mpr ⟨fun z hz => ?_, List.pairwise_cons.mpr h⟩
      rcases List.mem_cons.mp hz with rfl | hz
      · exact h1
      · exact Int.lt_trans h1 (h.1 z hz)
    · rw [if_neg h1]
      by_cases h2 : x = y
      · rw [if_pos h2]; exact List.pairwise_cons.mpr h
      · rw [if_neg h2]
        refine List.pairwise_cons.mpr ⟨fun z hz => ?_, insU_srt x h.2⟩
        rcases (insU_mem x z r).mp hz with rfl | hz
        · omega
        · exact h.1 z hz
theorem sortU_mem (k : Int) : ∀ l : List Int, k ∈ sortU l ↔ k ∈ l
  | [] => by simp [sortU]
  | x :: r => by
    show k ∈ insU x (sortU r) ↔ _
    rw [insU_mem, sortU_mem k r, List.mem_cons]
theorem sortU_srt : ∀ l : List Int, (sortU l).Pairwise (· < ·)
  | [] => .nil
  | x :: r => insU_srt x (sortU_srt r)
theorem rise_ext : ∀ {xs ys : List Int}, xs.Pairwise (· < ·) → ys.Pairwise (· < ·) → (∀ a, a ∈ xs ↔ a ∈ ys) → xs = ys
  | [], [], _, _, _ => rfl
  | [], y :: ys, _, _, h => by have := (h y).mpr (List.mem_cons_self ..); simp at this
  | x :: xs, [], _, _, h => by have := (h x).mp (List.mem_cons_self ..); simp at this
  | x :: xs, y :: ys, hx, hy, h => by
    have hx := List.pairwise_cons.mp hx
    have hy := List.pairwise_cons.mp hy
    have e : x = y := by
      have h1 := (h x).mp (List.mem_cons_self ..)
      have h2 := (h y).mpr (List.mem_cons_self ..)
      rcases List.mem_cons.mp h1 with h1 | h1
      · exact h1
      · rcases List.mem_cons.mp h2 with h2 | h2
        · exact h2.symm
        · have a1 := hy.1 x h1
          have a2 := hx.1 y h2
          omega
    subst e
    rw [rise_ext hx.2 hy.2 fun a => ?_]
    constructor
    · intro ha
      rcases List.mem_cons.mp ((h a).mp (List.mem_cons_of_mem _ ha)) with e | e
      · have := hx.1 a ha; omega
      · exact e
    · intro ha
      rcases List.mem_cons.mp ((h a).mpr (List.mem_cons_of_mem _ ha)) with e | e
      · have := hy.1 a ha; omega
      · exact e
def rSetT (K : PySem.W.Frag) (w : World) : List V → Hp → VK → Prop := fun xs H Q => ∃ (l : Addr) (ns : List Int), xs = [V.ref l] ∧ SqT K H l (ns.map V.int) ∧ ns.length < 64 ∧ ∀ p c, H p = none → c ≤ ns.length → Q (.ref p) (upd H p (SetO w p (fun j => decide (j ∈ ns)) c))
theorem cr_setT (hc : X.calm = true) : CallR X (.type "set") (rSetT X.K X.w) := by
  intro pins s σ H xs us Q I r h
  obtain ⟨l, ns, rfl, hq, hl, q⟩ := h
  obtain ⟨u, rfl, ru⟩ := Vals.one r
  cases ru
  obtain ⟨its, rv, pt, hz⟩ := I.tuple hq
  refine call_set_tupI ns (I.ok.hd hc) (show s.heap.IsTuple l its.toArray from pt) (ints_of_vals rv) (by unfold scanBound; omega) fun h' tk c R hcn k => ?_
  exact ⟨.ref _, upd H s.heap.objs.size (SetO X.w s.heap.objs.size (fun j => decide (j ∈ ns)) c), I.laid (t' := tk) k (Nat.le_refl _) (setO_new R), rfl, q _ c (I.hok.fresh (Nat.le_refl _)) hcn⟩
def rSetLs (K : PySem.W.Frag) (w : World) : List V → Hp → VK → Prop := fun xs H Q => ∃ (l : Addr) (ns : List Int), xs = [V.ref l] ∧ SqL K H l (ns.map V.int) ∧ ns.length < 64 ∧ ∀ p c, H p = none → c ≤ ns.length → Q (.ref p) (upd H p (SetO w p (fun j => decide (j ∈ ns)) c))
theorem cr_setLs (hc : X.calm = true) : CallR X (.type "set") (rSetLs X.K X.w) := by
  intro pins s σ H xs us Q I r h
  obtain ⟨l, ns, rfl, hq, hl, q⟩ := h
  obtain ⟨u, rfl, ru⟩ := Vals.one r
  cases ru
  obtain ⟨its, rv, pt, hz⟩ := I.list hq
  refine call_set_lst ns (I.ok.hd hc) pt.isList (ints_of_vals rv) (by unfold scanBound; omega) fun h' tk c R hcn k => ?_
  exact ⟨.ref _, upd H s.heap.objs.size (SetO X.w s.heap.objs.size (fun j => decide (j ∈ ns)) c), I.laid (t' := tk) k (Nat.le_refl _) (setO_new R), rfl, q _ c (I.hok.fresh (Nat.le_refl _)) hcn⟩
theorem cr_or {f : Value} {r1 r2 : List V → Hp → VK → Prop} (h1 : CallR X f r1) (h2 : CallR X f r2) : CallR X f (fun xs H Q => r1 xs H Q ∨ r2 xs H Q) := by
  intro pins s σ H xs us Q I r h
  exact h.elim (h1 pins s σ H xs us Q I r) (h2 pins s σ H xs us Q I r)
theorem ints_all : ∀ {ds : List D} {ns : List Int}, intsD ds = some ns → ds = ns.map .int
  | [], ns, h => by cases h; rfl
  | d :: ds, ns, h => by
    unfold intsD at h
    split at h
    · rename_i e; cases e
    · rename_i i r e
      cases e
      obtain ⟨ms, h1, rfl⟩ := Option.map_eq_some_iff.mp h
      rw [ints_all h1]; rfl
    · cases h
theorem ssetD_of {d r : D} (h : ssetD d = some r) : ∃ ns : List Int, (d = .tuple (ns.map .int) ∨ d = .list (ns.map .int)) ∧ ns.length < 64 ∧ r = .list ((sortU ns).map .int) := by
  unfold ssetD at h
  split at h
  · split at h
    · rename_i ns hns
      split at h
      · cases h
        exact ⟨ns, .inr (by rw [ints_all hns]), by assumption, rfl⟩
      · cases h
    · cases h
  · split at h
    · rename_i ns hns
      split at h
      · cases h
        exact ⟨ns, .inl (by rw [ints_all hns]), by assumption, rfl⟩
      · cases h
    · cases h
  · cases h
theorem ev_sset (G : Good tb C X) {a : E} {x : PySem.Expr} {p1 p2 q1 q2 : Pos} (hg : glB X.env.scope "sorted" = true) (hg2 : glB X.env.scope "set" = true) (hs : notStar x = true) (ha : PE X x (tBo C a)) : PE X (.Call (.Name "sorted" p1) [.Call (.Name "set" p2) [x] [] q2] [] q1) (tE C (.sset a)) := by
  have hst : starEach [x] X.env = [(false, eval x X.env)] := star_eq hs
  refine PE.weak (pe_callB (cr_sortedSet G.calm) (gl_of hg) (G.blt _ (by simp)) (by decide +kernel) (pa_cons (pe_callTy (cr_or (cr_setT G.calm) (cr_setLs G.calm)) (gl_of hg2) (G.blt _ (by simp)) (by decide +kernel) (pa_cons ha pa_nil hst) (by decide) (by decide) hst rfl) pa_nil rfl) (by decide) (by decide) rfl rfl) fun σ H Q ⟨S, P, ρ, Q0, R, h, q⟩ => ?_
  refine ⟨S, P, ρ, _, R, h, fun d hd v H1 e1 i1 r1 => ?_⟩
  have R1 := R.ext e1 i1
  obtain ⟨r, er, q0⟩ := hd
  obtain ⟨ns, ed, hlen, rfl⟩ := ssetD_of er
  have fin : ∀ (p : Addr) (c : Nat), H1 p = none → c ≤ ns.length → rSortedSet X.w [.ref p] (upd H1 p (SetO X.w p (fun j => decide (j ∈ ns)) c)) Q := fun p c hp hc => by
    refine ⟨p, _, c, rfl, upd_same, by omega, fun ms p2 hm1 hm2 hm3 hp2 => ?_⟩
    have em : ms = sortU ns := rise_ext hm1 (sortU_srt ns) fun k => by rw [hm2, sortU_mem, decide_eq_true_iff]
    subst em
    have hne : p2 ≠ p := fun z => by rw [z, upd_same] at hp2; cases hp2
    have hp2' : H1 p2 = none := by rw [upd_ne hne] at hp2; exact hp2
    have ex : Ext No H1 (upd (upd H1 p (SetO X.w p (fun j => decide (j ∈ ns)) c)) p2 (.lst ((sortU ns).map V.int))) := (Ext.new hp).trans (Ext.new hp2)
    have nn : ¬ Nn P ρ σ p2 := R1.fit.ne hp2'
    have hpn : H p2 = none := fresh_trans i1 e1 hp2'
    exact q _ q0 _ _ (e1.trans (ex.any _)) (S.ext i1 ex) (.lst nn upd_same (RpAll.ofInts _)) fun _ _ => ⟨p2, rfl, hpn, .lst upd_same (RpAll.ofInts _)⟩
  rcases ed with rfl | rfl
  · obtain ⟨l, vs, rfl, hl, rr⟩ := r1.1.tup_of
    have ev := rr.ints
    subst ev
    exact .inl ⟨l, ns, rfl, SqT.of hl, hlen, fin⟩
  · obtain ⟨l, vs, rfl, hl, rr⟩ := r1.1.list_of
    have ev := rr.ints
    subst ev
    exact .inr ⟨l, ns, rfl, SqL.of hl, hlen, fin⟩
end
end PD
set_option maxHeartbeats 2000000
/-! PDmc: dicts displayed. -/
namespace PD
open PySem L2 PyProof.Rows
section
variable {S : Src} {P : Zn} {ρ : Nv} {σ : L2.St} {H : Hp}
theorem Rel.prot2 {H1 : Hp} (R : Rel S P ρ σ H) (e : Ext S.dom H H1) (i : S.inv H1) {p : Addr} {o : HO} (hp : H p = none) (ho : H1 p = some o) (m : Mut (some o)) : Rel S (fun a => P a ∨ a = p) ρ σ H1 := by
  have hN : ∀ a, Nn (fun a => P a ∨ a = p) ρ σ a → Nn P ρ σ a ∨ H a = none := fun a h => by
    rcases h with (h | h) | h
    · exact .inl (.inl h)
    · exact .inr (h ▸ hp)
    · exact .inl (.inr h)
  have eN := e.mono R.domN
  refine ⟨R.len, fun a h => .inl (R.sub a h), ⟨fun a h => ?_⟩, i, fun j d h => ?_, fun j d h => ?_, R.dis, R.src⟩
  · rcases h with h | rfl
    · exact (R.ext e i).fitP.dom a h
    · exact ⟨o, ho, m⟩
  · obtain ⟨v, q, r⟩ := R.sh j d h
    exact ⟨v, q, r.move eN R.fit hN⟩
  · obtain ⟨a, q, l, r, n⟩ := R.own j d h
    refine ⟨a, q, l, r.move eN R.fit hN (fun b o' eb hb => by cases eb; exact e _ o' hb fun z => n (R.sub _ z)), fun z => ?_⟩
    rcases z with z | z
    · exact n z
    · obtain ⟨o', ho', _⟩ := r.list_at l
      rw [z, hp] at ho'; cases ho'
end
def trsOf (C : Calls) : Ps → List (TE × TE)
  | .nil => []
  | .cons k v r => (tE C k, tE C v) :: trsOf C r
theorem bndB {a b : Bool} (h : (a && b) = true) : a = true ∧ b = true := by rwa [Bool.and_eq_true] at h
section
variable {C : Calls} {tb : List (Str × Nat)} {X : Cx} {S : Src} {P : Zn} {ρ : Nv} {σ : L2.St}
theorem w_ps : ∀ {ps : Ps} {H : Hp} {Q0 : List (D × D) → Prop} {Q : List (V × V) → Hp → Prop}, Rel S P ρ σ H → evp C ps ρ Q0 → (∀ qs, Q0 qs → ∀ vs H', Ext S.dom H H' → S.inv H' → RpAll (Nn P ρ σ) H' (vs.map (·.1)) (qs.map (·.1)) → RpAll (Nn P ρ σ) H' (vs.map (·.2)) (qs.map (·.2)) → Q vs H') → tPairs (trsOf C ps) σ H Q
  | .nil, H, Q0, Q, R, h, q => q [] h [] H Ext.refl R.inv .nil .nil
  | .cons k v r, H, Q0, Q, R, h, q => by
    refine ⟨S, P, ρ, _, R, h, fun x hx vx H1 e1 i1 r1 _ => ?_⟩
    have R1 := R.ext e1 i1
    refine ⟨S, P, ρ, _, R1, hx, fun y hy vy H2 e2 i2 r2 _ => ?_⟩
    have R2 := R1.ext e2 i2
    refine w_ps (ps := r) R2 hy fun qs hqs vs H3 e3 i3 rk rv => ?_
    refine q _ hqs _ H3 ((e1.trans e2).trans e3) i3 (.cons ((r1.ext (e2.mono R1.domN) R1.fit).ext (e3.mono R2.domN) R2.fit) rk) (.cons (r2.ext (e3.mono R2.domN) R2.fit) rv)
theorem disp_keysT {N : Zn} {H : Hp} : ∀ {vs : List (V × V)} {qs : List (D × D)}, RpAll N H (vs.map (·.1)) (qs.map (·.1)) → qs.all (fun p => isTk p.1) = true → ∃ ks : List (List Key × Addr), vs.map (·.1) = ks.map (fun k => V.ref k.2) ∧ qs.map (·.1) = ks.map (fun k => tkeyD k.1) ∧ ∀ k ∈ ks, H k.2 = some (.tup (k.1.map kV))
  | [], [], _, _ => ⟨[], rfl, rfl, by simp⟩
  | v :: vs, q :: qs, .cons r rs, h => by
    rw [List.all_cons, Bool.and_eq_true] at h
    obtain ⟨ks, e1, e2, e3⟩ := disp_keysT rs h.2
    have h1 := h.1
    unfold isTk at h1
    split at h1
    · rename_i ds hd
      obtain ⟨ks1, rfl⟩ := key1s_of h1
      have r : Rp N H v.1 q.1 := r
      rw [hd] at r
      obtain ⟨b, hb, ht⟩ := Rp.tkey (.of r)
      refine ⟨(ks1, b) :: ks, by simp [hb, e1], by simp [hd, e2, tkeyD], fun k hk => ?_⟩
      rcases List.mem_cons.mp hk with rfl | hk
      · exact ht
      · exact e3 k hk
    · cases h1
/-- {t: v, ..}, the keys tuples -/
def tDispT (trs : List (TE × TE)) : TE := fun σ H Q => ∀ p, H p = none → tPairs trs σ (upd H p (.dT [])) fun ps H2 => H2 p = some (.dT []) ∧ ∃ qs : List ((List Key × Addr) × V), ps = qs.map (fun q => (V.ref q.1.2, q.2)) ∧ (∀ q ∈ qs, H2 q.1.2 = some (.tup (q.1.1.map kV))) ∧ qs.length ≤ 15 ∧ Q (.ref p) (upd H2 p (.dT (putAll [] (qs.map fun q => (q.1.1, q.2)))))
theorem carriesT {H : Hp} {s : Shared} {w : World} {Pr : Program} (ok : HOk Pr w H s.heap) : ∀ {qs : List ((List Key × Addr) × V)} {ws : List (Value × Value)}, VV (qs.map fun q => (V.ref q.1.2, q.2)) ws → (∀ q ∈ qs, H q.1.2 = some (.tup (q.1.1.map kV))) → ∃ ps, CarriesH (tupleKind (mixKind Pr w)) s.heap ws ps ∧ KT H (qs.map fun q => (q.1.1, q.2)) ps
  | [], _, r, _ => by rw [List.map_nil] at r; cases r; exact ⟨[], trivial, .nil⟩
  | q :: qs, _, r, h => by
    rw [List.map_cons] at r
    cases r with
    | @cons a b as bs h1 t =>
      obtain ⟨b1, b2⟩ := b
      obtain ⟨ps, c, k⟩ := carriesT ok t fun x hx => h x (List.mem_cons_of_mem _ hx)
      have hq := h q (List.mem_cons_self ..)
      have e1 : b1 = Value.ref q.1.2 := h1.1
      exact ⟨(q.1.1, q.1.2, b2) :: ps, ⟨e1, rfl, key_of ok hq, c⟩, .cons ⟨rfl, hq, h1.2⟩ k⟩
theorem pe_dispT (hu : X.A.units + 64 < cLine) {pos : Pos} {keys : List (Option PySem.Expr)} {values : List PySem.Expr} {trs : List (TE × TE)} (h : PPs X pos keys values trs) (hall : keys.all (·.isSome) = true) (hl : keys.length = values.length) (h0 : keys ≠ []) (h15 : keys.length ≤ 15) : PE X (.Dict keys values pos) (tDispT trs) := by
  refine ⟨fun pins s σ H Q I q => ?_⟩
  have hn := I.hok.fresh (Nat.le_refl s.heap.objs.size)
  have I1 := I.laid (a := s.heap.objs.size) (o := .dT []) (h' := s.heap.push { cls := .type "dict", data := .dict #[] }) (t' := s.toks) (fun _ _ q => Heap.get?_push_of_some _ q) (Nat.le_refl _) (dt_empty s.heap I.big)
  have hpl := pairTrees_length keys values X.env pos hall hl
  rw [arm_eval_Dict, zip_pairTrees keys values X.env pos hall hl, dictDisplay_pairs _ (by intro z; rw [z] at hpl; exact h0 (List.length_eq_zero_iff.mp hpl.symm)) (by omega)]
  refine wpAny_bind (wpAny_standAt (wpAny_bind (wpAny_subDictH (knd := tupleKind (mixKind X.prog X.w)) (by show X.A.units < cLine; omega) (by omega) (thn (h.run pins _ σ _ _ I1 (q _ hn)) fun ws s2 ⟨ps, H2, I2, rel, e, qs, ep, hk, lk, q2⟩ => ?_))))
  subst ep
  obtain ⟨prs, c, kt⟩ := carriesT I2.hok rel hk
  obtain ⟨z, hd, xs0, r0, dd⟩ := dt_of I2.hok e
  cases r0
  refine ⟨prs, c, dd, fun h' tk dd' hs => wpAny_pure ⟨.ref s.heap.objs.size, _, ?_, rfl, q2⟩⟩
  have hne : ∀ b o, H2 b = some o → (∃ ys, o = .tup ys) → b ≠ s.heap.objs.size := fun b o hb ⟨ys, ho⟩ z => by rw [z, e] at hb; cases hb; cases ho
  have kt2 : KT H2 (putAll [] (qs.map fun q => (q.1.1, q.2))) (storedAllH [] prs) := KT.all .nil kt
  have hz : (putAll [] (qs.map fun q => (q.1.1, q.2))).length ≤ sizeLine := by
    have h1 := putAll_len (qs.map fun q => (q.1.1, q.2)) ([] : List (List Key × V))
    rw [List.length_nil, List.length_map] at h1
    rw [sizeLine_eq]; omega
  obtain ⟨qo, ents, ep, g1, g2, g3, g4, _, g6⟩ := dd'
  refine d_write I2 (by rw [e]; exact True.intro) hs ⟨_, g1⟩ ⟨hz, hd, storedAllH [] prs, kt2.keeps fun b ys eb => ?_, qo, ents, ep, g1, g2, g3, g4, g6⟩
  rw [upd_ne (hne b _ eb ⟨_, rfl⟩)]; exact eb
/-- the new dict behind the pairs -/
theorem disp_end {H H2 : Hp} {p : Addr} {o1 o2 : HO} (R : Rel S P ρ σ H) (hp : H p = none) (e : Ext S.dom (upd H p o1) H2) (i2 : S.inv H2) (m : Mut (some o2)) (hm : ∃ o, H2 p = some o ∧ Mut (some o)) :
    ¬ S.dom p ∧ ¬ Nn P ρ σ p ∧ Ext S.dom H (upd H2 p o2) ∧ S.inv (upd H2 p o2) ∧ ∀ vs ds, RpAll (Nn (fun a => P a ∨ a = p) ρ σ) H2 vs ds → RpAll (Nn P ρ σ) (upd H2 p o2) vs ds ∧ RpAll (fun a => Nn P ρ σ a ∨ a = p) (upd H2 p o2) vs ds := by
  have nd : ¬ S.dom p := fun z => by
    obtain ⟨o, ho, _⟩ := (S.fit H R.inv).dom p z
    rw [hp] at ho; cases ho
  have nn : ¬ Nn P ρ σ p := fun z => by
    obtain ⟨o, ho, _⟩ := R.fit.dom p z
    rw [hp] at ho; cases ho
  refine ⟨nd, nn, fun a o ha n => ?_, S.stab H2 _ i2 fun a ha => upd_ne fun z => nd (z ▸ ha), fun vs ds r => ?_⟩
  · have hne : a ≠ p := ne_of_none ha hp
    rw [upd_ne hne]
    exact e a o (by rw [upd_ne hne]; exact ha) n
  · have f2 : Fit (Nn (fun a => P a ∨ a = p) ρ σ) H2 := by
      have R2 := R.prot2 (H1 := H2) (p := p) (fun a o ha n => e a o (by rw [upd_ne (ne_of_none ha hp)]; exact ha) n) i2 hp hm.choose_spec.1 hm.choose_spec.2
      exact R2.fit
    have ex : Ext (Nn (fun a => P a ∨ a = p) ρ σ) H2 (upd H2 p o2) := fun a o ha n => by
      have hne : a ≠ p := fun z => n (.inl (.inr z))
      rw [upd_ne hne]; exact ha
    have r2 := r.ext ex f2
    refine ⟨r2.less fun a z => ?_, r2.less fun a z => ?_⟩
    · rcases z with z | z
      · exact .inl (.inl z)
      · exact .inr z
    · rcases z with (z | z) | z
      · exact .inl (.inl z)
      · exact .inr z
      · exact .inl (.inr z)
theorem ev_disp (hu : X.A.units + 64 < cLine) {tk : Bool} {ps : Ps} {pos : Pos} {keys : List (Option PySem.Expr)} {values : List PySem.Expr} (h : PPs X pos keys values (trsOf C ps)) (hall : keys.all (·.isSome) = true) (hl : keys.length = values.length) (h0 : keys ≠ []) (h15 : keys.length ≤ 15) : PE X (.Dict keys values pos) (tE C (.disp tk ps)) := by
  cases tk with
  | false =>
    refine PE.weak (pe_disp h hall hl h0 h15) fun σ H Q ⟨S, P, ρ, Q0, R, hh, q⟩ p hp => ?_
    have np : ¬ P p := fun z => by
      obtain ⟨o, ho, _⟩ := R.fitP.dom p z
      rw [hp] at ho; cases ho
    have R1 := R.prot2 (H1 := upd H p (.dK [])) (p := p) (Ext.any S.dom (Ext.new hp)) (S.ext R.inv (Ext.new hp)) hp upd_same trivial
    refine w_ps R1 hh fun qs hqs vs H2 e2 i2 rk rv => ?_
    have nd : ¬ S.dom p := fun z => np (R.sub p z)
    have h2p : H2 p = some (.dK []) := e2 p _ upd_same nd
    obtain ⟨d, ed, q0⟩ := hqs
    rw [show dispD false qs = if (decide (qs.length ≤ 15) && qs.all (fun p => isKey1 p.1) && !qs.isEmpty) = true then some (.dict (dputs [] qs)) else none from rfl] at ed
    by_cases hc : (decide (qs.length ≤ 15) && qs.all (fun p => isKey1 p.1) && !qs.isEmpty) = true
    · rw [if_pos hc] at ed
      cases ed
      simp only [Bool.and_eq_true, decide_eq_true_eq] at hc
      have hc := hc.1
      obtain ⟨ks, ek⟩ := key1s_of (ds := qs.map (·.1)) (by rw [List.all_map]; exact hc.2)
      rw [ek] at rk
      have ek2 := Rp.keys rk
      obtain ⟨a1, a2, a3, a4, a5⟩ := disp_end (o2 := .dK (mergeK [] (ks.zip (vs.map (·.2))))) R hp e2 i2 trivial ⟨_, h2p, trivial⟩
      have hlv : vs.length = qs.length := by have := rv.length; simpa using this
      have hlk : ks.length = vs.length := by have := congrArg List.length ek2; simpa using this.symm
      have zl : (ks.zip (vs.map (·.2))).map (·.2) = vs.map (·.2) := List.map_snd_zip (by simp [hlk])
      have zk : (ks.zip (vs.map (·.2))).map (·.1) = ks := List.map_fst_zip (by simp [hlk])
      refine ⟨h2p, ks.zip (vs.map (·.2)), ?_, by simp; omega, ?_⟩
      · have g : ∀ (ks : List Key) (vs : List (V × V)), vs.map (·.1) = ks.map kV → vs = (ks.zip (vs.map (·.2))).map fun kv => (kV kv.1, kv.2) := by
          intro ks
          induction ks with
          | nil => intro vs h; cases vs with
            | nil => rfl
            | cons _ _ => simp at h
          | cons k ks ih => intro vs h; cases vs with
            | nil => simp at h
            | cons v vs =>
              simp only [List.map_cons, List.cons.injEq] at h
              simp only [List.map_cons, List.zip_cons_cons]
              rw [← ih vs h.2, ← h.1]
        exact g ks vs ek2
      · obtain ⟨b1, b2⟩ := a5 _ _ rv
        have e3 : qs.map (·.1) = (ks.zip (vs.map (·.2))).map (fun q => keyD q.1) := by rw [ek]; rw [show (fun q : Key × V => keyD q.1) = keyD ∘ (·.1) from rfl, ← List.map_map, zk]
        obtain ⟨es, re, he⟩ := puts_rp keyD keyD_eqv (kvs := []) (ds := []) .nil e3 (by rw [zl]; exact b1)
        obtain ⟨es', re', he'⟩ := puts_rp keyD keyD_eqv (kvs := []) (ds := []) .nil e3 (by rw [zl]; exact b2)
        have hd : dputs [] qs = _ := he
        have hd' : dputs [] qs = _ := he'
        have m := q _ q0 (.ref p) _ a3 a4 (by rw [hd]; exact .dK a2 upd_same re) fun _ _ => ⟨p, rfl, hp, by rw [hd']; exact .dK upd_same re'⟩
        exact m
    · rw [if_neg hc] at ed; cases ed
  | true =>
    refine PE.weak (pe_dispT hu h hall hl h0 h15) fun σ H Q ⟨S, P, ρ, Q0, R, hh, q⟩ p hp => ?_
    have np : ¬ P p := fun z => by
      obtain ⟨o, ho, _⟩ := R.fitP.dom p z
      rw [hp] at ho; cases ho
    have R1 := R.prot2 (H1 := upd H p (.dT [])) (p := p) (Ext.any S.dom (Ext.new hp)) (S.ext R.inv (Ext.new hp)) hp upd_same trivial
    refine w_ps R1 hh fun qs hqs vs H2 e2 i2 rk rv => ?_
    have nd : ¬ S.dom p := fun z => np (R.sub p z)
    have h2p : H2 p = some (.dT []) := e2 p _ upd_same nd
    obtain ⟨d, ed, q0⟩ := hqs
    rw [show dispD true qs = if (decide (qs.length ≤ 15) && qs.all (fun p => isTk p.1) && !qs.isEmpty) = true then some (.dict (dputs [] qs)) else none from rfl] at ed
    by_cases hc : (decide (qs.length ≤ 15) && qs.all (fun p => isTk p.1) && !qs.isEmpty) = true
    · rw [if_pos hc] at ed
      cases ed
      simp only [Bool.and_eq_true, decide_eq_true_eq] at hc
      have hq0 := hc.2
      have hc := hc.1
      obtain ⟨ks, k1, k2, k3⟩ := disp_keysT rk hc.2
      have hlv : vs.length = qs.length := by have := rv.length; simpa using this
      have hlk : ks.length = vs.length := by have := congrArg List.length k1; simpa using this.symm
      let zs : List ((List Key × Addr) × V) := ks.zip (vs.map (·.2))
      have zl : (zs.map fun z => (z.1.1, z.2)).map (·.2) = vs.map (·.2) := by
        rw [List.map_map]; exact List.map_snd_zip (by simp [hlk])
      have zk : zs.map (·.1) = ks := List.map_fst_zip (by simp [hlk])
      obtain ⟨a1, a2, a3, a4, a5⟩ := disp_end (o2 := .dT (putAll [] (zs.map fun z => (z.1.1, z.2)))) R hp e2 i2 trivial ⟨_, h2p, trivial⟩
      refine ⟨h2p, zs, ?_, fun z hz => k3 _ (List.of_mem_zip hz).1, by simp [zs]; omega, ?_⟩
      · have g : ∀ (ks : List (List Key × Addr)) (vs : List (V × V)), vs.map (·.1) = ks.map (fun k => V.ref k.2) → vs = (ks.zip (vs.map (·.2))).map fun kv => (V.ref kv.1.2, kv.2) := by
          intro ks
          induction ks with
          | nil => intro vs h; cases vs with
            | nil => rfl
            | cons _ _ => simp at h
          | cons k ks ih => intro vs h; cases vs with
            | nil => simp at h
            | cons v vs =>
              simp only [List.map_cons, List.cons.injEq] at h
              simp only [List.map_cons, List.zip_cons_cons]
              rw [← ih vs h.2, ← h.1]
        exact g ks vs k1
      · obtain ⟨b1, b2⟩ := a5 _ _ rv
        have e3 : qs.map (·.1) = (zs.map fun z => (z.1.1, z.2)).map (fun q => tkeyD q.1) := by
          rw [k2, List.map_map, ← zk, List.map_map]; rfl
        obtain ⟨es, re, he⟩ := puts_rp tkeyD tkeyD_eqv (kvs := []) (ds := []) .nil e3 (by rw [zl]; exact b1)
        obtain ⟨es', re', he'⟩ := puts_rp tkeyD tkeyD_eqv (kvs := []) (ds := []) .nil e3 (by rw [zl]; exact b2)
        have hd : dputs [] qs = _ := he
        have hd' : dputs [] qs = _ := he'
        cases hz : zs with
        | nil =>
          have hq : qs = [] := by
            have h3 : zs.map (·.1) = [] := by rw [hz]; rfl
            rw [zk] at h3
            rw [h3] at hlk
            exact List.eq_nil_of_length_eq_zero (by rw [← hlv, ← hlk]; rfl)
          subst hq; cases hq0
        | cons z0 zr =>
          have hne : putAll [] (zs.map fun z => (z.1.1, z.2)) ≠ [] := by
            rw [hz]
            have : ∀ (l acc : List (List Key × V)), acc ≠ [] → putAll acc l ≠ [] := by
              intro l
              induction l with
              | nil => intro acc h; exact h
              | cons a l ih => intro acc _; exact ih _ putK_ne
            show putAll (putK [] z0.1.1 z0.2) (zr.map fun z => (z.1.1, z.2)) ≠ []
            exact this _ _ putK_ne
          rw [← hz]
          exact q _ q0 (.ref p) _ a3 a4 (by rw [hd]; exact .dT a2 hne upd_same re) fun _ _ => ⟨p, rfl, hp, by rw [hd']; exact .dT hne upd_same re'⟩
    · rw [if_neg hc] at ed; cases ed
end
end PD
set_option maxHeartbeats 4000000
/-! PDn: every expression is as its compact form says. -/
namespace PD
open PySem L2
section
variable {C : Calls} {tb : List (Str × Nat)}
theorem folded_plain {X : Cx} {x : PySem.Expr} (h : notSet x = true) : ∀ z, foldedSetIterable x X.env z = pure z := by
  intro z
  cases x <;> first | rfl | cases h
theorem fnB_ok {sc scope : Scope} {z : Str} (h : fnB scope z = true) : (scope.names.lookup z == some .cell) = true ∨ (relS scope sc).names.lookup z = some .local := by
  unfold fnB at h
  rw [Bool.or_eq_true] at h
  rcases h with h | h
  · exact .inl h
  · exact .inr (lookup_relS_keep (by decide) (eq_of_beq h))
theorem var_ok {X : Cx} {e : E} {x : PySem.Expr} (h : chkE X.N tb e X.env.scope x = true) : ∀ i, e = .var i → PE X x (tVar i) := by
  rintro i rfl
  unfold chkE at h
  split at h
  · exact var_of rfl h
  · cases h
theorem unB_pe {X : Cx} {op : PySem.BoolOp} {y : PySem.Expr} {r : List PySem.Expr} {p : Pos} {t : TE} (h : PE X (unB (.BoolOp op (y :: r) p)) t) : PE X (.BoolOp op (y :: r) p) t := by
  cases r with
  | nil => exact pe_one h
  | cons z r => exact h
theorem bnd {a b : Bool} (h : (a && b) = true) : a = true ∧ b = true := by rwa [Bool.and_eq_true] at h
theorem tyS_ok (t : Ty) : bootBuiltins (tyS t) = some (.type (tyN t)) ∧ tyS t ≠ "__name__" ∧ (tyS t == ("__debug__" : Str)) = false ∧ tyS t ∈ (["len", "tuple", "list", "sorted", "sum", "max", "min", "abs", "all", "any", "int", "repr", "range", "isinstance", "dict", "zip", "enumerate", "reversed", "str", "set", "bool"] : List Str) := by
  cases t <;> exact ⟨by decide +kernel, by decide +kernel, by decide +kernel, by decide +kernel⟩
mutual
theorem okE : ∀ (e : E) (X : Cx) (x : PySem.Expr), Good tb C X → chkE X.N tb e X.env.scope x = true → PE X x (tE C e)
  | .var i, X, x, G, h => ev_var (var_ok h i rfl)
  | .cst d, X, x, G, h => by
    unfold chkE at h; split at h
    · exact ev_cst h
    · cases h
  | .bin op a b, X, x, G, h => by
    unfold chkE at h; split at h
    · obtain ⟨h, h2⟩ := bnd h
      obtain ⟨h0, h1⟩ := bnd h
      rw [← of_decide_eq_true h0]
      exact ev_bin (bo_of (var_ok h1) (okE a X _ G h1)) (bo_of (var_ok h2) (okE b X _ G h2))
    · cases h
  | .neg a, X, x, G, h => by
    unfold chkE at h; split at h
    · exact ev_neg (bo_of (var_ok h) (okE a X _ G h))
    · cases h
  | .not a, X, x, G, h => by
    unfold chkE at h; split at h
    · exact ev_not (bo_of (var_ok h) (okE a X _ G h))
    · cases h
  | .and a b, X, x, G, h => by
    unfold chkE at h; split at h
    · obtain ⟨h1, h2⟩ := bnd h
      exact ev_and (okE a X _ G h1) (unB_pe (okE b X _ G h2))
    · cases h
  | .or a b, X, x, G, h => by
    unfold chkE at h; split at h
    · obtain ⟨h1, h2⟩ := bnd h
      exact ev_or (okE a X _ G h1) (unB_pe (okE b X _ G h2))
    · cases h
  | .cmp op a b, X, x, G, h => by
    unfold chkE at h; split at h
    · obtain ⟨h, h3⟩ := bnd h
      obtain ⟨h, h2⟩ := bnd h
      obtain ⟨h0, h1⟩ := bnd h
      rw [← of_decide_eq_true h0]
      exact ev_cmp G.units (bo_of (var_ok h1) (okE a X _ G h1)) (bo_of (var_ok h2) (okE b X _ G h2)) h3
    · cases h
  | .chain o1 o2 a b c, X, x, G, h => by
    unfold chkE at h; split at h
    · obtain ⟨h, h5⟩ := bnd h
      obtain ⟨h, h4⟩ := bnd h
      obtain ⟨h, h3⟩ := bnd h
      obtain ⟨h, h2⟩ := bnd h
      obtain ⟨h0, h1⟩ := bnd h
      rw [← of_decide_eq_true h0, ← of_decide_eq_true h1]
      exact ev_chain G.units (bo_of (var_ok h2) (okE a X _ G h2)) (bo_of (var_ok h3) (okE b X _ G h3)) (bo_of (var_ok h4) (okE c X _ G h4)) h5
    · cases h
  | .ife c a b, X, x, G, h => by
    unfold chkE at h; split at h
    · obtain ⟨h, h2⟩ := bnd h
      obtain ⟨h0, h1⟩ := bnd h
      exact ev_ife (okT c X _ G h0).1 (okE a X _ G h1) (okE b X _ G h2)
    · cases h
  | .tup es, X, x, G, h => by
    unfold chkE at h; split at h
    · exact ev_tup (okEs es X _ G h)
    · cases h
  | .lst es, X, x, G, h => by
    unfold chkE at h; split at h
    · exact ev_lst (okEs es X _ G h)
    · cases h
  | .dnew, X, x, G, h => by
    unfold chkE at h; split at h
    · exact ev_dnew
    · cases h
  | .idx a i, X, x, G, h => by
    unfold chkE at h; split at h
    · obtain ⟨h, h2⟩ := bnd h
      obtain ⟨h0, h1⟩ := bnd h
      exact ev_idx G.units (bo_of (var_ok h1) (okE a X _ G h1)) (okE i X _ G h2) h0
    · cases h
  | .slc a lo hi, X, x, G, h => by
    unfold chkE at h; split at h
    · obtain ⟨h, h2⟩ := bnd h
      obtain ⟨h0, h1⟩ := bnd h
      exact ev_slc (bo_of (var_ok h0) (okE a X _ G h0)) (okEo lo X _ G h1) (okEo hi X _ G h2)
    · cases h
  | .rev a, X, x, G, h => by
    unfold chkE at h; split at h
    · exact ev_rev (bo_of (var_ok h) (okE a X _ G h))
    · cases h
  | .call f as, X, x, G, h => by
    unfold chkE at h; split at h
    · rename_i x0 p0 xs pos0
      split at h
      · rename_i nm np hf
        obtain ⟨h, h6⟩ := bnd h
        obtain ⟨h, h5⟩ := bnd h
        obtain ⟨h, h4⟩ := bnd h
        obtain ⟨h, h3⟩ := bnd h
        obtain ⟨h, h2⟩ := bnd h
        obtain ⟨h0, h1⟩ := bnd h
        have e := of_decide_eq_true h0
        subst e
        cases xs with
        | nil => cases h3
        | cons y ys => exact ev_call G hf h1 h2 h5 (of_decide_eq_true h6) (okEa as X _ G h4)
      · cases h
    · cases h
  | .prim p as, X, x, G, h => by
    unfold chkE at h; split at h
    · rename_i x0 p0 xs pos0
      split at h
      · rename_i nm ty id hf
        obtain ⟨h, h5⟩ := bnd h
        obtain ⟨h, h4⟩ := bnd h
        obtain ⟨h, h3⟩ := bnd h
        obtain ⟨h0, h1⟩ := bnd h
        have e := of_decide_eq_true h0
        subst e
        cases xs with
        | nil => cases h3
        | cons y ys => exact ev_prim G hf h1 h5 (okEb as X _ G h4)
      · cases h
    · cases h
  | .isi a ts, X, x, G, h => by
    unfold chkE at h; split at h
    · split at h
      · rename_i t
        obtain ⟨h, h5⟩ := bnd h
        obtain ⟨h, h4⟩ := bnd h
        obtain ⟨h, h3⟩ := bnd h
        obtain ⟨h, h2⟩ := bnd h
        obtain ⟨h0, h1⟩ := bnd h
        have e := of_decide_eq_true h0
        have e2 := of_decide_eq_true h2
        subst e e2
        obtain ⟨t1, t2, t3, t4⟩ := tyS_ok t
        exact ev_isi G t1 (G.blt _ t4) t2 t3 h1 h3 h4 (bo_of (var_ok h5) (okE a X _ G h5))
      · cases h
    · cases h
  | .lc vs g it c elt, X, x, G, h => by
    unfold chkE at h; split at h
    · rename_i x0 tg iter ifs scope pos0
      obtain ⟨h, h6⟩ := bnd h
      obtain ⟨h, h5⟩ := bnd h
      obtain ⟨h, h4⟩ := bnd h
      obtain ⟨h, h3⟩ := bnd h
      obtain ⟨h, h2⟩ := bnd h
      obtain ⟨h0, h1⟩ := bnd h
      have hl := of_decide_eq_true h2
      obtain ⟨i1, i2⟩ := okIt it X tg _ G h4
      exact (ev_lc G.calm G.nd (i1 true) (blkOk_by h0) (by rw [List.map_snd_zip]; omega) (of_decide_eq_true h1).symm
        (fun s H Cc cl fp => okG (X := X.blk s H scope (compEnvC scope cl Cc X.env) fp) G.nd G.calm (fun z hz => fnB_ok hz) g tg h3)
        (fun s H Cc cl fp => okTo c (X.blk s H scope (compEnvC scope cl Cc X.env) fp) _ (G.blk _ _ _ _ _) h5)
        (fun s H Cc cl fp => okE elt (X.blk s H scope (compEnvC scope cl Cc X.env) fp) _ (G.blk _ _ _ _ _) h6) (folded_plain i2)).1
    · cases h
  | .lck vs g i c elt, X, x, G, h => by
    unfold chkE at h; split at h
    · rename_i x0 tg nm np ifs scope pos0
      obtain ⟨h, h6⟩ := bnd h
      obtain ⟨h, h5⟩ := bnd h
      obtain ⟨h, h4⟩ := bnd h
      obtain ⟨h, h3⟩ := bnd h
      obtain ⟨h, h2⟩ := bnd h
      obtain ⟨h0, h1⟩ := bnd h
      have hl := of_decide_eq_true h2
      exact ev_lck G.calm G.nd (var_of rfl h4) (blkOk_by h0) (by rw [List.map_snd_zip]; omega) (of_decide_eq_true h1).symm
        (fun s H Cc cl fp => okG (X := X.blk s H scope (compEnvC scope cl Cc X.env) fp) G.nd G.calm (fun z hz => fnB_ok hz) g tg h3)
        (fun s H Cc cl fp => okTo c (X.blk s H scope (compEnvC scope cl Cc X.env) fp) _ (G.blk _ _ _ _ _) h5)
        (fun s H Cc cl fp => okE elt (X.blk s H scope (compEnvC scope cl Cc X.env) fp) _ (G.blk _ _ _ _ _) h6) (folded_plain rfl)
    · cases h
  | .rg t lo hi, X, x, G, h => by
    unfold chkE at h; split at h
    · obtain ⟨h, h4⟩ := bnd h
      obtain ⟨h, h3⟩ := bnd h
      obtain ⟨h, h2⟩ := bnd h
      obtain ⟨h0, h1⟩ := bnd h
      have e := of_decide_eq_true h0
      have e2 := of_decide_eq_true h2
      subst e e2
      split at h4
      · obtain ⟨a1, a2⟩ := bnd h4
        exact ev_rg G h1 rfl (prg_e1 G h3 a2 (okE hi X _ G a1))
      · rename_i l _ _
        obtain ⟨h4, a4⟩ := bnd h4
        obtain ⟨h4, a3⟩ := bnd h4
        obtain ⟨a1, a2⟩ := bnd h4
        exact ev_rg G h1 rfl (prg_e2 G h3 a3 a4 (okE l X _ G a1) (okE hi X _ G a2))
      · cases h4
    · cases h
  | .meth p a as, X, x, G, h => by
    unfold chkE at h; split at h
    · obtain ⟨h, h6⟩ := bnd h
      obtain ⟨h, h5⟩ := bnd h
      obtain ⟨h, h4⟩ := bnd h
      obtain ⟨h, h3⟩ := bnd h
      obtain ⟨h1, h2⟩ := bnd h
      exact ev_meth G (of_decide_eq_true h1) h2 h3 h4 (bo_of (var_ok h5) (okE a X _ G h5)) (okEb as X _ G h6)
    · cases h
  | .disp tk ps, X, x, G, h => by
    unfold chkE at h; split at h
    · obtain ⟨h, h5⟩ := bnd h
      obtain ⟨h, h4⟩ := bnd h
      obtain ⟨h, h3⟩ := bnd h
      obtain ⟨h1, h2⟩ := bnd h
      exact ev_disp G.units (okPs ps X _ _ G h5) h1 (of_decide_eq_true h2) (by intro z; rw [z] at h3; cases h3) (of_decide_eq_true h4)
    · cases h
  | .sset a, X, x, G, h => by
    unfold chkE at h; split at h
    · obtain ⟨h, h6⟩ := bnd h
      obtain ⟨h, h5⟩ := bnd h
      obtain ⟨h, h4⟩ := bnd h
      obtain ⟨h, h3⟩ := bnd h
      obtain ⟨h1, h2⟩ := bnd h
      have e1 := of_decide_eq_true h1
      have e2 := of_decide_eq_true h3
      subst e1 e2
      exact ev_sset G h2 h4 h5 (bo_of (var_ok h6) (okE a X _ G h6))
    · cases h
  | .dead, X, x, G, h => ⟨fun pins s σ H Q I ⟨_, _, _, _, _, z, _⟩ => z.elim⟩
  | .lc2 .., X, x, G, h => by unfold chkE at h; cases h
  | .dc .., X, x, G, h => by unfold chkE at h; cases h
  | .srt .., X, x, G, h => by unfold chkE at h; cases h
theorem okPs : ∀ (ps : Ps) (X : Cx) (ks : List (Option PySem.Expr)) (vs : List PySem.Expr), Good tb C X → chkPs X.N tb ps X.env.scope ks vs = true → ∀ {pos : Pos}, PPs X pos ks vs (trsOf C ps)
  | .nil, X, ks, vs, G, h, pos => by
    unfold chkPs at h
    rw [Bool.and_eq_true] at h
    cases ks with
    | nil => cases vs with
      | nil => exact pps_nil
      | cons _ _ => cases h.2
    | cons _ _ => cases h.1
  | .cons k v r, X, ks, vs, G, h, pos => by
    unfold chkPs at h
    split at h
    · obtain ⟨h, h3⟩ := bnd h
      obtain ⟨h1, h2⟩ := bnd h
      exact pps_cons (okE k X _ G h1) (okE v X _ G h2) (okPs r X _ _ G h3)
    · cases h
theorem okT : ∀ (c : T) (X : Cx) (x : PySem.Expr), Good tb C X → chkT X.N tb c X.env.scope x = true → PT X x (tT C c) ∧ ∀ op vs p, x = .BoolOp op vs p → PW X x (tT C c)
  | .and a b, X, x, G, h => by
    unfold chkT at h; split at h
    · obtain ⟨h1, h2⟩ := bnd h
      rename_i u y r p
      have hb : PW X (.BoolOp .And (y :: r) p) (tT C b) := by
        cases r with
        | nil => exact pw_and1 (okT b X _ G h2).1
        | cons z r => exact (okT b X _ G h2).2 _ _ _ rfl
      have w := t_and (okT a X _ G h1).1 hb
      exact ⟨w.pt, fun _ _ _ _ => w⟩
    · cases h
  | .or a b, X, x, G, h => by
    unfold chkT at h; split at h
    · obtain ⟨h1, h2⟩ := bnd h
      rename_i u y r p
      have hb : PW X (.BoolOp .Or (y :: r) p) (tT C b) := by
        cases r with
        | nil => exact pw_or1 (okT b X _ G h2).1
        | cons z r => exact (okT b X _ G h2).2 _ _ _ rfl
      have w := t_or (okT a X _ G h1).1 hb
      exact ⟨w.pt, fun _ _ _ _ => w⟩
    · cases h
  | .not a, X, x, G, h => by
    unfold chkT at h; split at h
    · exact ⟨t_not (okT a X _ G h).1, fun _ _ _ e => by cases e⟩
    · cases h
  | .e a, X, x, G, h => by
    unfold chkT at h
    obtain ⟨h1, h2⟩ := bnd h
    by_cases hp : plainTest x = true
    · exact ⟨t_plain hp (bo_of (var_ok h1) (okE a X _ G h1)), fun _ _ _ e => by subst e; cases hp⟩
    · have hc : isCmp a = true := by
        rw [Bool.or_eq_true] at h2
        exact h2.resolve_left hp
      cases a with
      | cmp op a b =>
        unfold chkE at h1; split at h1
        · obtain ⟨h, h3⟩ := bnd h1
          obtain ⟨h, h2⟩ := bnd h
          obtain ⟨h0, h1⟩ := bnd h
          rw [← of_decide_eq_true h0]
          exact ⟨t_cmp G.units (bo_of (var_ok h1) (okE a X _ G h1)) (bo_of (var_ok h2) (okE b X _ G h2)) h3, fun _ _ _ e => by cases e⟩
        · cases h1
      | chain o1 o2 a b c =>
        unfold chkE at h1; split at h1
        · obtain ⟨h, h5⟩ := bnd h1
          obtain ⟨h, h4⟩ := bnd h
          obtain ⟨h, h3⟩ := bnd h
          obtain ⟨h, h2⟩ := bnd h
          obtain ⟨h0, h1⟩ := bnd h
          rw [← of_decide_eq_true h0, ← of_decide_eq_true h1]
          exact ⟨t_chain G.units (bo_of (var_ok h2) (okE a X _ G h2)) (bo_of (var_ok h3) (okE b X _ G h3)) (bo_of (var_ok h4) (okE c X _ G h4)) h5, fun _ _ _ e => by cases e⟩
        · cases h1
      | _ => cases hc
theorem okTo : ∀ (c : To) (X : Cx) (xs : List PySem.Expr), Good tb C X → chkTo X.N tb c X.env.scope xs = true → PTs X xs (tTo C c)
  | .no, X, xs, G, h => by
    unfold chkTo at h; split at h
    · exact to_no
    · cases h
  | .yes c, X, xs, G, h => by
    unfold chkTo at h; split at h
    · exact to_yes (okT c X _ G h).1
    · cases h
theorem okEs : ∀ (es : Es) (X : Cx) (xs : List PySem.Expr), Good tb C X → chkEs X.N tb es X.env.scope xs = true → PA X xs (tEs C es)
  | .nil, X, xs, G, h => by
    unfold chkEs at h; split at h
    · exact es_nil
    · cases h
  | .cons e r, X, xs, G, h => by
    unfold chkEs at h; split at h
    · obtain ⟨h, h3⟩ := bnd h
      obtain ⟨h1, h2⟩ := bnd h
      exact es_cons h1 (okE e X _ G h2) (okEs r X _ G h3)
    · cases h
  | .star e r, X, xs, G, h => by
    unfold chkEs at h; split at h
    · obtain ⟨h1, h2⟩ := bnd h
      exact es_star (bo_of (var_ok h1) (okE e X _ G h1)) (okEs r X _ G h2)
    · cases h
theorem okEb : ∀ (es : Es) (X : Cx) (xs : List PySem.Expr), Good tb C X → chkEs X.N tb es X.env.scope xs = true → PA X xs (tEb C es)
  | .nil, X, xs, G, h => by
    unfold chkEs at h; split at h
    · exact eb_nil
    · cases h
  | .cons e r, X, xs, G, h => by
    unfold chkEs at h; split at h
    · obtain ⟨h, h3⟩ := bnd h
      obtain ⟨h1, h2⟩ := bnd h
      exact eb_cons h1 (bo_of (var_ok h2) (okE e X _ G h2)) (okEb r X _ G h3)
    · cases h
  | .star e r, X, xs, G, h => by
    exact ⟨fun _ _ _ _ _ _ _ ⟨_, _, _, _, _, z, _⟩ => z.elim⟩
theorem okEa : ∀ (es : Es) (X : Cx) (xs : List PySem.Expr), Good tb C X → chkEs X.N tb es X.env.scope xs = true → PA X xs (tEa C es)
  | .nil, X, xs, G, h => by
    unfold chkEs at h; split at h
    · exact ea_nil
    · cases h
  | .cons e r, X, xs, G, h => by
    unfold chkEs at h; split at h
    · obtain ⟨h, h3⟩ := bnd h
      obtain ⟨h1, h2⟩ := bnd h
      exact ea_cons h1 (var_ok h2) (okE e X _ G h2) (okEa r X _ G h3)
    · cases h
  | .star e r, X, xs, G, h => by
    exact ⟨fun _ _ _ _ _ _ _ ⟨_, _, _, _, _, z, _⟩ => z.elim⟩
theorem okEo : ∀ (e : Eo) (X : Cx) (x : Option PySem.Expr), Good tb C X → chkEo X.N tb e X.env.scope x = true → PO X x (tEo C e)
  | .no, X, x, G, h => by
    unfold chkEo at h; split at h
    · exact eo_no
    · cases h
  | .yes e, X, x, G, h => by
    unfold chkEo at h; split at h
    · exact eo_yes (okE e X _ G h)
    · cases h
theorem okIt : ∀ (it : PD.It) (X : Cx) (tg x : PySem.Expr), Good tb C X → chkIt X.N tb (isTup tg) it X.env.scope x = true → (∀ b, PI X tg x (tI C b it)) ∧ notSet x = true
  | .val e, X, tg, x, G, h => by
    unfold chkIt at h
    obtain ⟨h1, h2⟩ := bnd h
    exact ⟨fun b => it_val b (bo_of (var_ok h1) (okE e X _ G h1)) (okE e X _ G h1), h2⟩
  | .rng lo hi, X, tg, x, G, h => by
    unfold chkIt at h; split at h
    · obtain ⟨h, h4⟩ := bnd h
      obtain ⟨h0, h1⟩ := bnd h
      have e := of_decide_eq_true h0
      subst e
      refine ⟨fun b => ?_, rfl⟩
      split at h4
      · obtain ⟨a1, a2⟩ := bnd h4
        exact it_rng1 b (gl_of h1) (G.blt _ (by simp)) a2 (okE hi X _ G a1)
      · rename_i l _ _
        obtain ⟨h4, a4⟩ := bnd h4
        obtain ⟨h4, a3⟩ := bnd h4
        obtain ⟨a1, a2⟩ := bnd h4
        exact it_rng2 b (gl_of h1) (G.blt _ (by simp)) a3 a4 (okE l X _ G a1) (okE hi X _ G a2)
      · cases h4
    · cases h
  | .rng3 lo hi st, X, tg, x, G, h => by
    unfold chkIt at h; split at h
    · obtain ⟨h, h8⟩ := bnd h
      obtain ⟨h, h7⟩ := bnd h
      obtain ⟨h, h6⟩ := bnd h
      obtain ⟨h, h5⟩ := bnd h
      obtain ⟨h, h4⟩ := bnd h
      obtain ⟨h, h3⟩ := bnd h
      obtain ⟨h1, h2⟩ := bnd h
      have e := of_decide_eq_true h1
      subst e
      exact ⟨fun b => it_rng3 b (gl_of h2) (G.blt _ (by simp)) h6 h7 h8 (okE lo X _ G h3) (okE hi X _ G h4) (okE st X _ G h5), rfl⟩
    · cases h
  | .enum e, X, tg, x, G, h => by
    unfold chkIt at h; split at h
    · obtain ⟨h, h5⟩ := bnd h
      obtain ⟨h, h4⟩ := bnd h
      obtain ⟨h, h3⟩ := bnd h
      obtain ⟨h1, h2⟩ := bnd h
      have e2 := of_decide_eq_true h2
      subst e2
      cases tg <;> first | (cases h1; done) | skip
      exact ⟨fun b => it_enum b (gl_of h3) (G.blt _ (by simp)) h5 (bo_of (var_ok h4) (okE e X _ G h4)) (okE e X _ G h4), rfl⟩
    · cases h
  | .zip e f, X, tg, x, G, h => by
    unfold chkIt at h; split at h
    · obtain ⟨h, h7⟩ := bnd h
      obtain ⟨h, h6⟩ := bnd h
      obtain ⟨h, h5⟩ := bnd h
      obtain ⟨h, h4⟩ := bnd h
      obtain ⟨h, h3⟩ := bnd h
      obtain ⟨h1, h2⟩ := bnd h
      have e := of_decide_eq_true h2
      subst e
      cases tg <;> first | (cases h1; done) | skip
      exact ⟨fun b => it_zip b (gl_of h3) (G.blt _ (by simp)) h6 h7 (bo_of (var_ok h4) (okE e X _ G h4)) (okE e X _ G h4) (bo_of (var_ok h5) (okE f X _ G h5)) (okE f X _ G h5), rfl⟩
    · cases h
  | .items .., X, tg, x, G, h => by unfold chkIt at h; cases h
  | .values .., X, tg, x, G, h => by unfold chkIt at h; cases h
  | .revd .., X, tg, x, G, h => by unfold chkIt at h; cases h
end
end
end PD
/-! PDo: statements: syntax, meaning, check. -/
namespace PD
open PySem L2

mutual
inductive Sm where
  | set (o : Bool) (i : Nat) (e : E)
  | asg (g : G) (e : E)
  | par (is : List (Bool × Nat)) (es : Es)
  | aug (i : Nat) (op : BOp) (e : E)
  | ret (e : E)
  | retN
  | ite (c : T) (a b : Ss)
  | for_ (g : G) (it : It) (body : Ss)
  | whl (c : T) (body : Ss)
  | app (i : Nat) (e : E)
  | ext (i : Nat) (e : E)
  | seti (i : Nat) (k e : E)
  | popTo (g : G) (i : Nat) (k : Eo)
  | drop (e : E)
  | brk | cont | pass
  | rais
inductive Ss where
  | nil | cons (s : Sm) (r : Ss) | frz (i : Nat) (r : Ss)
end
structure Ko where
  nx : Nv → Prop
  rt : D → Prop
  bk : Nv → Prop := fun _ => False
  ct : Nv → Prop := fun _ => False

def lookO (ρ : Nv) (i : Nat) : Option D := match ρ[i]? with
  | some (some (.own d)) => some d
  | _ => none
def lstD : D → Option (List D)
  | .list xs => some xs
  | _ => none
def setD : D → D → D → Option D
  | .list xs, .int i, x => (ixN xs.length i).map fun j => .list (xs.set j x)
  | .dict kvs, k, x => if isKey k && kindOk kvs k && decide (kvs.length < sizeLine) then some (.dict (dput kvs k x)) else none
  | _, _, _ => none
def popD (xs : List D) : Option Int → Option (D × List D)
  | none => xs.getLast?.map fun x => (x, xs.dropLast)
  | some i => if -(2 ^ 63) ≤ i ∧ i < 2 ^ 63 then (seqIndex? i xs.length).bind fun k => xs[k]?.map fun x => (x, xs.eraseIdx k) else none
def intOp : BOp → Int → Int → Option Int
  | .add, a, b => some (a + b)
  | .sub, a, b => some (a - b)
  | _, _, _ => none
def forW : List D → (D → Nv → (Nv → Prop) → Prop) → Nv → (Nv → Prop) → Prop
  | [], _, ρ, Q => Q ρ
  | d :: ds, st, ρ, Q => st d ρ fun ρ' => forW ds st ρ' Q
def whileW : Nat → (Nv → W Bool) → (Nv → (Nv → Prop) → Prop) → Nv → (Nv → Prop) → Prop
  | 0, _, _, _, _ => False
  | n + 1, c, b, ρ, Q => c ρ fun t => if t = true then b ρ fun ρ' => whileW n c b ρ' Q else Q ρ
/-- what stands side by side in an assignment -/
def parW (C : Calls) : List (Bool × Nat) → Es → Nv → W (List (Nat × B))
  | [], .nil, _ => fun Q => Q []
  | (o, i) :: is, .cons e r, ρ => fun Q => ev C e ρ fun x => (o = true → isL x = true) ∧ parW C is r ρ fun bs => Q ((i, if o = true then .own x else .sh x) :: bs)
  | _, _, _ => fun _ => False
def sets : Nv → List (Nat × B) → Nv
  | ρ, [] => ρ
  | ρ, (i, b) :: r => sets (ρ.set i (some b)) r

mutual
def exec (C : Calls) : Sm → Nv → Ko → Prop
  | .set o i e, ρ, K => ev C e ρ fun x => if o = true then isL x = true ∧ K.nx (ρ.set i (some (.own x))) else K.nx (ρ.set i (some (.sh x)))
  | .asg g e, ρ, K => ev C e ρ fun x => lift (asg g x ρ) K.nx
  | .par is es, ρ, K => parW C is es ρ fun bs => K.nx (sets ρ bs)
  | .aug i op e, ρ, K => lift (look ρ i) fun x => ev C e ρ fun y => ∃ a b c, x = .int a ∧ y = .int b ∧ intOp op a b = some c ∧ K.nx (ρ.set i (some (.sh (.int c))))
  | .ret e, ρ, K => ev C e ρ K.rt
  | .retN, _, K => K.rt .none
  | .ite c a b, ρ, K => tst C c ρ fun t => if t = true then execs C a ρ K else execs C b ρ K
  | .for_ g it body, ρ, K => evi C false it ρ fun ds => forW ds (fun d ρ k => lift (asg g d ρ) fun ρ' => execs C body ρ' { K with nx := k, ct := k, bk := K.nx }) ρ K.nx
  | .whl c body, ρ, K => ∃ n, whileW n (tst C c) (fun ρ k => execs C body ρ { K with nx := k, ct := k, bk := K.nx }) ρ K.nx
  | .app i e, ρ, K => lift (lookO ρ i) fun l => lift (lstD l) fun xs => ev C e ρ fun x => xs.length < sizeLine ∧ K.nx (ρ.set i (some (.own (.list (xs ++ [x])))))
  | .ext i e, ρ, K => lift (lookO ρ i) fun l => lift (lstD l) fun xs => ev C e ρ fun x => lift (lstD x) fun ys => xs.length + ys.length ≤ sizeLine ∧ K.nx (ρ.set i (some (.own (.list (xs ++ ys)))))
  | .seti i k e, ρ, K => ev C e ρ fun x => lift (lookO ρ i) fun l => ev C k ρ fun y => lift (setD l y x) fun l' => K.nx (ρ.set i (some (.own l')))
  | .popTo g i k, ρ, K => lift (lookO ρ i) fun l => lift (lstD l) fun xs => evo C k ρ fun o => lift (popD xs o) fun p => lift (asg g p.1 (ρ.set i (some (.own (.list p.2))))) K.nx
  | .drop e, ρ, K => ev C e ρ fun _ => K.nx ρ
  | .brk, ρ, K => K.bk ρ
  | .cont, ρ, K => K.ct ρ
  | .pass, ρ, K => K.nx ρ
  | .rais, _, _ => False
def execs (C : Calls) : Ss → Nv → Ko → Prop
  | .nil, ρ, K => K.nx ρ
  | .cons s r, ρ, K => exec C s ρ { K with nx := fun ρ' => execs C r ρ' K }
  | .frz i r, ρ, K => execs C r (match ρ[i]? with
      | some (some (.own d)) => ρ.set i (some (.sh d))
      | _ => ρ) K
end

/-! ### the check -/
def isComp : PySem.Expr → Bool
  | .ListComp .. => true | .SetComp .. => true | .DictComp .. => true | _ => false
def notLck : E → Bool
  | .lck .. => false
  | _ => true
/-- is the name stored within the comprehension? -/
def swB (sc : Scope) (v : PySem.Expr) (x : Str) (p : Pos) : Bool := match v with
  | .ListComp _ _ s _ | .SetComp _ _ s _ | .DictComp _ _ _ s _ => sc.names.lookup x == some .local && p.line == v.pos.line && !(s.names.any fun (n, k) => n == x && (k == .local || k == .cell))
  | _ => false
/-- are the stores of a, b = x, y swapped ones? none: not known to the model -/
def swS (sc : Scope) (ts vs : List PySem.Expr) : Option (Option (List Str)) :=
  if !(ts.length == 2 || ts.length == 3) || vs.length != ts.length then some none
  else if vs.any (fun | .Starred .. => true | _ => false) then some none
  else
    let line := (ts.head?.map (·.pos.line)).getD 0
    let names := ts.filterMap fun
      | .Name id pos => if sc.names.lookup id == some .local && pos.line == line then some id else none
      | _ => none
    if names.length != ts.length || names.eraseDups.length != names.length then some none
    else if vs.all (foldedForSure 8) then some none
    else if vs.all (constantsAlone 8) then none
    else some (some names)
def isTuple : PySem.Expr → Bool
  | .Tuple .. => true | _ => false
def notNameT : PySem.Expr → Bool
  | .Name .. => false | _ => true
def parFr : List (Bool × Nat) → Es → Bool
  | [], .nil => true
  | (o, _) :: is, .cons e r => (!o || frE e) && parFr is r
  | _, _ => false
def isLoc (sc : Scope) : PySem.Expr → Bool
  | .Name x _ => decide (sc.names.lookup x = some .local)
  | _ => false
def tsNames : List PySem.Expr → List Str
  | .Name x _ :: r => x :: tsNames r
  | _ => []
def chkNames (N : List Str) (sc : Scope) : List (Bool × Nat) → List PySem.Expr → Bool
  | [], [] => true
  | (_, i) :: is, .Name x _ :: es => decide (N[i]? = some x) && locB sc x && chkNames N sc is es
  | _, _ => false
section
variable (N : List Str) (tb : List (Str × Nat)) (sc : Scope)
mutual
def chkS : Sm → PySem.Stmt → Bool
  | .set o i e, z => (match z with
    | .Assign [.Name x p] v _ => decide (N[i]? = some x) && locB sc x && chkE N tb e sc v && (!o || frE e) && notLck e
    | _ => false)
  | .asg g e, z => (match z with
    | .Assign [t] v _ => notNameT t && chkG N sc (fun _ => true) g t && chkE N tb e sc v && !(isTuple v)
    | _ => false)
  | .par is es, z => (match z with
    | .Assign [.Tuple ts _ _] (.Tuple vs _ _) _ => chkNames N sc is ts && chkEs N tb es sc vs && vs.all notStar && parFr is es && decide ((is.map (·.2)).Nodup) && decide (is.length ≤ 64) && (match swS sc ts vs with
        | some none => true
        | some (some ns) => (decide (ts.length = 2) || decide (ts.length = 3)) && ts.all (isLoc sc) && decide (ns = tsNames ts)
        | none => false)
    | _ => false)
  | .aug i op e, z => (match z with
    | .AugAssign (.Name x _) o v _ => decide (N[i]? = some x) && locB sc x && decide (bopF op = o) && chkE N tb e sc v
    | _ => false)
  | .ret e, z => (match z with
    | .Return (some v) _ => chkE N tb e sc v
    | _ => false)
  | .retN, z => (match z with
    | .Return none _ => true
    | _ => false)
  | .ite c a b, z => (match z with
    | .If t x y _ => chkT N tb c sc t && chkSs a x && chkSs b y
    | _ => false)
  | .for_ g it body, z => (match z with
    | .For tg iter b [] _ => chkG N sc (fun _ => true) g tg && chkIt N tb (isTup tg) it sc iter && chkSs body b
    | _ => false)
  | .whl c body, z => (match z with
    | .While t b [] _ => chkT N tb c sc t && chkSs body b
    | _ => false)
  | .app i e, z => (match z with
    | .Expr (.Call (.Attribute (.Name x _) m ap) [v] [] cp) _ => varOk N sc i x && decide (m = ("append" : Str)) && (ap.endLine == cp.line) && notStar v && chkE N tb e sc v
    | _ => false)
  | .ext i e, z => (match z with
    | .Expr (.Call (.Attribute (.Name x _) m ap) [v] [] cp) _ => varOk N sc i x && decide (m = ("extend" : Str)) && (ap.endLine == cp.line) && notStar v && chkE N tb e sc v
    | _ => false)
  | .seti i k e, z => (match z with
    | .Assign [.Subscript (.Name x _) y _] v _ => varOk N sc i x && notSlice y && chkE N tb k sc y && chkE N tb e sc v
    | _ => false)
  | .popTo g i k, z => (match z with
    | .Assign [t] (.Call (.Attribute (.Name x _) m ap) as [] cp) _ => chkG N sc (fun _ => true) g t && varOk N sc i x && decide (m = ("pop" : Str)) && (ap.endLine == cp.line) && (match k, as with
        | .no, [] => true
        | .yes k, [v] => notStar v && chkE N tb k sc v
        | _, _ => false)
    | _ => false)
  | .drop e, z => (match z with
    | .Expr v _ => chkE N tb e sc v && !(isComp v)
    | _ => false)
  | .brk, z => (match z with
    | .Break _ => true
    | _ => false)
  | .cont, z => (match z with
    | .Continue _ => true
    | _ => false)
  | .pass, z => (match z with
    | .Pass _ => true
    | _ => false)
  | .rais, _ => true
def chkSs : Ss → List PySem.Stmt → Bool
  | .nil, z => z.isEmpty
  | .cons s r, z => (match z with
    | x :: xs => chkS s x && chkSs r xs
    | [] => false)
  | .frz i r, z => chkSs r z
end
end
end PD
set_option maxHeartbeats 2000000
/-! PDp: statements are as their compact forms say. -/
namespace PD
open PySem L2

/-- what a text may change -/
def Ch (S : Src) (ρ : Nv) (σ : L2.St) : Zn := fun a => S.dom a ∨ OwnAt ρ σ a
structure Stp (S : Src) (ρ : Nv) (σ : L2.St) (H : Hp) (ρ' : Nv) (σ' : L2.St) (H' : Hp) : Prop where
  ext : Ext (Ch S ρ σ) H H'
  own : ∀ a, OwnAt ρ' σ' a → OwnAt ρ σ a ∨ H a = none
  inv : S.inv H'
section
variable {S : Src} {P : Zn} {ρ ρ1 ρ2 : Nv} {σ σ1 σ2 : L2.St} {H H1 H2 : Hp}
theorem Rel.stp (R : Rel S P ρ σ H) : Stp S ρ σ H ρ σ H := ⟨Ext.refl, fun _ z => .inl z, R.inv⟩
theorem Stp.back (i : S.inv H1) (e : Ext (Ch S ρ σ) H H1) {a : Addr} (n : H1 a = none) : OwnAt ρ σ a ∨ H a = none := by
  cases h : H a with
  | none => exact .inr rfl
  | some o =>
    by_cases c : Ch S ρ σ a
    · rcases c with c | c
      · obtain ⟨o', h', _⟩ := (S.fit H1 i).dom a c
        rw [n] at h'; cases h'
      · exact .inl c
    · have := e a o h c
      rw [n] at this; cases this
theorem Stp.trans (a : Stp S ρ σ H ρ1 σ1 H1) (b : Stp S ρ1 σ1 H1 ρ2 σ2 H2) : Stp S ρ σ H ρ2 σ2 H2 where
  ext := fun x o e n => b.ext x o (a.ext x o e n) fun z => z.elim (fun z => n (.inl z)) fun z => (a.own x z).elim (fun z => n (.inr z)) fun z => by rw [e] at z; cases z
  own := fun x z => (b.own x z).elim (a.own x) fun z => Stp.back a.inv a.ext z
  inv := b.inv
theorem Stp.exp (e : Ext S.dom H H1) (i : S.inv H1) : Stp S ρ σ H ρ σ H1 := ⟨e.mono fun _ z => .inl z, fun _ z => .inl z, i⟩

/-- what is wanted behind a statement -/
structure FinS (S : Src) (P : Zn) (ρ : Nv) (σ : L2.St) (H : Hp) (K : Ko) (D : Ends) : Prop where
  nx : ∀ ρ' σ' H', K.nx ρ' → Rel S P ρ' σ' H' → Stp S ρ σ H ρ' σ' H' → D.nx σ' H'
  rt : ∀ d v H', K.rt d → Ext (Ch S ρ σ) H H' → S.inv H' → Rp P H' v d → D.rt v H'
  bk : ∀ ρ' σ' H', K.bk ρ' → Rel S P ρ' σ' H' → Stp S ρ σ H ρ' σ' H' → D.bk σ' H'
  ct : ∀ ρ' σ' H', K.ct ρ' → Rel S P ρ' σ' H' → Stp S ρ σ H ρ' σ' H' → D.ct σ' H'
theorem FinS.on {K : Ko} {D : Ends} (f : FinS S P ρ σ H K D) (s : Stp S ρ σ H ρ1 σ1 H1) : FinS S P ρ1 σ1 H1 K D where
  nx := fun ρ' σ' H' k r t => f.nx ρ' σ' H' k r (s.trans t)
  rt := fun d v H' k e i r => f.rt d v H' k (fun x o h n => e x o (s.ext x o h n) fun z => z.elim (fun z => n (.inl z)) fun z => (s.own x z).elim (fun z => n (.inr z)) fun z => by rw [h] at z; cases z) i r
  bk := fun ρ' σ' H' k r t => f.bk ρ' σ' H' k r (s.trans t)
  ct := fun ρ' σ' H' k r t => f.ct ρ' σ' H' k r (s.trans t)
def tS (C : Calls) (s : Sm) : TS := fun D σ H => ∃ S P ρ K, Rel S P ρ σ H ∧ exec C s ρ K ∧ FinS S P ρ σ H K D
def tSs (C : Calls) (s : Ss) : TS := fun D σ H => ∃ S P ρ K, Rel S P ρ σ H ∧ execs C s ρ K ∧ FinS S P ρ σ H K D

/-! own slots -/
theorem own_setO {i : Nat} {d : D} {p a : Addr} (h : OwnAt (ρ.set i (some (.own d))) (σ.set i (some (.ref p))) a) : a = p ∨ ∃ (j : Nat) (e : D), j ≠ i ∧ ρ[j]? = some (some (.own e)) ∧ σ[j]? = some (some (.ref a)) := by
  obtain ⟨j, e, h1, h2⟩ := h
  by_cases hj : i = j
  · subst hj
    left
    by_cases hl : i < σ.length
    · rw [List.getElem?_set_self hl] at h2; cases h2; rfl
    · rw [List.getElem?_eq_none (by simpa using hl)] at h2; cases h2
  · rw [List.getElem?_set_ne hj] at h1 h2
    exact .inr ⟨j, e, Ne.symm hj, h1, h2⟩
theorem set_get {α : Type} {l : List (Option α)} {i j : Nat} {x y : α} (h : (l.set i (some x))[j]? = some (some y)) : (i = j ∧ x = y ∧ i < l.length) ∨ (i ≠ j ∧ l[j]? = some (some y)) := by
  by_cases hj : i = j
  · subst hj
    by_cases hl : i < l.length
    · rw [List.getElem?_set_self hl] at h; cases h; exact .inl ⟨rfl, rfl, hl⟩
    · rw [List.getElem?_eq_none (by simpa using hl)] at h; cases h
  · rw [List.getElem?_set_ne hj] at h; exact .inr ⟨hj, h⟩
/-- a slot given data of its own: at p, new since H, or the slot's own object that has changed -/
theorem Rel.setO (R : Rel S P ρ σ H) {i : Nat} {p : Addr} {d : D} (hp : H p = none ∨ ∃ e, ρ[i]? = some (some (.own e)) ∧ σ[i]? = some (some (.ref p))) (e : Ext (fun a => S.dom a ∨ a = p) H H1) (inv : S.inv H1) (fp : Fit P H1)
    (l : isL d = true) (rb : RpB (fun a => Nn P ρ σ a ∨ a = p) H1 (.ref p) d) : Rel S P (ρ.set i (some (.own d))) (σ.set i (some (.ref p))) H1 := by
  have nPp : ¬ P p := fun z => by
    rcases hp with hp | ⟨e, h1, h2⟩
    · obtain ⟨o, ho, _⟩ := R.fitP.dom p z
      rw [hp] at ho; cases ho
    · obtain ⟨a, q, _, _, n⟩ := R.own i e h1
      rw [h2] at q; cases q
      exact n z
  have hN : ∀ a, Nn P (ρ.set i (some (.own d))) (σ.set i (some (.ref p))) a → Nn P ρ σ a ∨ a = p := fun a z => by
    rcases z with z | z
    · exact .inl (.inl z)
    · rcases own_setO z with z | ⟨j, e, _, h1, h2⟩
      · exact .inr z
      · exact .inl (.inr ⟨j, e, h1, h2⟩)
  have hpN : Nn P ρ σ p ∨ H p = none := by
    rcases hp with hp | ⟨e, h1, h2⟩
    · exact .inr hp
    · exact .inl (.inr ⟨i, e, h1, h2⟩)
  have hN2 : ∀ a, Nn P (ρ.set i (some (.own d))) (σ.set i (some (.ref p))) a → Nn P ρ σ a ∨ H a = none := fun a z => (hN a z).elim .inl fun z => z ▸ hpN
  have eN : Ext (Nn P ρ σ) H H1 := fun a o h n => by
    refine e a o h fun z => ?_
    rcases z with z | z
    · exact n (.inl (R.sub a z))
    · subst z
      exact hpN.elim n fun z => by rw [h] at z; cases z
  have other : ∀ (j : Nat) (f : D), j ≠ i → ρ[j]? = some (some (.own f)) → ∀ a, σ[j]? = some (some (.ref a)) → a ≠ p := fun j f hj h1 a h2 z => by
    subst z
    rcases hp with hp | ⟨e, h3, h4⟩
    · obtain ⟨b, q, l', r, _⟩ := R.own j f h1
      rw [h2] at q; cases q
      obtain ⟨o, ho, _⟩ := r.list_at l'
      rw [hp] at ho; cases ho
    · exact hj (R.dis j i f e a h1 h3 h2 h4)
  refine ⟨by simp [R.len], R.sub, fp, inv, fun j f h => ?_, fun j f h => ?_, fun j k f g a h1 h2 h3 h4 => ?_, fun j h => ?_⟩
  · rcases set_get h with ⟨_, q, _⟩ | ⟨hj, h⟩
    · cases q
    · obtain ⟨v, q, r⟩ := R.sh j f h
      exact ⟨v, by rw [List.getElem?_set_ne hj]; exact q, r.move eN R.fit hN2⟩
  · rcases set_get h with ⟨rfl, q, hl⟩ | ⟨hj, h⟩
    · cases q
      exact ⟨p, by rw [List.getElem?_set_self (by rw [← R.len]; exact hl)], l, rb.less hN, nPp⟩
    · obtain ⟨a, q, l', r, n⟩ := R.own j f h
      have hap := other j f (Ne.symm hj) h a q
      exact ⟨a, by rw [List.getElem?_set_ne hj]; exact q, l', r.move eN R.fit hN2 (fun b o eb hb => by cases eb; exact e _ o hb fun z => z.elim (fun z => n (R.sub _ z)) hap), n⟩
  · rcases set_get h1 with ⟨rfl, _, hl⟩ | ⟨hj, h1⟩
    · rcases set_get h2 with ⟨rfl, _, _⟩ | ⟨hk, h2⟩
      · rfl
      · rw [List.getElem?_set_self (by rw [← R.len]; exact hl)] at h3; cases h3
        rw [List.getElem?_set_ne hk] at h4
        exact absurd rfl (other k g (Ne.symm hk) h2 _ h4)
    · rw [List.getElem?_set_ne hj] at h3
      rcases set_get h2 with ⟨rfl, _, hl⟩ | ⟨hk, h2⟩
      · rw [List.getElem?_set_self (by rw [← R.len]; exact hl)] at h4; cases h4
        exact absurd rfl (other j f (Ne.symm hj) h1 _ h3)
      · rw [List.getElem?_set_ne hk] at h4
        exact R.dis j k f g a h1 h2 h3 h4
  · rcases set_get h with ⟨_, q, _⟩ | ⟨hj, h⟩
    · cases q
    · rw [List.getElem?_set_ne hj]; exact R.src j h
theorem Fit.upd' {p : Addr} {o : HO} (f : Fit P H) (m : Mut (some o)) : Fit P (upd H p o) := ⟨fun a z => by
  by_cases h : a = p
  · exact ⟨o, by rw [h]; exact upd_same, m⟩
  · obtain ⟨q, h1, h2⟩ := f.dom a z
    exact ⟨q, by rw [upd_ne h]; exact h1, h2⟩⟩
/-- a slot's own data becomes anybody's -/
theorem Rel.frz (R : Rel S P ρ σ H) (i : Nat) {d : D} (h : ρ[i]? = some (some (.own d))) : Rel S P (ρ.set i (some (.sh d))) σ H ∧ ∀ a, OwnAt (ρ.set i (some (.sh d))) σ a → OwnAt ρ σ a := by
  obtain ⟨p, hp, l, rb, nP⟩ := R.own i d h
  have hl : i < ρ.length := by
    rcases Nat.lt_or_ge i ρ.length with q | q
    · exact q
    · rw [List.getElem?_eq_none q] at h; cases h
  have key : ∀ (j : Nat) (e : D), (ρ.set i (some (.sh d)))[j]? = some (some (.own e)) → i ≠ j ∧ ρ[j]? = some (some (.own e)) := fun j e q => by
    rcases set_get q with ⟨_, q, _⟩ | q
    · cases q
    · exact q
  have hO : ∀ a, OwnAt (ρ.set i (some (.sh d))) σ a → OwnAt ρ σ a := fun a ⟨j, e, h1, h2⟩ => ⟨j, e, (key j e h1).2, h2⟩
  have hN : ∀ a, Nn P (ρ.set i (some (.sh d))) σ a → Nn P ρ σ a := fun a z => z.elim .inl fun z => .inr (hO a z)
  have np : ¬ Nn P (ρ.set i (some (.sh d))) σ p := fun z => by
    rcases z with z | ⟨j, e, h1, h2⟩
    · exact nP z
    · obtain ⟨hj, h3⟩ := key j e h1
      exact hj (R.dis i j d e p h h3 hp h2)
  refine ⟨⟨by simp [R.len], R.sub, R.fitP, R.inv, fun j e q => ?_, fun j e q => ?_, fun j k e f a h1 h2 h3 h4 => R.dis j k e f a (key j e h1).2 (key k f h2).2 h3 h4, fun j q => ?_⟩, hO⟩
  · rcases set_get q with ⟨rfl, q, _⟩ | ⟨_, q⟩
    · cases q
      refine ⟨.ref p, hp, ?_⟩
      cases rb with
      | of r => exact r.less hN
      | lst q1 r => exact .lst np q1 (r.less hN)
      | dK q1 r => exact .dK np q1 (r.less hN)
      | dT z q1 r => exact .dT np z q1 (r.less hN)
    · obtain ⟨v, q1, r⟩ := R.sh j e q
      exact ⟨v, q1, r.less hN⟩
  · obtain ⟨a, q1, l', r, n⟩ := R.own j e (key j e q).2
    exact ⟨a, q1, l', r.less hN, n⟩
  · rcases set_get q with ⟨_, q, _⟩ | ⟨_, q⟩
    · cases q
    · exact R.src j q
end
end PD
set_option maxHeartbeats 2000000
/-! PDq: single statements. -/
namespace PD
open PySem L2
theorem PS.weak {X : Cx} {x : PySem.Stmt} {t t' : TS} (h : PS X x t) (w : ∀ D σ H, t' D σ H → t D σ H) : PS X x t' := ⟨fun pins s σ H D I q => h.run pins s σ H D I (w D σ H q)⟩
theorem PSs.weak {X : Cx} {x : List PySem.Stmt} {t t' : TS} (h : PSs X x t) (w : ∀ D σ H, t' D σ H → t D σ H) : PSs X x t' := ⟨fun pins s σ H D I q => h.run pins s σ H D I (w D σ H q)⟩
section
variable {C : Calls} {X : Cx} {tb : List (Str × Nat)} {D : Ends} {σ : L2.St} {H : Hp}
theorem Rel.stpSet {S : Src} {P : Zn} {ρ : Nv} {H1 : Hp} (e : Ext S.dom H H1) (i1 : S.inv H1) {i : Nat} {v : V} {d : PD.D} : Stp S ρ σ H (ρ.set i (some (.sh d))) (σ.set i (some v)) H1 :=
  ⟨e.mono fun _ z => .inl z, fun _ z => .inl (own_set z), i1⟩
theorem w_set {o : Bool} {i : Nat} {e : E} (ho : o = true → frE e = true) (h : tS C (.set o i e) D σ H) : tAsg (tE C e) (gName i) D σ H := by
  obtain ⟨S, P, ρ, K, R, h, f⟩ := h
  refine ⟨S, P, ρ, _, R, h, fun d hd v H1 e1 i1 r1 fs => ?_⟩
  have R1 := R.ext e1 i1
  show D.nx (σ.set i (some v)) H1
  cases o with
  | false =>
    simp only [Bool.false_eq_true, if_false] at hd
    exact f.nx _ _ _ hd (R1.set i r1) (Rel.stpSet (P := P) e1 i1)
  | true =>
    simp only [if_true] at hd
    obtain ⟨hl, hk⟩ := hd
    obtain ⟨p, rfl, np, rb⟩ := fs (ho rfl) hl
    refine f.nx _ _ _ hk (R.setO (.inl np) (e1.mono fun _ z => .inl z) i1 R1.fitP hl rb) ⟨e1.mono fun _ z => .inl z, fun a z => ?_, i1⟩
    rcases own_setO z with z | ⟨j, g, _, h1, h2⟩
    · exact .inr (z ▸ np)
    · exact .inl ⟨j, g, h1, h2⟩
theorem w_asg {g : G} {e : E} (h : tS C (.asg g e) D σ H) : tAsg (tE C e) (tG g) D σ H := by
  obtain ⟨S, P, ρ, K, R, h, f⟩ := h
  refine ⟨S, P, ρ, _, R, h, fun d hd v H1 e1 i1 r1 fs => ?_⟩
  obtain ⟨ρ', ea, hk⟩ := hd
  have R1 := R.ext e1 i1
  refine ⟨S, P, ρ, d, ρ', R1, r1, ea, fun σ' R2 st n2 => f.nx _ _ _ hk R2 ⟨e1.mono fun _ z => .inl z, fun a z => ?_, i1⟩⟩
  rcases n2 a (.inr z) with q | q
  · obtain ⟨j, d', h1, h2⟩ := z
    obtain ⟨b, q1, _, _, n⟩ := R2.own j d' h1
    rw [h2] at q1; cases q1
    exact absurd q n
  · exact .inl q
theorem w_ret {e : E} (h : tS C (.ret e) D σ H) : tRet (tE C e) D σ H := by
  obtain ⟨S, P, ρ, K, R, h, f⟩ := h
  exact ⟨S, P, ρ, _, R, h, fun d hd v H1 e1 i1 r1 _ => f.rt d v H1 hd (e1.mono fun _ z => .inl z) i1 (r1.less fun _ z => .inl z)⟩
theorem w_retN (h : tS C .retN D σ H) : tRetN D σ H := by
  obtain ⟨S, P, ρ, K, R, h, f⟩ := h
  exact f.rt _ _ H h Ext.refl R.inv .non
theorem w_ite {c : T} {a b : Ss} (h : tS C (.ite c a b) D σ H) : tIfS (tT C c) (tSs C a) (tSs C b) D σ H := by
  obtain ⟨S, P, ρ, K, R, h, f⟩ := h
  refine ⟨S, P, ρ, _, R, h, fun t ht H1 e1 i1 => ?_⟩
  cases t with
  | true =>
    simp only [if_true] at ht ⊢
    exact ⟨S, P, ρ, K, R.ext e1 i1, ht, f.on (Stp.exp e1 i1)⟩
  | false =>
    simp only [Bool.false_eq_true, if_false] at ht ⊢
    exact ⟨S, P, ρ, K, R.ext e1 i1, ht, f.on (Stp.exp e1 i1)⟩
theorem w_drop {e : E} (h : tS C (.drop e) D σ H) : tDrop (tE C e) D σ H := by
  obtain ⟨S, P, ρ, K, R, h, f⟩ := h
  exact ⟨S, P, ρ, _, R, h, fun d hd v H1 e1 i1 r1 _ => f.nx _ _ _ hd (R.ext e1 i1) (Stp.exp e1 i1)⟩
theorem w_for {g : G} {it : PD.It} {b : Ss} (h : tS C (.for_ g it b) D σ H) : tFor (tI C false it) (tG g) (tSs C b) D σ H := by
  obtain ⟨S, P, ρ, K, R, h, f⟩ := h
  refine ⟨S, P, ρ, _, R, h, fun ds hds J H1 e1 i1 w => ?_⟩
  have R1 := R.ext e1 i1
  have f1 := f.on (Stp.exp e1 i1)
  simp only [Bool.false_eq_true, if_false] at w
  refine ⟨fun i m σ' H' => i ≤ ds.length ∧ m = ds.length - i ∧ ∃ ρ', Rel S P ρ' σ' H' ∧ Stp S ρ σ H1 ρ' σ' H' ∧
    forW (ds.drop i) (fun d ρ k => lift (asg g d ρ) fun ρ' => execs C b ρ' { K with nx := k, ct := k, bk := K.nx }) ρ' K.nx, ⟨ds.length, Nat.zero_le _, rfl, ρ, R1, R1.stp, by simpa using hds⟩, ?_⟩
  rintro i m σ2 H2 ⟨hi, rfl, ρ2, R2, st, hw⟩
  have eN : Ext (Nn P ρ σ) H1 H2 := st.ext.mono fun a z => z.elim (fun z => .inl (R.sub a z)) .inr
  by_cases hlt : i < ds.length
  · right
    have hgd : ds[i]? = some ds[i] := List.getElem?_eq_getElem hlt
    refine ⟨w.go i H2 _ eN hgd, fun σ' H' => ∃ m', m' < ds.length - i ∧ i + 1 ≤ ds.length ∧ m' = ds.length - (i + 1) ∧ ∃ ρ', Rel S P ρ' σ' H' ∧ Stp S ρ σ H1 ρ' σ' H' ∧
      forW (ds.drop (i + 1)) (fun d ρ k => lift (asg g d ρ) fun ρ' => execs C b ρ' { K with nx := k, ct := k, bk := K.nx }) ρ' K.nx, fun σ' H' z => z, fun v H3 hy => ?_⟩
    obtain ⟨e3, hrp⟩ := w.yld i H2 _ v H3 eN hgd hy
    have R3 := R2.ext0 e3
    rw [List.drop_eq_getElem_cons hlt] at hw
    obtain ⟨ρ3, ea, hw⟩ := hw
    have s3 : Stp S ρ2 σ2 H2 ρ2 σ2 H3 := Stp.exp (e3.any _) R3.inv
    refine ⟨S, P, ρ2, ds[i], ρ3, R3, hrp _ (fun a z => ?_), ea, fun σ4 R4 _ n4 => ?_⟩
    · rcases z with z | z
      · exact .inl (.inl z)
      · exact (st.own a z).elim (fun z => .inl (.inr z)) .inr
    · have s4 : Stp S ρ2 σ2 H3 ρ3 σ4 H3 := ⟨Ext.refl, fun a z => by
        rcases n4 a (.inr z) with q | q
        · obtain ⟨j, d', h1, h2⟩ := z
          obtain ⟨b, q1, _, _, n⟩ := R4.own j d' h1
          rw [h2] at q1; cases q1
          exact absurd q n
        · exact .inl q, R4.inv⟩
      have s5 := (st.trans s3).trans s4
      refine ⟨S, P, ρ3, _, R4, hw, ?_⟩
      have f5 := f1.on s5
      have nxt : ∀ ρ' σ' H', forW (ds.drop (i + 1)) (fun d ρ k => lift (asg g d ρ) fun ρ' => execs C b ρ' { K with nx := k, ct := k, bk := K.nx }) ρ' K.nx → Rel S P ρ' σ' H' → Stp S ρ3 σ4 H3 ρ' σ' H' → _ := fun ρ' σ' H' k r t => (⟨ds.length - (i + 1), by omega, hlt, rfl, ρ', r, s5.trans t, k⟩ : ∃ m', m' < ds.length - i ∧ i + 1 ≤ ds.length ∧ m' = ds.length - (i + 1) ∧ ∃ ρ', Rel S P ρ' σ' H' ∧ Stp S ρ σ H1 ρ' σ' H' ∧
        forW (ds.drop (i + 1)) (fun d ρ k => lift (asg g d ρ) fun ρ' => execs C b ρ' { K with nx := k, ct := k, bk := K.nx }) ρ' K.nx)
      exact ⟨nxt, f5.rt, f5.nx, nxt⟩
  · left
    have hi' : i = ds.length := by omega
    subst hi'
    rw [List.drop_length] at hw
    exact ⟨w.stop _ H2 eN (Nat.le_refl _), f1.nx _ _ _ hw R2 st⟩
theorem w_whl {c : T} {b : Ss} (h : tS C (.whl c b) D σ H) : tWhile (tT C c) (tSs C b) D σ H := by
  obtain ⟨S, P, ρ, K, R, ⟨n, h⟩, f⟩ := h
  refine ⟨fun m σ' H' => ∃ ρ', Rel S P ρ' σ' H' ∧ Stp S ρ σ H ρ' σ' H' ∧ whileW m (tst C c) (fun ρ k => execs C b ρ { K with nx := k, ct := k, bk := K.nx }) ρ' K.nx, ⟨n, ρ, R, R.stp, h⟩, ?_⟩
  rintro m σ2 H2 ⟨ρ2, R2, st, hw⟩
  cases m with
  | zero => cases hw
  | succ m =>
    refine ⟨S, P, ρ2, _, R2, hw, fun t ht H3 e3 i3 => ?_⟩
    have s3 := st.trans (Stp.exp e3 i3)
    have R3 := R2.ext e3 i3
    have f3 := f.on s3
    cases t with
    | false =>
      simp only [Bool.false_eq_true, if_false] at ht ⊢
      exact f3.nx _ _ _ ht R3 R3.stp
    | true =>
      simp only [if_true] at ht ⊢
      refine ⟨fun σ' H' => ∃ m', m' < m + 1 ∧ ∃ ρ', Rel S P ρ' σ' H' ∧ Stp S ρ σ H ρ' σ' H' ∧ whileW m' (tst C c) (fun ρ k => execs C b ρ { K with nx := k, ct := k, bk := K.nx }) ρ' K.nx, fun σ' H' z => z, S, P, ρ2, _, R3, ht, ?_⟩
      have nxt : ∀ ρ' σ' H', whileW m (tst C c) (fun ρ k => execs C b ρ { K with nx := k, ct := k, bk := K.nx }) ρ' K.nx → Rel S P ρ' σ' H' → Stp S ρ2 σ2 H3 ρ' σ' H' → ∃ m', m' < m + 1 ∧ ∃ ρ', Rel S P ρ' σ' H' ∧ Stp S ρ σ H ρ' σ' H' ∧ whileW m' (tst C c) (fun ρ k => execs C b ρ { K with nx := k, ct := k, bk := K.nx }) ρ' K.nx :=
        fun ρ' σ' H' k r t => ⟨m, by omega, ρ', r, s3.trans t, k⟩
      exact ⟨nxt, f3.rt, f3.nx, nxt⟩
theorem w_cons {s : Sm} {r : Ss} (h : tSs C (.cons s r) D σ H) : tSeq (tS C s) (tSs C r) D σ H := by
  obtain ⟨S, P, ρ, K, R, h, f⟩ := h
  exact ⟨S, P, ρ, _, R, h, ⟨fun ρ' σ' H' k r t => ⟨S, P, ρ', K, r, k, f.on t⟩, f.rt, f.bk, f.ct⟩⟩
theorem w_frz {i : Nat} {r : Ss} (h : tSs C (.frz i r) D σ H) : tSs C r D σ H := by
  obtain ⟨S, P, ρ, K, R, h, f⟩ := h
  have h : execs C r (match ρ[i]? with
      | some (some (.own d)) => ρ.set i (some (.sh d))
      | _ => ρ) K := h
  split at h
  · rename_i d hd
    obtain ⟨R', hO⟩ := R.frz i hd
    exact ⟨S, P, _, K, R', h, f.on ⟨Ext.refl, fun a z => .inl (hO a z), R.inv⟩⟩
  · exact ⟨S, P, _, K, R, h, f⟩
end
end PD
set_option maxHeartbeats 2000000
/-! PDr: one's own lists and dicts are written. -/
namespace PD
open PySem L2
section
variable {S : Src} {P : Zn} {ρ : Nv} {σ : L2.St} {H : Hp}
theorem set_same {α : Type} : ∀ {l : List α} {i : Nat} {x : α}, l[i]? = some x → l.set i x = l
  | a :: l, 0, x, h => by cases h; rfl
  | a :: l, i + 1, x, h => by
    have : l[i]? = some x := by simpa using h
    simp [set_same this]
theorem Rel.write (R : Rel S P ρ σ H) {i : Nat} {e d : D} {a : Addr} {o : HO} (h1 : ρ[i]? = some (some (.own e))) (h2 : σ[i]? = some (some (.ref a))) (m : Mut (some o)) (l : isL d = true) (rb : RpB (Nn P ρ σ) (upd H a o) (.ref a) d) :
    Rel S P (ρ.set i (some (.own d))) σ (upd H a o) ∧ Stp S ρ σ H (ρ.set i (some (.own d))) σ (upd H a o) := by
  have nP : ¬ P a := by
    obtain ⟨b, q, _, _, n⟩ := R.own i e h1
    rw [h2] at q; cases q
    exact n
  have nD : ¬ S.dom a := fun z => nP (R.sub _ z)
  have inv : S.inv (upd H a o) := S.stab _ _ R.inv fun b hb => upd_ne fun z => nD (z ▸ hb)
  have ha : OwnAt ρ σ a := ⟨i, e, h1, h2⟩
  have es : σ.set i (some (.ref a)) = σ := set_same h2
  have ex : Ext (fun b => S.dom b ∨ b = a) H (upd H a o) := fun b q hb n => by rw [upd_ne (fun z => n (.inr z))]; exact hb
  have R' := R.setO (i := i) (p := a) (d := d) (H1 := upd H a o) (.inr ⟨e, h1, h2⟩) ex inv (Fit.upd' R.fitP m) l (rb.less fun b z => z.elim id fun z => z ▸ .inr ha)
  rw [es] at R'
  refine ⟨R', ex.mono fun b z => z.elim .inl fun z => z ▸ .inr ha, fun b z => ?_, inv⟩
  rw [← es] at z
  rcases own_setO z with z | ⟨j, g, _, h3, h4⟩
  · exact .inl (z ▸ ha)
  · exact .inl ⟨j, g, h3, h4⟩
theorem Rel.at_own (R : Rel S P ρ σ H) {i : Nat} {d : D} (h : lookO ρ i = some d) : ρ[i]? = some (some (.own d)) ∧ ∃ a, σ[i]? = some (some (.ref a)) ∧ RpB (Nn P ρ σ) H (.ref a) d ∧ ¬ P a := by
  unfold lookO at h
  split at h
  · rename_i d' hd
    cases h
    obtain ⟨a, q, _, r, n⟩ := R.own i _ hd
    exact ⟨hd, a, q, r, n⟩
  · cases h
theorem upd_ext (R : Rel S P ρ σ H) {i : Nat} {d : D} {a : Addr} {o : HO} (h1 : ρ[i]? = some (some (.own d))) (h2 : σ[i]? = some (some (.ref a))) : Ext (Nn P ρ σ) H (upd H a o) := fun b q hb n => by
  rw [upd_ne (fun z => n (.inr ⟨i, d, h1, by rw [z]; exact h2⟩))]; exact hb
theorem lstD_of {d : D} {xs : List D} (h : lstD d = some xs) : d = .list xs := by
  unfold lstD at h; split at h
  · cases h; rfl
  · cases h
end
section
variable {C : Calls} {X : Cx} {tb : List (Str × Nat)} {D : Ends} {σ : L2.St} {H : Hp}
theorem tyV_list {K : PySem.W.Frag} {a : Addr} {xs : List V} (h : H a = some (.lst xs)) : tyV K "list" (.ref a) H := .inl ⟨rfl, xs, SqL.of h⟩
theorem w_app {i : Nat} {e : E} (h : tS C (.app i e) D σ H) : tDrop (tBM X.K "list" rAppend (tVar i) (tCons (tE C e) tNil)) D σ H := by
  obtain ⟨S, P, ρ, K, R, ⟨l, hl, ds, hds, h⟩, f⟩ := h
  have := lstD_of hds; subst this
  obtain ⟨h1, a, h2, rb, nP⟩ := R.at_own hl
  obtain ⟨a', xs, ea, ha, ra⟩ := rb.list_of
  cases ea
  refine ⟨.ref a, h2, tyV_list ha, S, P, ρ, _, R, h, fun d hd v H1 e1 i1 r1 _ => ?_⟩
  have R1 := R.ext e1 i1
  obtain ⟨hlen, hk⟩ := hd
  have ha1 : H1 a = some (.lst xs) := e1 a _ ha fun z => nP (R.sub _ z)
  have ra1 := ra.ext (e1.mono R.domN) R.fit
  refine ⟨a, xs, v, rfl, rfl, ha1, by rw [ra.length]; exact hlen, ?_⟩
  have up := upd_ext (o := .lst (xs ++ [v])) R1 h1 h2
  obtain ⟨R2, st⟩ := R1.write (d := .list (ds ++ [d])) (o := .lst (xs ++ [v])) h1 h2 trivial rfl (.lst upd_same ((ra1.append (.cons r1 .nil)).ext up R1.fit))
  exact f.nx _ _ _ hk R2 ((Stp.exp e1 i1).trans st)
theorem w_ext {i : Nat} {e : E} (h : tS C (.ext i e) D σ H) : tDrop (tBM X.K "list" rExtend (tVar i) (tCons (tE C e) tNil)) D σ H := by
  obtain ⟨S, P, ρ, K, R, ⟨l, hl, ds, hds, h⟩, f⟩ := h
  have := lstD_of hds; subst this
  obtain ⟨h1, a, h2, rb, nP⟩ := R.at_own hl
  obtain ⟨a', xs, ea, ha, ra⟩ := rb.list_of
  cases ea
  refine ⟨.ref a, h2, tyV_list ha, S, P, ρ, _, R, h, fun d hd v H1 e1 i1 r1 _ => ?_⟩
  have R1 := R.ext e1 i1
  obtain ⟨es, hes, hlen, hk⟩ := hd
  have := lstD_of hes; subst this
  obtain ⟨b, ys, rfl, hb, rb'⟩ := (RpB.of r1).list_of
  have ha1 : H1 a = some (.lst xs) := e1 a _ ha fun z => nP (R.sub _ z)
  have ra1 := ra.ext (e1.mono R.domN) R.fit
  refine ⟨a, b, xs, ys, rfl, rfl, ha1, hb, by rw [ra.length, rb'.length]; exact hlen, ?_⟩
  have up := upd_ext (o := .lst (xs ++ ys)) R1 h1 h2
  obtain ⟨R2, st⟩ := R1.write (d := .list (ds ++ es)) (o := .lst (xs ++ ys)) h1 h2 trivial rfl (.lst upd_same ((ra1.append rb').ext up R1.fit))
  exact f.nx _ _ _ hk R2 ((Stp.exp e1 i1).trans st)
def tPop (X : Cx) (i : Nat) (C : Calls) (k : Eo) : TE := match k with
  | .no => tBM0 X.K "list" rPop (tVar i)
  | .yes k => tBM X.K "list" rPopAt (tVar i) (tCons (tE C k) tNil)
theorem w_pop {g : G} {i : Nat} {k : Eo} (h : tS C (.popTo g i k) D σ H) : tAsg (tPop X i C k) (tG g) D σ H := by
  obtain ⟨S, P, ρ, K, R, ⟨l, hl, ds, hds, h⟩, f⟩ := h
  have := lstD_of hds; subst this
  obtain ⟨h1, a, h2, rb, nP⟩ := R.at_own hl
  obtain ⟨a', xs, ea, ha, ra⟩ := rb.list_of
  cases ea
  have fin : ∀ (H1 : Hp) (e1 : Ext S.dom H H1) (i1 : S.inv H1) (v : V) (d : PD.D) (vs : List V) (es : List PD.D), Rp (Nn P ρ σ) H1 v d → RpAll (Nn P ρ σ) H1 vs es → lift (asg g d (ρ.set i (some (.own (.list es))))) K.nx → tG g v σ (upd H1 a (.lst vs)) D.nx := by
    intro H1 e1 i1 v d vs es rv rvs hk
    have R1 := R.ext e1 i1
    have up := upd_ext (o := .lst vs) R1 h1 h2
    obtain ⟨R2, st⟩ := R1.write (d := .list es) (o := .lst vs) h1 h2 trivial rfl (.lst upd_same (rvs.ext up R1.fit))
    obtain ⟨ρ', ea, hk⟩ := hk
    refine ⟨S, P, _, d, ρ', R2, ?_, ea, fun σ' R3 _ n3 => f.nx _ _ _ hk R3 (((Stp.exp e1 i1).trans st).trans ⟨Ext.refl, fun b z => ?_, R3.inv⟩)⟩
    · refine (rv.ext up R1.fit).less fun b z => z.elim .inl fun z => ?_
      obtain ⟨j, g', h3, h4⟩ := z
      rcases set_get h3 with ⟨rfl, _, _⟩ | ⟨_, h3⟩
      · exact .inr ⟨_, _, h1, h4⟩
      · exact .inr ⟨j, g', h3, h4⟩
    · rcases n3 b (.inr z) with q | q
      · obtain ⟨j, d', h3, h4⟩ := z
        obtain ⟨b', q1, _, _, n⟩ := R3.own j d' h3
        rw [h4] at q1; cases q1
        exact absurd q n
      · exact .inl q
  cases k with
  | no =>
    refine ⟨.ref a, h2, tyV_list ha, ?_⟩
    obtain ⟨⟨x, es⟩, hp, hk⟩ := h
    unfold popD at hp
    obtain ⟨y, hy, ep⟩ := Option.map_eq_some_iff.mp hp
    cases ep
    rw [List.getLast?_eq_getElem?] at hy
    obtain ⟨v, hv, rv⟩ := ra.get' hy
    refine ⟨a, xs, v, rfl, rfl, ha, by rw [ra.length]; exact hv, ?_⟩
    exact fin H Ext.refl R.inv v x _ _ rv ra.dropLast hk
  | yes k =>
    refine ⟨.ref a, h2, tyV_list ha, S, P, ρ, _, R, h, fun d hd v H1 e1 i1 r1 _ => ?_⟩
    obtain ⟨j, rfl, ⟨x, es⟩, hp, hk⟩ := hd
    cases (RpB.of r1).int_of
    unfold popD at hp
    simp only at hp
    split at hp
    · rename_i hr
      obtain ⟨n, hn, hp⟩ := Option.bind_eq_some_iff.mp hp
      obtain ⟨y, hy, ep⟩ := Option.map_eq_some_iff.mp hp
      cases ep
      have ra1 := ra.ext (e1.mono R.domN) R.fit
      obtain ⟨w, hw, rw'⟩ := ra1.get' hy
      refine ⟨a, xs, j, n, w, rfl, rfl, e1 a _ ha fun z => nP (R.sub _ z), hr.1, hr.2, by rw [ra.length]; exact hn, hw, ?_⟩
      exact fin H1 e1 i1 w x _ _ rw' (ra1.eraseIdx n) hk
    · cases hp
def tAg (op : BOp) : TIp := fun x y H Q => ∃ a b c, x = .int a ∧ y = .int b ∧ intOp op a b = some c ∧ Q (.int c) H
theorem ip_any (op : BOp) : PIp X (bopF op) (tAg op) := by
  intro pins s σ H x y v u Q I r1 r2 h
  obtain ⟨a, b, c, rfl, rfl, hc, q⟩ := h
  cases op <;> simp only [intOp] at hc <;> first | (exfalso; cases hc; done) | skip
  · cases hc; exact ip_add pins s σ H _ _ v u Q I r1 r2 ⟨a, b, rfl, rfl, q⟩
  · cases hc; exact ip_sub pins s σ H _ _ v u Q I r1 r2 ⟨a, b, rfl, rfl, q⟩
theorem w_aug {i : Nat} {op : BOp} {e : E} (h : tS C (.aug i op e) D σ H) : tAug i (tE C e) (tAg op) D σ H := by
  obtain ⟨S, P, ρ, K, R, ⟨x, hx, h⟩, f⟩ := h
  unfold look at hx
  split at hx
  · rename_i d hd
    cases hx
    obtain ⟨v, hv, rv⟩ := R.sh i _ hd
    refine ⟨v, hv, S, P, ρ, _, R, h, fun y ⟨a, b, c, e1, e2, hc, hk⟩ w H1 ex1 i1 r1 _ => ?_⟩
    subst e1 e2
    cases (RpB.of rv).int_of
    cases (RpB.of r1).int_of
    exact ⟨a, b, c, rfl, rfl, hc, f.nx _ _ _ hk ((R.ext ex1 i1).set i (.int c)) (Rel.stpSet (P := P) ex1 i1)⟩
  · cases hx
/-! d[k] = x, l[i] = x -/
def tSt : TSet := fun o y v H Q => ∃ N a l k x l', o = .ref a ∧ N a ∧ Fit N H ∧ RpB N H (.ref a) l ∧ RpB N H y k ∧ Rp N H v x ∧ setD l k x = some l' ∧ isL l' = true ∧ ∀ ob, Mut (some ob) → RpB N (upd H a ob) (.ref a) l' → Q (upd H a ob)
theorem set_any (hu : X.A.units + 64 < cLine) : PSet X tSt := by
  intro pins s σ H o y v ov iv u Q I ro ry rv h
  obtain ⟨N, a, l, k, x, l', rfl, na, f, rl, rk, rx, hs, hl', q⟩ := h
  have up : ∀ ob, Ext N H (upd H a ob) := fun ob b q hb n => by rw [upd_ne (fun z => n (by rw [z]; exact na))]; exact hb
  cases (show ov = Value.ref a from ro)
  unfold setD at hs
  split at hs
  · rename_i ds i
    obtain ⟨j, hj, rfl⟩ := Option.map_eq_some_iff.mp hs
    obtain ⟨a', xs, ea, ha, ra⟩ := rl.list_of
    cases ea
    cases rk.int_of
    refine set_list pins s σ H (.ref a) (.int i) v _ iv u Q I rfl ry rv ⟨a, xs, i, j, rfl, rfl, ha, by rw [ra.length]; exact hj, ?_⟩
    exact q _ trivial (.lst upd_same ((ra.set j rx).ext (up _) f))
  · split at hs
    · rename_i hc
      simp only [Bool.and_eq_true, decide_eq_true_eq] at hc
      obtain ⟨⟨k1, k2⟩, k3⟩ := hc
      cases hs
      obtain ⟨a', ea, ⟨ks, es, ha, r, rfl⟩ | ⟨ks, es, hne, ha, r, rfl⟩⟩ := rl.dict_of
      · cases ea
        have hl : ks.length = es.length := by simpa using r.length
        have hz : ks.length < sizeLine := by simp [List.length_zip, hl] at k3; omega
        rcases key_cases k1 with ⟨k, rfl⟩ | ⟨k, rfl⟩
        · obtain ⟨es', re, he⟩ := put_rp keyD keyD_eqv k rx r
          have hdp : DPut H a y v (upd H a (.dK (putK ks k v))) := by rw [Rp.key rk]; exact DPut.k ha hz
          refine d_setItem (by omega) I hdp ry rv fun s' I' => ⟨_, I', q _ trivial ?_⟩
          rw [he]
          exact .dK upd_same (re.ext (up _) f)
        · obtain rfl := kindOk_K hl k2
          cases r
          obtain ⟨b, rfl, hb⟩ := Rp.tkey rk
          have hne : b ≠ a := ne_of hb ha (by intro z; cases z)
          have hdp : DPut (upd H a (.dT [])) a (.ref b) v (upd (upd H a (.dT [])) a (.dT (putK [] k v))) := DPut.t upd_same (by rw [upd_ne hne]; exact hb) hz
          rw [upd_upd] at hdp
          obtain ⟨es', re, he⟩ := put_rp tkeyD tkeyD_eqv k rx (kvs := []) (ds := []) .nil
          refine d_setItem (by omega) (Inv.toT I ha) hdp ry rv fun s' I' => ⟨_, I', q _ trivial ?_⟩
          have he' : dput [] (tkeyD k) x = _ := he
          simp only [List.map_nil, List.zip_nil_right] at *
          rw [he']
          exact .dT putK_ne upd_same (re.ext (up _) f)
      · cases ea
        have hl : ks.length = es.length := by simpa using r.length
        have hz : ks.length < sizeLine := by simp [List.length_zip, hl] at k3; omega
        rcases key_cases k1 with ⟨k, rfl⟩ | ⟨k, rfl⟩
        · exact absurd (kindOk_T hl k2) hne
        · obtain ⟨b, rfl, hb⟩ := Rp.tkey rk
          obtain ⟨es', re, he⟩ := put_rp tkeyD tkeyD_eqv k rx r
          refine d_setItem (by omega) I (DPut.t ha hb hz) ry rv fun s' I' => ⟨_, I', q _ trivial ?_⟩
          rw [he]
          exact .dT putK_ne upd_same (re.ext (up _) f)
    · cases hs
  · cases hs
theorem w_seti {i : Nat} {k e : E} (h : tS C (.seti i k e) D σ H) : tAsg (tE C e) (gSub (tVar i) (tE C k) tSt) D σ H := by
  obtain ⟨S, P, ρ, K, R, h, f⟩ := h
  refine ⟨S, P, ρ, _, R, h, fun x ⟨l, hl, hd⟩ v H1 e1 i1 r1 _ => ?_⟩
  have R1 := R.ext e1 i1
  obtain ⟨h1, a, h2, rb, nP⟩ := R1.at_own hl
  refine ⟨.ref a, h2, S, P, ρ, _, R1, hd, fun y ⟨l', hs, hk⟩ w H2 e2 i2 r2 _ => ?_⟩
  have R2 := R1.ext e2 i2
  obtain ⟨h1', a', h2', rb', nP'⟩ := R2.at_own hl
  have ea : a' = a := by rw [h2] at h2'; cases h2'; rfl
  subst ea
  have hl' : isL l' = true := by
    unfold setD at hs
    split at hs
    · obtain ⟨j, hj, rfl⟩ := Option.map_eq_some_iff.mp hs; rfl
    · split at hs
      · cases hs; rfl
      · cases hs
    · cases hs
  refine ⟨Nn P ρ σ, a', l, y, x, l', rfl, .inr ⟨i, l, h1, h2⟩, R2.fit, rb', .of r2, r1.ext (e2.mono R1.domN) R1.fit, hs, hl', fun ob m rb2 => ?_⟩
  obtain ⟨R3, st⟩ := R2.write h1 h2 m hl' rb2
  exact f.nx _ _ _ hk R3 (((Stp.exp e1 i1).trans (Stp.exp e2 i2)).trans st)
end
end PD
set_option maxHeartbeats 2000000
/-! PDs: assignments side by side; name = value. -/
namespace PD
open PySem L2
section
variable {S : Src} {P : Zn} {ρ : Nv} {σ : L2.St} {H : Hp}
inductive PBs (M : Zn) (H : Hp) : List Addr → List V → List (Nat × B) → Prop
  | nil : PBs M H [] [] []
  | sh {ps v vs i d bs} : Rp M H v d → PBs M H ps vs bs → PBs M H ps (v :: vs) ((i, .sh d) :: bs)
  | own {ps p vs i d bs} : isL d = true → RpB M H (.ref p) d → M p → p ∉ ps → PBs M H ps vs bs → PBs M H (p :: ps) (.ref p :: vs) ((i, .own d) :: bs)
theorem PBs.length {M : Zn} : ∀ {ps : List Addr} {vs : List V} {bs : List (Nat × B)}, PBs M H ps vs bs → vs.length = bs.length
  | _, _, _, .nil => rfl
  | _, _, _, .sh _ t => by simp [PBs.length t]
  | _, _, _, .own _ _ _ _ t => by simp [PBs.length t]
/-- a place kept away is a slot's own -/
theorem Rel.take {P1 : Zn} {p : Addr} {d : D} {i : Nat} (R : Rel S P1 ρ σ H) (h1 : ∀ a, P a → P1 a) (h2 : ∀ a, P1 a → P a ∨ a = p) (hp : P1 p) (np : ¬ P p) (hs : ∀ a, S.dom a → P a) (l : isL d = true) (rb : RpB (Nn P1 ρ σ) H (.ref p) d) :
    Rel S P (ρ.set i (some (.own d))) (σ.set i (some (.ref p))) H := by
  have hN : ∀ a, Nn P (ρ.set i (some (.own d))) (σ.set i (some (.ref p))) a → Nn P1 ρ σ a := fun a z => by
    rcases z with z | z
    · exact .inl (h1 a z)
    · rcases own_setO z with z | ⟨j, e, _, h3, h4⟩
      · exact .inl (z ▸ hp)
      · exact .inr ⟨j, e, h3, h4⟩
  have other : ∀ (j : Nat) (f : D), ρ[j]? = some (some (.own f)) → ∀ a, σ[j]? = some (some (.ref a)) → a ≠ p := fun j f h3 a h4 z => by
    obtain ⟨b, q, _, _, n⟩ := R.own j f h3
    rw [h4] at q; cases q
    exact n (z ▸ hp)
  refine ⟨by simp [R.len], hs, ⟨fun a z => R.fitP.dom a (h1 a z)⟩, R.inv, fun j f h => ?_, fun j f h => ?_, fun j k f g a h3 h4 h5 h6 => ?_, fun j h => ?_⟩
  · rcases set_get h with ⟨_, q, _⟩ | ⟨hj, h⟩
    · cases q
    · obtain ⟨v, q, r⟩ := R.sh j f h
      exact ⟨v, by rw [List.getElem?_set_ne hj]; exact q, r.less hN⟩
  · rcases set_get h with ⟨rfl, q, hl⟩ | ⟨hj, h⟩
    · cases q
      exact ⟨p, by rw [List.getElem?_set_self (by rw [← R.len]; exact hl)], l, rb.less hN, np⟩
    · obtain ⟨a, q, l', r, n⟩ := R.own j f h
      exact ⟨a, by rw [List.getElem?_set_ne hj]; exact q, l', r.less hN, fun z => n (h1 a z)⟩
  · rcases set_get h3 with ⟨rfl, _, hl⟩ | ⟨hj, h3⟩
    · rcases set_get h4 with ⟨rfl, _, _⟩ | ⟨hk, h4⟩
      · rfl
      · rw [List.getElem?_set_self (by rw [← R.len]; exact hl)] at h5; cases h5
        rw [List.getElem?_set_ne hk] at h6
        exact absurd rfl (other k g h4 _ h6)
    · rw [List.getElem?_set_ne hj] at h5
      rcases set_get h4 with ⟨rfl, _, hl⟩ | ⟨hk, h4⟩
      · rw [List.getElem?_set_self (by rw [← R.len]; exact hl)] at h6; cases h6
        exact absurd rfl (other j f h3 _ h5)
      · rw [List.getElem?_set_ne hk] at h6
        exact R.dis j k f g a h3 h4 h5 h6
  · rcases set_get h with ⟨_, q, _⟩ | ⟨hj, h⟩
    · cases q
    · rw [List.getElem?_set_ne hj]; exact R.src j h
/-- a place that was new is kept away from now on -/
def setsV : L2.St → List Nat → List V → L2.St
  | σ, i :: is, v :: vs => setsV (σ.set i (some v)) is vs
  | σ, _, _ => σ
theorem sets_rel : ∀ {ps : List Addr} {vs : List V} {bs : List (Nat × B)} {M : Zn} {ρ : Nv} {σ : L2.St}, (∀ a, S.dom a → P a) → Rel S (fun a => P a ∨ a ∈ ps) ρ σ H → (∀ a, Nn (fun a => P a ∨ a ∈ ps) ρ σ a → M a) → (∀ p ∈ ps, ¬ P p) → PBs M H ps vs bs →
    Rel S P (sets ρ bs) (setsV σ (bs.map (·.1)) vs) H ∧ ∀ a, OwnAt (sets ρ bs) (setsV σ (bs.map (·.1)) vs) a → OwnAt ρ σ a ∨ a ∈ ps
  | _, _, _, M, ρ, σ, hs, R, hM, hn, .nil => by
    have e : (fun a => P a ∨ a ∈ ([] : List Addr)) = P := by funext a; simp
    rw [e] at R
    exact ⟨R, fun a z => .inl z⟩
  | ps, _, _, M, ρ, σ, hs, R, hM, hn, .sh (i := i) (v := v) (d := d) r t => by
    have R1 := R.set i (r.less hM)
    obtain ⟨R2, h2⟩ := sets_rel hs R1 (fun a z => hM a (z.elim .inl fun z => .inr (own_set z))) hn t
    exact ⟨R2, fun a z => (h2 a z).elim (fun z => .inl (own_set z)) .inr⟩
  | p :: ps, .ref _ :: _, (i, .own d) :: _, M, ρ, σ, hs, R, hM, hn, .own l rb hMp hnp t => by
    have R1 : Rel S (fun a => P a ∨ a ∈ ps) (ρ.set i (some (.own d))) (σ.set i (some (.ref p))) H :=
      R.take (p := p) (fun a z => z.elim .inl fun z => .inr (List.mem_cons_of_mem _ z)) (fun a z => z.elim (fun z => .inl (.inl z)) fun z => (List.mem_cons.mp z).elim .inr fun z => .inl (.inr z)) (.inr (List.mem_cons_self ..))
        (fun z => z.elim (hn p (List.mem_cons_self ..)) hnp) (fun a z => .inl (hs a z)) l (rb.less hM)
    have hM1 : ∀ a, Nn (fun a => P a ∨ a ∈ ps) (ρ.set i (some (.own d))) (σ.set i (some (.ref p))) a → M a := fun a z => by
      rcases z with z | z
      · exact hM a (.inl (z.elim .inl fun z => .inr (List.mem_cons_of_mem _ z)))
      · rcases own_setO z with z | ⟨j, e, _, h3, h4⟩
        · exact z ▸ hMp
        · exact hM a (.inr ⟨j, e, h3, h4⟩)
    obtain ⟨R2, h2⟩ := sets_rel hs R1 hM1 (fun q hq => hn q (List.mem_cons_of_mem _ hq)) t
    · refine ⟨R2, fun a z => (h2 a z).elim (fun z => ?_) fun z => .inr (List.mem_cons_of_mem _ z)⟩
      rcases own_setO z with z | ⟨j, e, _, h3, h4⟩
      · exact .inr (z ▸ List.mem_cons_self ..)
      · exact .inl ⟨j, e, h3, h4⟩
end
/-- several values, some of them new -/
def tPr (C : Calls) (is : List (Bool × Nat)) (es : Es) : TA := fun σ H Q => ∃ S P ρ Q0, Rel S P ρ σ H ∧ parW C is es ρ Q0 ∧ ∀ bs, Q0 bs → ∀ ps vs H', Ext S.dom H H' → S.inv H' → Rel S (fun a => P a ∨ a ∈ ps) ρ σ H' → (∀ p ∈ ps, H p = none) →
  PBs (Nn (fun a => P a ∨ a ∈ ps) ρ σ) H' ps vs bs → bs.map (·.1) = is.map (·.2) → Q vs H'
section
variable {C : Calls} {X : Cx} {tb : List (Str × Nat)} {D : Ends} {σ : L2.St} {H : Hp}
theorem pr_nil : PA X [] (tPr C [] .nil) := PA.weak pa_nil fun σ H Q ⟨S, P, ρ, Q0, R, h, q⟩ => q _ h [] [] H Ext.refl R.inv (by
  have e : (fun a => P a ∨ a ∈ ([] : List Addr)) = P := by funext a; simp
  rw [e]; exact R) (fun p hp => by cases hp) .nil rfl
theorem pr_cons {o : Bool} {i : Nat} {is : List (Bool × Nat)} {e : E} {r : Es} {x : PySem.Expr} {xs : List PySem.Expr} (ho : o = true → frE e = true) (he : PE X x (tE C e)) (hr : PA X xs (tPr C is r)) (hs : notStar x = true) : PA X (x :: xs) (tPr C ((o, i) :: is) (.cons e r)) := by
  have hst : starEach (x :: xs) X.env = (false, eval x X.env) :: starEach xs X.env := by cases x <;> first | rfl | cases hs
  refine PA.weak (pa_cons he hr hst) fun σ H Q ⟨S, P, ρ, Q0, R, h, q⟩ => ⟨S, P, ρ, _, R, h, fun d hd v H1 e1 i1 r1 fs => ?_⟩
  obtain ⟨hl, hd⟩ := hd
  have R1 := R.ext e1 i1
  cases o with
  | false =>
    refine ⟨S, P, ρ, _, R1, hd, fun bs hb ps vs H2 e2 i2 R2 hp pb hm => q _ hb ps (v :: vs) H2 (e1.trans e2) i2 R2 (fun p z => fresh_trans i1 e1 (hp p z)) (.sh ?_ pb) (by simp [hm])⟩
    refine r1.move (e2.mono R1.domN) R1.fit fun a z => ?_
    rcases z with (z | z) | z
    · exact .inl (.inl z)
    · exact .inr (hp a z)
    · exact .inl (.inr z)
  | true =>
    obtain ⟨p, rfl, np, rb⟩ := fs (ho rfl) (hl rfl)
    obtain ⟨ob, hob, mob⟩ := rb.list_at (hl rfl)
    have Rp1 := R.prot2 e1 i1 np hob mob
    refine ⟨S, _, ρ, _, Rp1, hd, fun bs hb ps vs H2 e2 i2 R2 hp pb hm => ?_⟩
    have eP : (fun a => (P a ∨ a = p) ∨ a ∈ ps) = fun a => P a ∨ a ∈ p :: ps := by funext a; simp [or_assoc]
    rw [eP] at R2 pb
    have npp : p ∉ ps := fun z => by have := hp p z; rw [hob] at this; cases this
    have nD : ¬ S.dom p := fun z => by
      obtain ⟨o', ho', _⟩ := (S.fit H R.inv).dom p z
      rw [np] at ho'; cases ho'
    refine q _ hb (p :: ps) (.ref p :: vs) H2 (e1.trans e2) i2 R2 (fun a z => (List.mem_cons.mp z).elim (fun z => z ▸ np) fun z => fresh_trans i1 e1 (hp a z)) (.own (hl rfl) ?_ (.inl (.inr (List.mem_cons_self ..))) npp pb) (by simp [hm])
    refine rb.move (N := fun a => Nn P ρ σ a ∨ a = p) (e2.mono fun a z => .inl (R.domN a z)) ⟨fun a z => ?_⟩ (fun a z => ?_) (fun b o' eb hb' => by cases eb; exact e2 _ o' hb' nD)
    · rcases z with z | rfl
      · exact R1.fit.dom a z
      · exact ⟨ob, hob, mob⟩
    · rcases z with (z | z) | z
      · exact .inl (.inl (.inl z))
      · exact (List.mem_cons.mp z).elim (fun z => .inl (.inr z)) fun z => .inr (hp a z)
      · exact .inl (.inl (.inr z))
/-- what follows: the names hold the values -/
theorem w_par {is : List (Bool × Nat)} {es : Es} (h : tS C (.par is es) D σ H) : tPr C is es σ H fun vs H1 => vs.length = is.length ∧ ∀ H2, Ext No H1 H2 → D.nx (setsV σ (is.map (·.2)) vs) H2 := by
  obtain ⟨S, P, ρ, K, R, h, f⟩ := h
  refine ⟨S, P, ρ, _, R, h, fun bs hk ps vs H1 e1 i1 R1 hp pb hm => ⟨?_, fun H2 e2 => ?_⟩⟩
  · rw [pb.length, ← List.length_map (f := (·.1)), hm, List.length_map]
  · have R2 := R1.ext0 e2
    have hn : ∀ p ∈ ps, ¬ P p := fun p z w => by
      obtain ⟨o, ho, _⟩ := R.fitP.dom p w
      rw [hp p z] at ho; cases ho
    have pb2 : PBs (Nn (fun a => P a ∨ a ∈ ps) ρ σ) H2 ps vs bs := by
      clear hk hm
      generalize hM : Nn (fun a => P a ∨ a ∈ ps) ρ σ = M at pb ⊢
      have fM : Fit M H1 := hM ▸ R1.fit
      clear hM R2 R1 hn hp
      induction pb with
      | nil => exact .nil
      | sh r t ih => exact .sh (r.ext (e2.any _) fM) ih
      | own l rb hMp hnp t ih => exact .own l (rb.ext e2 fM) hMp hnp ih
    obtain ⟨R3, h3⟩ := sets_rel R.sub R2 (fun a z => z) hn pb2
    rw [hm] at R3 h3
    exact f.nx _ _ _ hk R3 ⟨(e1.trans (e2.any _)).mono fun _ z => .inl z, fun a z => (h3 a z).elim .inl fun z => .inr (hp a z), S.ext i1 e2⟩
end
end PD
set_option maxHeartbeats 4000000
/-! PDt: every text is as its compact form says. -/
namespace PD
open PySem L2
theorem swap_name {X : Cx} (hk : X.env.scope.kind = .function) {v : PySem.Expr} {x : Str} {p : Pos} {l : Nat} : swapsWith v (some (.Name x p)) l X.env = pure (swB X.env.scope v x p) := by
  have hb : (X.env.blockKind == ScopeKind.function) = true := by unfold Env.blockKind; rw [hk]; rfl
  cases v <;> first
    | rfl
    | (unfold swapsWith swB; simp only [hb, Bool.true_and]; rfl)
theorem swap_none {X : Cx} {v : PySem.Expr} {l : Nat} (h : isComp v = false) : swapsWith v none l X.env = pure false := by
  cases v <;> first | rfl | cases h
theorem swap_sole {X : Cx} {v t : PySem.Expr} {l : Nat} (h : notNameT t = true) : swapsWithSole [t] v l X.env = pure false := by
  cases t <;> first | (cases h; done) | (cases v <;> rfl)
theorem sw_stores0 {X : Cx} {t v : PySem.Expr} (h : isTuple v = false) : swappedStores [t] v X.env = pure none := by
  cases v <;> first | (cases h; done) | (cases t <;> rfl)
theorem sw_stores {X : Cx} (hk : X.env.scope.kind = .function) {ts vs : List PySem.Expr} {k k2 p p2} {o : Option (List Str)} (h : swS X.env.scope ts vs = some o) : swappedStores [.Tuple ts k p] (.Tuple vs k2 p2) X.env = pure o := by
  have hb : (X.env.blockKind != ScopeKind.function) = false := by unfold Env.blockKind; rw [hk]; rfl
  unfold swS at h
  unfold swappedStores
  simp only [pure_bind]
  rw [hb, Bool.or_false]
  split at h
  · rename_i h1; cases h; exact if_pos h1
  · rename_i h1; refine (if_neg h1).trans ?_
    split at h
    · rename_i h2; cases h; exact if_pos h2
    · rename_i h2; refine (if_neg h2).trans ?_
      simp only at h
      split at h
      · rename_i h3; cases h; exact if_pos h3
      · rename_i h3; refine (if_neg h3).trans ?_
        split at h
        · rename_i h4; cases h; exact if_pos h4
        · rename_i h4; refine (if_neg h4).trans ?_
          split at h
          · cases h
          · rename_i h5; cases h; exact if_neg h5

structure Stm (X : Cx) : Prop where
  kind : X.env.scope.kind = .function
  fn : ∀ x, X.fn x = true
  own : PassesOwn (model X.prog X.w) X.A X.env X.xe
section
variable {C : Calls} {tb : List (Str × Nat)} {X : Cx}
theorem loc_of {sc : Scope} {x : Str} (h : locB sc x = true) : L2.Loc sc x := by
  unfold locB at h; unfold L2.Loc
  split at h <;> first | exact .inl (by assumption) | exact .inr (by assumption) | cases h
def gNs : List (Bool × Nat) → TGs
  | [] => gNil
  | (_, i) :: r => gCons (gName i) (gNs r)
theorem gNs_run {H : Hp} {Q : L2.St → Hp → Prop} : ∀ {is : List (Bool × Nat)} {vs : List V} {σ : L2.St}, vs.length = is.length → Q (setsV σ (is.map (·.2)) vs) H → gNs is vs σ H Q
  | [], [], σ, _, q => ⟨rfl, q⟩
  | (_, i) :: r, v :: vs, σ, h, q => ⟨v, vs, rfl, gNs_run (is := r) (by simpa using h) q⟩
theorem pgs_names (G : Good tb C X) (M : Stm X) : ∀ {is : List (Bool × Nat)} {ts : List PySem.Expr}, chkNames X.N X.env.scope is ts = true → PGs X ts (gNs is)
  | [], [], _ => pgs_nil
  | (_, i) :: r, .Name x p :: ts, h => by
    unfold chkNames at h
    obtain ⟨h, h3⟩ := bnd h
    obtain ⟨h1, h2⟩ := bnd h
    exact pgs_cons (pg_name (i := i) G.nd (of_decide_eq_true h1) (loc_of h2) (.inl (M.fn x))) (pgs_names G M h3) rfl
theorem names_shape {N : List Str} {sc : Scope} {env : PySem.Env} : ∀ {is : List (Bool × Nat)} {ts : List PySem.Expr}, chkNames N sc is ts = true → (assignEach ts env).length = is.length ∧ (assignEach ts env).findIdx? (·.1) = none ∧ ts.length = is.length
  | [], [], _ => ⟨rfl, rfl, rfl⟩
  | (_, i) :: r, .Name x p :: ts, h => by
    unfold chkNames at h
    obtain ⟨h, h3⟩ := bnd h
    obtain ⟨a1, a2, a3⟩ := names_shape (env := env) h3
    refine ⟨?_, ?_, by simp [a3]⟩
    · show ((false, assign (.Name x p) env) :: assignEach ts env).length = _
      simp [a1]
    · show ((false, assign (.Name x p) env) :: assignEach ts env).findIdx? (·.1) = none
      rw [List.findIdx?_cons, a2]; rfl
theorem okPr (G : Good tb C X) : ∀ {is : List (Bool × Nat)} {es : Es} {xs : List PySem.Expr}, chkEs X.N tb es X.env.scope xs = true → xs.all notStar = true → parFr is es = true → PA X xs (tPr C is es)
  | [], .nil, xs, h, _, _ => by
    unfold chkEs at h; split at h
    · exact pr_nil
    · cases h
  | (o, i) :: is, .cons e r, xs, h, hs, hp => by
    unfold chkEs at h; split at h
    · rename_i x xs
      obtain ⟨h, h3⟩ := bnd h
      obtain ⟨h1, h2⟩ := bnd h
      unfold parFr at hp
      obtain ⟨p1, p2⟩ := bnd hp
      exact pr_cons (fun ho => by rw [ho] at p1; simpa using p1) (okE e X x G h2) (okPr G h3 (by rw [List.all_cons] at hs; exact (bnd hs).2) p2) h1
    · cases h
  | [], .cons _ _, _, _, _, h => by unfold parFr at h; cases h
  | [], .star _ _, _, _, _, h => by unfold parFr at h; cases h
  | _ :: _, .nil, _, _, _, h => by unfold parFr at h; cases h
  | _ :: _, .star _ _, _, _, _, h => by unfold parFr at h; cases h
theorem tPr_mono {is : List (Bool × Nat)} {es : Es} {σ : L2.St} {H : Hp} {Q Q' : List V → Hp → Prop} (h : tPr C is es σ H Q) (w : ∀ vs H', Q vs H' → Q' vs H') : tPr C is es σ H Q' := by
  obtain ⟨S, P, ρ, Q0, R, h, q⟩ := h
  exact ⟨S, P, ρ, Q0, R, h, fun bs hb ps vs H' e i R' hp pb hm => w _ _ (q bs hb ps vs H' e i R' hp pb hm)⟩
theorem swS_len {sc : Scope} {ts vs : List PySem.Expr} {ns : List Str} (h : swS sc ts vs = some (some ns)) : vs.length = ts.length := by
  unfold swS at h
  split at h
  · cases h
  · rename_i h1
    simp only [Bool.or_eq_true, not_or, bne_iff_ne, ne_eq, Decidable.not_not] at h1
    exact h1.2
theorem z64 : 64 ≤ sizeLine := by decide
theorem ok_par (G : Good tb C X) (M : Stm X) {is : List (Bool × Nat)} {es : Es} {z : PySem.Stmt} (h : chkS X.N tb X.env.scope (.par is es) z = true) : PS X z (tS C (.par is es)) := by
  unfold chkS at h
  split at h
  · rename_i ts k pt vs k2 pt2 pos
    obtain ⟨h, h6⟩ := bnd h
    obtain ⟨h, h7⟩ := bnd h
    obtain ⟨h, h5⟩ := bnd h
    obtain ⟨h, h4⟩ := bnd h
    obtain ⟨h, h3⟩ := bnd h
    obtain ⟨h1, h2⟩ := bnd h
    have pa := okPr G h2 h3 h4
    obtain ⟨n1, n2, n3⟩ := names_shape (env := X.env) h1
    have nd : (is.map (·.2)).Nodup := of_decide_eq_true h5
    have h64 : is.length ≤ 64 := of_decide_eq_true h7
    have := z64
    split at h6
    · rename_i hsw
      refine PS.weak (ps_asg (pe_tup pa) (pg_tup G.calm (pgs_names G M h1) n1 n2) (swap_sole rfl) (sw_stores M.kind hsw) rfl) fun Dd σ H h => ?_
      refine tPr_mono (w_par h) fun vs H1 ⟨hl, hq⟩ => ⟨by omega, fun p hp => ⟨p, vs, rfl, SqT.of upd_same, hl, gNs_run hl (hq _ (Ext.new hp))⟩⟩
    · rename_i ns hsw
      obtain ⟨g6, h8⟩ := bnd h6
      obtain ⟨g, h9⟩ := bnd g6
      have hns := of_decide_eq_true h8
      subst hns
      have hvl := swS_len hsw
      rw [Bool.or_eq_true] at g
      rcases g with g | g
      · have hl := of_decide_eq_true g
        obtain ⟨i, j, e⟩ : ∃ i j, is = [i, j] := by
          match is, n3.symm.trans hl with
          | [i, j], _ => exact ⟨i, j, rfl⟩
        subst e
        obtain ⟨_, i⟩ := i
        obtain ⟨_, j⟩ := j
        rw [hl] at hvl
        clear h2 h3 n1 n2 n3 h6 g6 h8 h
        obtain ⟨x, px, y, py, ets⟩ : ∃ x px y py, ts = [.Name x px, .Name y py] := by
          match ts, hl, h9 with
          | [a, b], _, h9 =>
            cases a <;> first | (simp [isLoc] at h9; done) | skip
            cases b <;> first | (simp [isLoc] at h9; done) | skip
            exact ⟨_, _, _, _, rfl⟩
        subst ets
        simp only [chkNames, Bool.and_eq_true, decide_eq_true_eq] at h1
        simp only [List.all_cons, List.all_nil, isLoc, Bool.and_eq_true, decide_eq_true_eq] at h9
        have hij : i ≠ j := by simpa using nd
        match vs, hvl, pa, hsw with
        | [a, b], _, pa, hsw =>
          refine PS.weak (ps_par G.calm G.nd h1.1.1 h1.2.1.1 hij h9.1 h9.2.1 pa (sw_stores M.kind hsw) (swap_sole rfl)) fun Dd σ H h => ?_
          refine tPr_mono (w_par h) fun vs H1 ⟨hl, hq⟩ => ?_
          match vs, hl with
          | [v, w], hl => exact ⟨v, w, rfl, hq _ Ext.refl⟩
      · have hl := of_decide_eq_true g
        obtain ⟨i, j, l, e⟩ : ∃ i j l, is = [i, j, l] := by
          match is, n3.symm.trans hl with
          | [i, j, l], _ => exact ⟨i, j, l, rfl⟩
        subst e
        obtain ⟨_, i⟩ := i
        obtain ⟨_, j⟩ := j
        obtain ⟨_, l⟩ := l
        rw [hl] at hvl
        clear h2 h3 n1 n2 n3 h6 g6 h8 h
        obtain ⟨x, px, y, py, z, pz, ets⟩ : ∃ x px y py z pz, ts = [.Name x px, .Name y py, .Name z pz] := by
          match ts, hl, h9 with
          | [a, b, c], _, h9 =>
            cases a <;> first | (simp [isLoc] at h9; done) | skip
            cases b <;> first | (simp [isLoc] at h9; done) | skip
            cases c <;> first | (simp [isLoc] at h9; done) | skip
            exact ⟨_, _, _, _, _, _, rfl⟩
        subst ets
        simp only [chkNames, Bool.and_eq_true, decide_eq_true_eq] at h1
        simp only [List.all_cons, List.all_nil, isLoc, Bool.and_eq_true, decide_eq_true_eq] at h9
        have hij : i ≠ j ∧ i ≠ l ∧ j ≠ l := by simpa [and_assoc] using nd
        match vs, hvl, pa, hsw with
        | [a, b, c], _, pa, hsw =>
          refine PS.weak (ps_par3 G.calm G.nd h1.1.1 h1.2.1.1 h1.2.2.1.1 hij.1 hij.2.1 hij.2.2 h9.1 h9.2.1 h9.2.2.1 pa (sw_stores M.kind hsw) (swap_sole rfl)) fun Dd σ H h => ?_
          refine tPr_mono (w_par h) fun vs H1 ⟨hl, hq⟩ => ?_
          match vs, hl with
          | [u, v, w], hl => exact ⟨u, v, w, rfl, hq _ Ext.refl⟩
    · cases h6
  · cases h
theorem starE1 {env : PySem.Env} {v : PySem.Expr} (h : notStar v = true) : starEach [v] env = (false, eval v env) :: starEach [] env := by
  cases v <;> first | rfl | cases h
theorem comp_lc {N : List Str} {sc : Scope} {e : E} {v : PySem.Expr} (h : chkE N tb e sc v = true) (hc : isComp v = true) (hn : notLck e = true) : ∃ vs g it c elt, e = .lc vs g it c elt := by
  cases e <;> first
    | exact absurd hn Bool.false_ne_true
    | exact ⟨_, _, _, _, _, rfl⟩
    | (exfalso; unfold chkE at h; (try split at h) <;> first | (cases hc; done) | (cases h; done))
    | (exfalso; cases v <;> first | (cases hc; done) | (unfold chkE at h; cases h; done))
mutual
theorem okS (G : Good tb C X) (M : Stm X) : ∀ (s : Sm) (z : PySem.Stmt), chkS X.N tb X.env.scope s z = true → PS X z (tS C s)
  | .set o i e, z, h => by
    unfold chkS at h; split at h
    · rename_i x p v pos
      obtain ⟨h, hn⟩ := bnd h
      obtain ⟨h, h4⟩ := bnd h
      obtain ⟨h, h3⟩ := bnd h
      obtain ⟨h1, h2⟩ := bnd h
      have ho : o = true → frE e = true := fun z => by rw [z] at h4; simpa using h4
      by_cases hs : swB X.env.scope v x p = true
      · have hc : isComp v = true := by
          unfold swB at hs
          cases v <;> first | rfl | cases hs
        obtain ⟨vs, g, it, c, elt, ee⟩ := comp_lc h3 hc hn
        subst ee
        unfold chkE at h3; split at h3
        · rename_i x0 tg iter ifs scope pos0 _ hh
          obtain ⟨k, k6⟩ := bnd h3
          obtain ⟨k, k5⟩ := bnd k
          obtain ⟨k, k4⟩ := bnd k
          obtain ⟨k, k3⟩ := bnd k
          obtain ⟨k, k2⟩ := bnd k
          obtain ⟨k0, k1⟩ := bnd k
          have hl := of_decide_eq_true k2
          obtain ⟨i1, i2⟩ := okIt it X tg _ G k4
          refine PS.weak ((ev_lc G.calm G.nd (i1 true) (blkOk_by k0) (by rw [List.map_snd_zip]; omega) (of_decide_eq_true k1).symm
            (fun s H Cc cl fp => okG (X := X.blk s H scope (compEnvC scope cl Cc X.env) fp) G.nd G.calm (fun z hz => fnB_ok hz) g tg k3)
            (fun s H Cc cl fp => okTo c (X.blk s H scope (compEnvC scope cl Cc X.env) fp) _ (G.blk _ _ _ _ _) k5)
            (fun s H Cc cl fp => okE elt (X.blk s H scope (compEnvC scope cl Cc X.env) fp) _ (G.blk _ _ _ _ _) k6) (folded_plain i2)).2 (of_decide_eq_true h1) ?_ (by rw [swap_name M.kind, hs])) fun D σ H q => w_set ho q
          unfold swB at hs
          simp only [Bool.and_eq_true, beq_iff_eq] at hs
          exact hs.1.1
        · cases h3
      · refine PS.weak (ps_set G.nd (of_decide_eq_true h1) (loc_of h2) (okE e X v G h3) (by rw [swap_name M.kind]; simp only [Bool.not_eq_true] at hs; rw [hs]) (.inl (M.fn x))) fun D σ H q => w_set ho q
    · cases h
  | .asg g e, z, h => by
    unfold chkS at h; split at h
    · obtain ⟨h, h4⟩ := bnd h
      obtain ⟨h, h3⟩ := bnd h
      obtain ⟨h1, h2⟩ := bnd h
      refine PS.weak (ps_asg (okE e X _ G h3) (okG G.nd G.calm (fun x _ => .inl (M.fn x)) g _ h2) (swap_sole h1) (sw_stores0 (by simpa using h4)) ?_) fun D σ H q => w_asg q
      have := chkG_star h2
      rw [assignEach_cons _ _ _ this]; rfl
    · cases h
  | .par is es, z, h => ok_par G M h
  | .aug i op e, z, h => by
    unfold chkS at h; split at h
    · rename_i x p o v pos
      obtain ⟨h, h4⟩ := bnd h
      obtain ⟨h, h3⟩ := bnd h
      obtain ⟨h1, h2⟩ := bnd h
      rw [← of_decide_eq_true h3]
      exact PS.weak (ps_aug G.nd (of_decide_eq_true h1) (loc_of h2) (okE e X _ G h4) (ip_any op) (.inl (M.fn x))) fun D σ H q => w_aug q
    · cases h
  | .ret e, z, h => by
    unfold chkS at h; split at h
    · exact PS.weak (ps_ret (okE e X _ G h)) fun D σ H q => w_ret q
    · cases h
  | .retN, z, h => by
    unfold chkS at h; split at h
    · exact PS.weak ps_retN fun D σ H q => w_retN q
    · cases h
  | .ite c a b, z, h => by
    unfold chkS at h; split at h
    · obtain ⟨h, h3⟩ := bnd h
      obtain ⟨h1, h2⟩ := bnd h
      exact PS.weak (ps_if (okT c X _ G h1).1 (okSs G M a _ h2) (okSs G M b _ h3)) fun D σ H q => w_ite q
    · cases h
  | .for_ g it body, z, h => by
    unfold chkS at h; split at h
    · rename_i tg iter b pos
      obtain ⟨h, h3⟩ := bnd h
      obtain ⟨h1, h2⟩ := bnd h
      obtain ⟨i1, i2⟩ := okIt it X tg _ G h2
      exact PS.weak (ps_for M.own G.calm (i1 false) (okG G.nd G.calm (fun x _ => .inl (M.fn x)) g _ h1) (okSs G M body _ h3) (folded_plain i2)) fun D σ H q => w_for q
    · cases h
  | .whl c body, z, h => by
    unfold chkS at h; split at h
    · obtain ⟨h1, h2⟩ := bnd h
      exact PS.weak (ps_while M.own (okT c X _ G h1).1 (okSs G M body _ h2)) fun D σ H q => w_whl q
    · cases h
  | .app i e, z, h => by
    unfold chkS at h; split at h
    · rename_i x p m ap v cp pos
      obtain ⟨h, h5⟩ := bnd h
      obtain ⟨h, h4⟩ := bnd h
      obtain ⟨h, h3⟩ := bnd h
      obtain ⟨h1, h2⟩ := bnd h
      have hm := of_decide_eq_true h2
      subst hm
      exact PS.weak (ps_expr (pe_bm PySem.F.plainAttrs_list PySem.F.slot_list_append PySem.F.type_list_append mt_append (var_of rfl h1) (pa_cons (okE e X v G h5) pa_nil (starE1 h4)) rfl (by rw [starE1 h4]; rfl) h3 (starE1 h4) rfl) (swap_none rfl)) fun D σ H q => w_app q
    · cases h
  | .ext i e, z, h => by
    unfold chkS at h; split at h
    · rename_i x p m ap v cp pos
      obtain ⟨h, h5⟩ := bnd h
      obtain ⟨h, h4⟩ := bnd h
      obtain ⟨h, h3⟩ := bnd h
      obtain ⟨h1, h2⟩ := bnd h
      have hm := of_decide_eq_true h2
      subst hm
      exact PS.weak (ps_expr (pe_bm PySem.F.plainAttrs_list PySem.F.slot_list_extend PySem.F.type_list_extend mt_extend (var_of rfl h1) (pa_cons (okE e X v G h5) pa_nil (starE1 h4)) rfl (by rw [starE1 h4]; rfl) h3 (starE1 h4) rfl) (swap_none rfl)) fun D σ H q => w_ext q
    · cases h
  | .seti i k e, z, h => by
    unfold chkS at h; split at h
    · rename_i x p y sp v pos
      obtain ⟨h, h4⟩ := bnd h
      obtain ⟨h, h3⟩ := bnd h
      obtain ⟨h1, h2⟩ := bnd h
      refine PS.weak (ps_asg (okE e X v G h4) (pg_sub (var_of rfl h1) (okE k X y G h3) (set_any G.units) ?_) (swap_sole rfl) ?_ rfl) fun D σ H q => w_seti q
      · intro u; cases y <;> first | rfl | cases h2
      · cases v <;> rfl
    · cases h
  | .popTo g i k, z, h => by
    unfold chkS at h; split at h
    · rename_i t x p m ap as cp pos
      obtain ⟨h, h5⟩ := bnd h
      obtain ⟨h, h4⟩ := bnd h
      obtain ⟨h, h3⟩ := bnd h
      obtain ⟨h1, h2⟩ := bnd h
      have hm := of_decide_eq_true h3
      subst hm
      have hg := okG G.nd G.calm (fun x _ => .inl (M.fn x)) g _ h1
      have hst := chkG_star h1
      have ha : (assignEach [t] X.env).map (·.2) = [assign t X.env] := by rw [assignEach_cons _ _ _ hst]; rfl
      have key : PE X (.Call (.Attribute (.Name x p) ("pop" : Str) ap) as [] cp) (tPop X i C k) := by
        split at h5
        · exact pe_bm0 PySem.F.plainAttrs_list PySem.F.slot_list_pop PySem.F.type_list_pop mt_pop (var_of rfl h2) rfl h4
        · obtain ⟨g1, g2⟩ := bnd h5
          rename_i k v
          exact pe_bm PySem.F.plainAttrs_list PySem.F.slot_list_pop PySem.F.type_list_pop mt_popAt (var_of rfl h2) (pa_cons (okE k X v G g2) pa_nil (starE1 g1)) rfl (by rw [starE1 g1]; rfl) h4 (starE1 g1) rfl
        · cases h5
      refine PS.weak (ps_asg key hg ?_ (sw_stores0 rfl) ha) fun D σ H q => w_pop q
      cases t <;> rfl
    · cases h
  | .drop e, z, h => by
    unfold chkS at h; split at h
    · obtain ⟨h1, h2⟩ := bnd h
      exact PS.weak (ps_expr (okE e X _ G h1) (swap_none (by simpa using h2))) fun D σ H q => w_drop q
    · cases h
  | .brk, z, h => by
    unfold chkS at h; split at h
    · exact PS.weak ps_break fun D σ H ⟨S, P, ρ, K, R, h, f⟩ => f.bk _ _ _ h R R.stp
    · cases h
  | .cont, z, h => by
    unfold chkS at h; split at h
    · exact PS.weak ps_continue fun D σ H ⟨S, P, ρ, K, R, h, f⟩ => f.ct _ _ _ h R R.stp
    · cases h
  | .rais, z, h => ⟨fun pins s σ H D I ⟨_, _, _, _, _, z, _⟩ => z.elim⟩
  | .pass, z, h => by
    unfold chkS at h; split at h
    · exact PS.weak ps_pass fun D σ H ⟨S, P, ρ, K, R, h, f⟩ => f.nx _ _ _ h R R.stp
    · cases h
theorem okSs (G : Good tb C X) (M : Stm X) : ∀ (s : Ss) (z : List PySem.Stmt), chkSs X.N tb X.env.scope s z = true → PSs X z (tSs C s)
  | .nil, z, h => by
    unfold chkSs at h
    cases z with
    | nil => exact PSs.weak pss_nil fun D σ H ⟨S, P, ρ, K, R, h, f⟩ => f.nx _ _ _ h R R.stp
    | cons _ _ => cases h
  | .cons s r, z, h => by
    unfold chkSs at h; split at h
    · obtain ⟨h1, h2⟩ := bnd h
      exact PSs.weak (pss_cons (okS G M s _ h1) (okSs G M r _ h2)) fun D σ H q => w_cons q
    · cases h
  | .frz i r, z, h => by
    unfold chkSs at h
    exact PSs.weak (okSs G M r z h) fun D σ H q => w_frz q
end
end
end PD
set_option maxHeartbeats 2000000
/-! PDu: defs by a table; their calls by depth. -/
namespace PD
open PySem L2 PySem.Spec PyProof.Rows
inductive Fn where
  | code (np ns : Nat) (body : Ss)
  | ext (np : Nat) (sem : List B → W D)
def Fn.np : Fn → Nat
  | .code n _ _ => n
  | .ext n _ => n
def startN (ns : Nat) (bs : List B) : Nv := bs.map some ++ List.replicate (ns - bs.length) none
def isRd : B → Bool
  | .own _ => false
  | _ => true
def koF (Q : D → Prop) : Ko := { nx := fun _ => Q .none, rt := Q }
def callF (prog : List Fn) : Nat → Calls
  | 0 => fun _ _ _ => False
  | k + 1 => fun f bs Q => match prog[f]? with
    | some (.code np ns body) => bs.length = np ∧ bs.all isRd = true ∧ execs (callF prog k) body (startN ns bs) (koF Q)
    | some (.ext np sem) => bs.length = np ∧ 1 ≤ k ∧ sem bs Q
    | none => False
theorem callF_ar {prog : List Fn} {k f : Nat} {fn : Fn} {bs : List B} {Q : D → Prop} (h : prog[f]? = some fn) (c : callF prog k f bs Q) : bs.length = fn.np := by
  cases k with
  | zero => cases c
  | succ k =>
    unfold callF at c
    simp only [h] at c
    cases fn with
    | code np ns body => exact c.1
    | ext np sem => exact c.1
section
variable {S : Src} {P : Zn} {H : Hp}
theorem rpAs_get : ∀ {vs : List V} {bs : List B} {i : Nat} {b : B}, RpAs S P H vs bs → bs[i]? = some b → (∃ d v, b = .sh d ∧ vs[i]? = some v ∧ Rp P H v d) ∨ (b = .src ∧ vs[i]? = some S.v)
  | _, _, 0, _, .sh r _, h => by cases h; exact .inl ⟨_, _, rfl, rfl, r⟩
  | _, _, 0, _, .src _, h => by cases h; exact .inr ⟨rfl, rfl⟩
  | _, _, i + 1, _, .sh _ t, h => rpAs_get (i := i) t (by simpa using h)
  | _, _, i + 1, _, .src t, h => rpAs_get (i := i) t (by simpa using h)
theorem startN_get {ns : Nat} {bs : List B} {i : Nat} {b : B} (h : (startN ns bs)[i]? = some (some b)) : bs[i]? = some b := by
  unfold startN at h
  by_cases hi : i < bs.length
  · rw [List.getElem?_append_left (by simpa using hi), List.getElem?_map] at h
    obtain ⟨x, h1, h2⟩ := Option.map_eq_some_iff.mp h
    cases h2; exact h1
  · rw [List.getElem?_append_right (by simpa using Nat.le_of_not_lt hi)] at h
    have := List.mem_of_getElem? h
    simp at this
theorem start_get {N : List Str} {vs : List V} {i : Nat} {v : V} (h : vs[i]? = some v) : (L2.start N vs)[i]? = some (some v) := by
  have hi : i < vs.length := by
    rcases Nat.lt_or_ge i vs.length with q | q
    · exact q
    · rw [List.getElem?_eq_none q] at h; cases h
  unfold L2.start
  rw [List.getElem?_append_left (by simpa using hi), List.getElem?_map, h]; rfl
theorem rel_start {N : List Str} {vs : List V} {bs : List B} (hs : ∀ a, S.dom a → P a) (f : Fit P H) (i : S.inv H) (r : RpAs S P H vs bs) : Rel S P (startN N.length bs) (L2.start N vs) H ∧ ∀ a, ¬ OwnAt (startN N.length bs) (L2.start N vs) a := by
  have no : ∀ (j : Nat) (d : D), (startN N.length bs)[j]? ≠ some (some (.own d)) := fun j d z => by
    rcases rpAs_get r (startN_get z) with ⟨_, _, e, _⟩ | ⟨e, _⟩ <;> cases e
  have hN : ∀ a, Nn P (startN N.length bs) (L2.start N vs) a → P a := fun a z => z.elim id fun ⟨j, d, h1, _⟩ => absurd h1 (no j d)
  refine ⟨⟨?_, hs, f, i, fun j d h => ?_, fun j d h => absurd h (no j d), fun j k d e a h => absurd h (no j d), fun j h => ?_⟩, fun a ⟨j, d, h1, _⟩ => no j d h1⟩
  · unfold startN L2.start; simp [r.length]
  · rcases rpAs_get r (startN_get h) with ⟨d', v, e, hv, rp⟩ | ⟨e, _⟩
    · cases e; exact ⟨v, start_get hv, rp.less hN⟩
    · cases e
  · rcases rpAs_get r (startN_get h) with ⟨d', v, e, _⟩ | ⟨_, hv⟩
    · cases e
    · exact start_get hv
end
/-- a def of the text -/
structure Row where
  nm : Str
  st : PySem.Stmt
  N : List Str
  fn : Fn
def Row.ps (r : Row) : List Str := r.N.take r.fn.np
def fsB (N P : List Str) (sc : Scope) : Bool := decide (sc.kind = .function) && decide (sc.isCoroutine = false) && decide (sc.isGenerator = false) && decide N.Nodup && decide (N.take P.length = P) && P.all (fun x => locB sc x) && sc.names.all (fun y => decide (y.2 ≠ .free))
theorem fsB_ok {N P : List Str} {sc : Scope} (h : fsB N P sc = true) : FnScope N P sc := by
  unfold fsB at h
  simp only [Bool.and_eq_true, decide_eq_true_eq, List.all_eq_true] at h
  obtain ⟨⟨⟨⟨⟨⟨h1, h2⟩, h3⟩, h4⟩, h5⟩, h6⟩, h7⟩ := h
  refine ⟨h1, h2, h3, h4, h5, fun x hx => ?_, h7⟩
  have := h6 x hx
  unfold locB at this
  split at this <;> first | exact .inl (by assumption) | exact .inr (by assumption) | cases this
def tabOf (rows : List Row) : List (Str × Nat) := rows.map fun r => (r.nm, r.fn.np)
def progOf (rows : List Row) : List Fn := rows.map (·.fn)
def chkRow (tb : List (Str × Nat)) (r : Row) : Bool := match r.fn with
  | .code np ns body => decide (ns = r.N.length) && decide (np ≤ ns) && fsB r.N (r.N.take np) (defScope r.st) && chkSs r.N tb (defScope r.st) body (defBody r.st)
  | .ext .. => true
def bltNames : List Str := ["len", "tuple", "list", "sorted", "sum", "max", "min", "abs", "all", "any", "int", "repr", "range", "isinstance", "dict", "zip", "enumerate", "reversed", "str", "set", "bool"]
section
variable {P : Program} {w : World} {K : PySem.W.Frag} {mg : Str → Option Value} {base : Heap}
/-- the defs stand where the names say -/
def Laid (K : PySem.W.Frag) (mg : Str → Option Value) (rows : List Row) : Prop := ∀ r ∈ rows, ∃ a fd, Fun K r.nm r.nm r.st a fd ∧ mg r.nm = some (.ref a) ∧ Binds K fd r.ps []
/-- every def up to depth k -/
def Kept (P : Program) (w : World) (K : PySem.W.Frag) (mg : Str → Option Value) (base : Heap) (rows : List Row) (k : Nat) : Prop :=
  ∀ (f : Nat) (r : Row), rows[f]? = some r → ∃ a fd, Fun K r.nm r.nm r.st a fd ∧ mg r.nm = some (.ref a) ∧ Binds K fd r.ps [] ∧ FnG P w K mg base k a fd r.ps (spC (callF (progOf rows) k) f)
theorem good_of {rows : List Row} {k : Nat} {N : List Str} {qual : Str} {scope : Scope} {f : Addr} {cdv : Value} {A : Around} {outer : List PySem.Env} {s : Shared} {H : Hp} {E : XK} (nd : N.Nodup) (hr : Room k (A.deeper (envOfC qual scope s.heap.objs.size f cdv))) (hg : A.guards = some []) (sm : ∃ o, base.get? sysModules = some o)
    (hb : ∀ x ∈ bltNames, mg x = none) (hk : Kept P w K mg base rows k) : Good (tabOf rows) (callF (progOf rows) k) (cxOf CX0 P w K mg base N qual scope f cdv A outer s H E).nox := by
  have get : ∀ (f : Nat) (nm : Str) (np : Nat), (tabOf rows)[f]? = some (nm, np) → ∃ r, rows[f]? = some r ∧ r.nm = nm ∧ r.fn.np = np := fun f nm np h => by
    unfold tabOf at h
    rw [List.getElem?_map] at h
    obtain ⟨r, h1, h2⟩ := Option.map_eq_some_iff.mp h
    cases h2
    exact ⟨r, h1, rfl, rfl⟩
  refine ⟨nd, rfl, ?_, hg, sm, hb, fun f nm np h bs Q c => ?_, fun f nm np h => ?_⟩
  · exact hr.units
  · obtain ⟨r, h1, h2, h3⟩ := get f nm np h
    rw [← h3]
    exact callF_ar (by unfold progOf; rw [List.getElem?_map, h1]; rfl) c
  · obtain ⟨r, h1, h2, h3⟩ := get f nm np h
    obtain ⟨a, fd, F, hm, hbi, g⟩ := hk f r h1
    exact ⟨k, a, fd, r.ps, hr, by rw [← h2]; exact hm, F.kp, hbi, g⟩
/-- a def that is told by a text -/
theorem row_code {rows : List Row} {f k : Nat} {r : Row} {np ns : Nat} {body : Ss} (hf : rows[f]? = some r) (he : r.fn = .code np ns body) (hc : chkRow (tabOf rows) r = true) {a : Addr} {fd : FuncData} (F : Fun K r.nm r.nm r.st a fd) (sm : ∃ o, base.get? sysModules = some o)
    (hb : ∀ x ∈ bltNames, mg x = none) (hk : Kept P w K mg base rows k) : FnG P w K mg base (k + 1) a fd r.ps (spC (callF (progOf rows) (k + 1)) f) := by
  unfold chkRow at hc
  rw [he] at hc
  simp only at hc
  obtain ⟨hc, c4⟩ := bnd hc
  obtain ⟨hc, c3⟩ := bnd hc
  obtain ⟨c1, c2⟩ := bnd hc
  have c1 := of_decide_eq_true c1
  have c2 := of_decide_eq_true c2
  have SC := fsB_ok c3
  have hps : r.ps = r.N.take np := by unfold Row.ps; rw [he]; rfl
  have hpl : r.ps.length = np := by rw [hps, List.length_take]; omega
  have hp : (progOf rows)[f]? = some (.code np ns body) := by unfold progOf; rw [List.getElem?_map, hf]; simp [he]
  have hlen : ∀ vs H Q E, spC (callF (progOf rows) (k + 1)) f vs H Q E → vs.length = r.ps.length := fun vs H Q E ⟨S, Z, bs, Q0, _, _, _, h4, h5, _⟩ => by
    have : bs.length = _ := callF_ar hp h5
    rw [h4.length, this, hpl]; rfl
  rw [← hps] at SC
  refine Fun.okG F SC hlen fun cdv A outer s H vs Q hr hg hsp => ?_
  obtain ⟨S, Z, bs, Q0, h1, h2, h3, h4, h5, h6⟩ := hsp
  have G := good_of (N := r.N) (qual := r.nm) (scope := defScope r.st) (f := a) (cdv := cdv) (A := A) (outer := outer) (s := s) (H := H) (E := E0) (P := P) (w := w) SC.nd hr hg sm hb hk
  have M : Stm (cxOf CX0 P w K mg base r.N r.nm (defScope r.st) a cdv A outer s H E0).nox := ⟨SC.kind, fun _ => rfl, PassesOwn.never⟩
  refine ⟨_, okSs G M body (defBody r.st) c4, ?_⟩
  unfold callF at h5
  simp only [hp] at h5
  obtain ⟨_, _, h5⟩ := h5
  obtain ⟨R, no⟩ := rel_start (N := r.N) h1 h2 h3 h4
  rw [c1] at h5
  have ch : ∀ {H' : Hp}, Ext (Ch S (startN r.N.length bs) (L2.start r.N vs)) H H' → Ext S.dom H H' := fun e => e.mono fun b z => z.elim id fun z => absurd z (no b)
  refine ⟨S, Z, _, _, R, h5, fun ρ' σ' H' k' R' st => ?_, fun d v H' k' e i rp => ?_, fun _ _ _ z => z.elim, fun _ _ _ z => z.elim⟩
  · exact h6 .none k' .non H' (ch st.ext) st.inv .non
  · exact h6 d k' v H' (ch e) i rp
theorem all_kept {rows : List Row} (hl : Laid K mg rows) (hc : rows.all (chkRow (tabOf rows)) = true) (sm : ∃ o, base.get? sysModules = some o) (hb : ∀ x ∈ bltNames, mg x = none)
    (hx : ∀ (f k : Nat) (r : Row) (np : Nat) (sem : List B → W D), rows[f]? = some r → r.fn = .ext np sem → Kept P w K mg base rows k → ∀ a fd, Fun K r.nm r.nm r.st a fd → mg r.nm = some (.ref a) → FnG P w K mg base (k + 1) a fd r.ps (spC (callF (progOf rows) (k + 1)) f)) : ∀ k, Kept P w K mg base rows k
  | 0 => fun f r hf => by
    obtain ⟨a, fd, F, hm, hbi⟩ := hl r (List.mem_of_getElem? hf)
    exact ⟨a, fd, F, hm, hbi, ⟨fun vs H Q E ⟨_, _, _, _, _, _, _, _, z, _⟩ => z.elim, fun A outer s H args us vs Q _ _ _ _ _ ⟨_, _, _, _, _, _, _, _, z, _⟩ => z.elim⟩⟩
  | k + 1 => fun f r hf => by
    have ih := all_kept hl hc sm hb hx k
    obtain ⟨a, fd, F, hm, hbi⟩ := hl r (List.mem_of_getElem? hf)
    refine ⟨a, fd, F, hm, hbi, ?_⟩
    cases he : r.fn with
    | code np ns body => exact row_code hf he (List.all_eq_true.mp hc r (List.mem_of_getElem? hf)) F sm hb ih
    | ext np sem => exact hx f k r np sem hf he ih a fd F hm
end
end PD
set_option maxHeartbeats 2000000
/-! PDv: the law's call, where no guard stands. -/
namespace PD
open PySem L2 PySem.Spec PyProof.Rows
section
variable {P : Program} {w : World} {K : PySem.W.Frag} {mg mb : Str → Option Value} {k : Nat} {fa a : Addr} {fd : FuncData} {x : Str} {sp : Sp} {s1 : Shared} {vs : List Value} {ns : List Int}
/-- what the heap behind the top must have -/
structure TopH (K : PySem.W.Frag) (mg : Str → Option Value) (h : Heap) : Prop where
  kin : K.In h
  ns : h.Ns mainGlobals mg
  blt : ∃ mb, h.Ns builtinsNs mb ∧ ∀ x : Str, x ≠ "__name__" → mb x = bootBuiltins x
  lim : h.NoLimit
  sys : ∃ mm, h.Ns sysModules mm
/-- the same heap without the one tracked list -/
theorem TopH.hid {h : Heap} {H : Hp} {o : Obj} (T : TopH K mg h) (hA : ∀ b, H b ≠ none → b = a) (ha : h.get? a = some o) (hd : ∀ es ep, o.data ≠ .dict es ep) (hK : H a ≠ none → K.lookup a = none) : TopH K mg (hidT h H) := by
  have un : ∀ b, b ≠ a → H b = none := fun b hb => Classical.byContradiction fun z => hb (hA b z)
  have nsd : ∀ {b : Addr} {m : Str → Option Value}, h.Ns b m → (hidT h H).Ns b m := by
    intro b m hn
    obtain ⟨ob, es, ep, h1, h2, h3⟩ := hn
    have hb : b ≠ a := fun z => by
      rw [z, ha] at h1
      exact hd es ep (Option.some.inj h1 ▸ h2)
    exact ⟨ob, es, ep, hidT_get h1 (un b hb), h2, h3⟩
  constructor
  · intro b ob hb
    refine hidT_get (T.kin b ob hb) (Classical.byContradiction fun z => ?_)
    have hba := hA b z
    rw [hba] at hb z
    rw [hK z] at hb
    cases hb
  · exact nsd T.ns
  · exact T.blt.imp fun m q => ⟨nsd q.1, q.2⟩
  · exact T.lim.imp fun m q => ⟨nsd q.1, q.2⟩
  · exact T.sys.imp fun m q => nsd q
theorem TopH.mod {h : Heap} (T : TopH K mg h) : Mod K mg h where
  kin := T.kin
  glob := T.ns
  blt := T.blt
  nolimit := T.lim
theorem TopH.smod {h : Heap} (T : TopH K mg h) : ∃ o, h.get? sysModules = some o := by
  obtain ⟨mm, o, _, _, e, _⟩ := T.sys
  exact ⟨o, e⟩
/-- one tracking of the script -/
structure Trk (P : Program) (w : World) (K : PySem.W.Frag) (h : Heap) (a : Addr) (ns : List Int) (H : Hp) : Prop where
  only : ∀ b, H b = none ∨ ∃ o xs, H b = some (.frz o (.lst xs))
  seq : SqL K H a (ns.map V.int)
  ok : HOk P w H h
  one : ∀ b, H b ≠ none → b = a
  offK : H a ≠ none → K.lookup a = none
theorem trk_ex {h : Heap} (T : TopH K mg h) (ha : h.get? a = some { cls := .type "list", data := .seq vs.toArray }) (hi : IntsAre vs ns) (hl : ns.length ≤ sizeLine) : ∃ H, Trk P w K h a ns H := by
  have rv := vals_ints hi
  have lv := hi.length
  cases hk : K.lookup a with
  | some o =>
    have e : o = _ := Option.some.inj ((T.kin a o hk).symm.trans ha)
    subst e
    refine ⟨fun _ => none, fun _ => .inl rfl, .inr ?_, fun b o z => (by cases z), fun _ z => (z rfl).elim, fun z => (z rfl).elim⟩
    refine ⟨_, vs.toArray, 0, hk, rfl, rfl, rfl, ?_, ?_⟩
    · rw [List.size_toArray, lv]; exact hl
    · rwa [List.toList_toArray]
  | none =>
    let H : Hp := upd (fun _ => none) a (.frz { cls := .type "list", data := .seq vs.toArray } (.lst (ns.map V.int)))
    have hs : H a = some (.frz { cls := .type "list", data := .seq vs.toArray } (.lst (ns.map V.int))) := upd_same
    have ho : ∀ b, b ≠ a → H b = none := fun b hb => upd_ne hb
    have hone : ∀ b, H b ≠ none → b = a := fun b z => Classical.byContradiction fun hb => z (ho b hb)
    refine ⟨H, fun b => ?_, .inl (.inr ⟨_, hs⟩), fun b o z => ?_, hone, fun _ => hk⟩
    · by_cases hb : b = a
      · rw [hb]; exact .inr ⟨_, _, hs⟩
      · exact .inl (ho b hb)
    · have hb := hone b (by rw [z]; exact Option.some_ne_none o)
      rw [hb, hs] at z
      rw [hb, ← Option.some.inj z]
      exact ⟨ha, by rw [List.length_map]; exact hl, vs, 0, rv, ha⟩
/-- the law's def, called with the script -/
theorem callG (T : TopH K mg s1.heap) (hg : s1.gens = #[]) (ha : s1.heap.get? a = some { cls := .type "list", data := .seq vs.toArray }) (hi : IntsAre vs ns) (hl : ns.length ≤ sizeLine) (hr : Room k callerA)
    (F : ∀ base : Heap, TopH K mg base → FnG P w K mg base k fa fd [x] sp) (hbind : ∀ (s : Shared) (u : Value), BindsTo s fd ⟨[u], []⟩ [(x, u)])
    (hsp : ∀ H : Hp, Only H → SqL K H a (ns.map V.int) → sp [.ref a] H (fun v _ => v = .bl true) E0) :
    codeAny (model P w) callerA (.call (.ref fa) ⟨[.ref a], []⟩) (fun r s' => r = .ok (.ret (.bool true)) ∧ OldK s1.heap s'.heap ∧ s'.os = s1.os ∧ AllBare s'.gens) s1 := by
  obtain ⟨H, R⟩ := trk_ex (P := P) (w := w) T ha hi hl
  have TB : TopH K mg (hidT s1.heap H) := T.hid R.one ha (fun es ep z => Data.noConfusion z) R.offK
  have env : Env0 P w K mg (hidT s1.heap H) callerA [] s1 H :=
    { frames := rfl, mod := TB.mod, bs := fun b o q => of_hidT q, bsz := Nat.le_of_eq (hidT_size s1.heap H), funs := trivial, frf := fun b z => (List.not_mem_nil z).elim, hok := R.ok, bare := .of_eq hg }
  have run := (F _ TB).run callerA [] s1 H ⟨[.ref a], []⟩ [.ref a] [.ref a] _ hr rfl env (hbind s1 (.ref a)) (.cons rfl .nil) (hsp H R.only R.seq)
  refine codeAny_mono run fun res s' h => ?_
  match res, h with
  | .ok (.ret u), h =>
    obtain ⟨v, H', h1, h2, hu, hok', hv, hq⟩ := h
    have hv : RelV (.bl true) u := (show v = .bl true from hq) ▸ hv
    refine ⟨by rw [show u = Value.bool true from hv], OldK.of_keep fun b o hb => ?_, h1, h2⟩
    rcases R.only b with z | ⟨o', xs, z⟩
    · exact hu.keep b o hb z (fun q => (List.not_mem_nil q).elim) List.not_mem_nil
    · have e1 := (R.ok b _ z).1
      have e2 := (hok' b _ (hu.frzs b o' _ z)).1
      rw [hb] at e1
      rw [e2, ← e1]
  | .ok .next, h => exact h.elim
  | .ok .brk, h => exact h.elim
  | .ok .cont, h => exact h.elim
  | .error e, h => exact h.elim
end
end PD
set_option maxHeartbeats 2000000
/-! PDw: the source of draws. -/
namespace PD
open PySem L2 PySem.Spec PyProof.Rows
def mkSrc (c l : Addr) (hne : c ≠ l) : Src where
  v := .ref c
  dom := fun a => a = c ∨ a = l
  inv := SrcI c l
  fit := fun H h => ⟨fun a z => by
    obtain ⟨xs, x, y, t, g⟩ := h
    rcases z with z | z
    · rw [z]; exact ⟨_, g.d, trivial⟩
    · rw [z]; exact ⟨_, g.l, trivial⟩⟩
  stab := fun H H' h e => by
    obtain ⟨xs, x, y, t, g⟩ := h
    exact ⟨xs, x, y, t, by rw [e c (.inl rfl)]; exact g.d, by rw [e l (.inr rfl)]; exact g.l⟩
  shape := ⟨c, l, hne, rfl, fun _ => Iff.rfl, fun _ => Iff.rfl⟩
section
variable {c l : Addr} {xs : List Int} {left mixed turn v : Int} {H : Hp} {σ : L2.St} {Q : VK}
abbrev kCells : Key := .inr "cells"
abbrev kLeft : Key := .inr "left"
abbrev kMixed : Key := .inr "mixed"
abbrev kTurn : Key := .inr "turn"
theorem get_cells : valV (srcKV l left mixed turn) kCells = some (.ref l) := rfl
theorem get_left : valV (srcKV l left mixed turn) kLeft = some (.int left) := rfl
theorem get_mixed : valV (srcKV l left mixed turn) kMixed = some (.int mixed) := rfl
theorem get_turn : valV (srcKV l left mixed turn) kTurn = some (.int turn) := rfl
theorem put_left : putK (srcKV l left mixed turn) kLeft (.int v) = srcKV l v mixed turn := rfl
theorem put_mixed : putK (srcKV l left mixed turn) kMixed (.int v) = srcKV l left v turn := rfl
theorem put_turn : putK (srcKV l left mixed turn) kTurn (.int v) = srcKV l left mixed v := rfl
theorem SrcH.gc (h : SrcH c l xs left mixed turn H) : DGet H c (.str "cells") (some (.ref l)) := DGet.k (k := kCells) h.d
theorem SrcH.gl (h : SrcH c l xs left mixed turn H) : DGet H c (.str "left") (some (.int left)) := DGet.k (k := kLeft) h.d
theorem SrcH.gm (h : SrcH c l xs left mixed turn H) : DGet H c (.str "mixed") (some (.int mixed)) := DGet.k (k := kMixed) h.d
theorem SrcH.gt (h : SrcH c l xs left mixed turn H) : DGet H c (.str "turn") (some (.int turn)) := DGet.k (k := kTurn) h.d
theorem four_lt : (srcKV l left mixed turn).length < sizeLine := by show 4 < sizeLine; decide
theorem SrcH.pl (h : SrcH c l xs left mixed turn H) : DPut H c (.str "left") (.int v) (upd H c (.dK (srcKV l v mixed turn))) := by rw [← put_left]; exact DPut.k (k := kLeft) h.d four_lt
theorem SrcH.pm (h : SrcH c l xs left mixed turn H) : DPut H c (.str "mixed") (.int v) (upd H c (.dK (srcKV l left v turn))) := by rw [← put_mixed]; exact DPut.k (k := kMixed) h.d four_lt
theorem SrcH.pt (h : SrcH c l xs left mixed turn H) : DPut H c (.str "turn") (.int v) (upd H c (.dK (srcKV l left mixed v))) := by rw [← put_turn]; exact DPut.k (k := kTurn) h.d four_lt
theorem SrcH.new (h : SrcH c l xs left mixed turn H) (hne : c ≠ l) {a b t : Int} : SrcH c l xs a b t (upd H c (.dK (srcKV l a b t))) := ⟨upd_same, by rw [upd_ne (Ne.symm hne)]; exact h.l⟩
theorem SrcH.pop (h : SrcH c l xs left mixed turn H) (hne : c ≠ l) {ys : List Int} : SrcH c l ys left mixed turn (upd H l (.lst (ys.map V.int))) := ⟨by rw [upd_ne hne]; exact h.d, upd_same⟩
end
/-- a state of a draw: the source stands, all else is as it was -/
def Drw (c l : Addr) (H0 H : Hp) : Prop := SrcI c l H ∧ ∀ b, b ≠ c → b ≠ l → H b = H0 b
def spPick : Sp := fun vs H Q _ => ∃ c l m, c ≠ l ∧ vs = [.ref c, .int m] ∧ m < 1073741824 ∧ SrcI c l H ∧ ∀ j, 0 ≤ j → j < max 1 m → ∀ H', Drw c l H H' → Q (.int j) H'
/-- what a draw gives, by data -/
def semPick : List B → W D := fun bs Q => ∃ m, bs = [.src, .sh (.int m)] ∧ m < 1073741824 ∧ ∀ j, 0 ≤ j → j < max 1 m → Q (.int j)
theorem Drw.ext {S : Src} {c l : Addr} {H H' : Hp} (hd : ∀ a, S.dom a ↔ a = c ∨ a = l) (h : Drw c l H H') : Ext S.dom H H' := fun a o ha n => by
  rw [hd] at n
  rw [h.2 a (fun z => n (.inl z)) (fun z => n (.inr z))]; exact ha
theorem pick_of {C : Calls} {f : Nat} (hC : ∀ bs Q, C f bs Q → semPick bs Q) : ∀ vs H Q, spC C f vs H Q E0 → spPick vs H Q E0 := by
  intro vs H Q ⟨S, P, bs, Q0, h1, h2, h3, h4, h5, h6⟩
  obtain ⟨m, rfl, hm, hq⟩ := hC _ _ h5
  obtain ⟨c, l, hne, hv, hd, hi⟩ := S.shape
  cases h4 with
  | src t => cases t with
    | sh r t => cases t with
      | nil =>
        cases (RpB.of r).int_of
        refine ⟨c, l, m, hne, by rw [hv], hm, (hi H).mp h3, fun j j1 j2 H' d => h6 _ (hq j j1 j2) _ _ (d.ext hd) ((hi H').mpr d.1) (.int j)⟩
theorem tt_use {t : TT} {σ : L2.St} {H : Hp} {Qf : Bool → Hp → Prop} (Cc : Bool → Prop) (test : ∀ Qf : Bool → Hp → Prop, (∀ b, Cc b → Qf b H) → t σ H Qf) (cont : ∀ b, Cc b → Qf b H) : t σ H Qf := test _ cont
def absI (i : Int) : Int := if i < 0 then -i else i
def rAbsI : List V → Hp → VK → Prop := fun xs H Q => ∃ i, xs = [.int i] ∧ Q (.int (if i < 0 then -i else i)) H
/-- [abs(x) for x in ints] -/
theorem abs_lc {K : PySem.W.Frag} {i j : Nat} {a : Addr} {ns : List Int} {σ : L2.St} {H : Hp} {Q : VK} (hij : i ≠ j) (hi : σ[i]? = some (some (.ref a))) (hj : j < σ.length) (hS : SqL K H a (ns.map V.int)) (hl : ns.length ≤ 63)
    (q : ∀ d, H d = none → Q (.ref d) (upd H d (.lst ((ns.map absI).map V.int)))) :
    tLc (iList K (tVar i)) (gName j) (fun _ H Q => Q true H) (tCB rAbsI (tCons (tVar j) tNil)) [j] σ H Q := by
  refine ⟨.ref a, hi, a, rfl, ⟨_, hS⟩, fun d hd => ⟨fun n m H' => n ≤ ns.length ∧ m = ns.length - n ∧ H' = upd H d (.lst (((ns.take n).map absI).map V.int)), ⟨ns.length, Nat.zero_le _, rfl, rfl⟩, ?_⟩⟩
  rintro n m H' ⟨hn, rfl, rfl⟩
  have sm : Same H (upd H d (.lst (((ns.take n).map absI).map V.int))) := fun b o e => by rw [upd_ne (ne_of_none e hd)]; exact e
  have hS' := sm.seq hS
  by_cases h : n < ns.length
  · right
    have g : (ns.map V.int)[n]? = some (.int ns[n]) := by rw [List.getElem?_map, List.getElem?_eq_getElem h]; rfl
    refine ⟨⟨_, _, hS', g⟩, fun H' => H' = upd H d (.lst (((ns.take (n + 1)).map absI).map V.int)), fun H' e => ⟨ns.length - (n + 1), by omega, h, rfl, e⟩, ?_⟩
    rintro x H' ⟨rfl, hx⟩
    have ex : x = .int ns[n] := Option.some.inj ((hx _ hS').symm.trans g)
    subst ex
    refine ⟨by show L2.wipe ((L2.wipe σ [j]).set j _) [j] = _; simp [L2.wipe], ?_⟩
    show if true = true then _ else _
    rw [if_pos rfl]
    refine ⟨.int ns[n], ?_, ns[n], rfl, _, upd_same, ?_, ?_⟩
    · rw [List.getElem?_set_self (by rw [wipe_length]; exact hj)]
    · simp only [List.length_map, List.length_take]
      have := z64
      omega
    · rw [upd_upd, List.take_add_one, List.getElem?_eq_getElem h, List.map_append, List.map_append]
      rfl
  · left
    have e : n = ns.length := by omega
    subst e
    refine ⟨⟨_, hS', by simp⟩, ?_⟩
    rw [List.take_length]
    exact q d hd
theorem Same.upd {H : Hp} {d : Addr} {o : HO} (h : H d = none) : Same H (L2.upd H d o) := fun b u e => by rw [upd_ne (ne_of_none e h)]; exact e
/-- what makes a source -/
def spSource (K : PySem.W.Frag) : Sp := fun vs H Q _ => ∃ (a : Addr) (ns : List Int), vs = [.ref a] ∧ ns.length ≤ 63 ∧ SqL K H a (ns.map V.int) ∧ ∀ c l H', c ≠ l → H c = none → H l = none → Same H H' → SrcI c l H' → Q (.ref c) H'
/-- the display {'cells': [abs(x) for x in script][::-1], 'left': 1, 'mixed': x, 'turn': 0} -/
theorem disp_ok {K : PySem.W.Frag} {a : Addr} {ns : List Int} {σ : L2.St} {H : Hp} {Q : VK} {x : Int} {j i : Nat} (hj0 : 0 ≠ j) (hi : σ[0]? = some (some (.ref a))) (hj : j < σ.length) (hx : σ[i]? = some (some (.int x))) (hS : SqL K H a (ns.map V.int)) (hl : ns.length ≤ 63)
    (q : ∀ c l H', c ≠ l → H c = none → H l = none → Same H H' → SrcI c l H' → Q (.ref c) H') :
    tDisp [(tC (.str "cells"), tRevL K (tLc (iList K (tVar 0)) (gName j) (fun _ H Q => Q true H) (tCB rAbsI (tCons (tVar j) tNil)) [j])), (tC (.str "left"), tC (.int 1)), (tC (.str "mixed"), tVar i), (tC (.str "turn"), tC (.int 0))] σ H Q := by
  intro p hp
  dsimp only [tPairs, tRevL, tC]
  refine abs_lc hj0 hi hj ((Same.upd hp).seq hS) hl fun d hd => ?_
  refine ⟨d, _, rfl, SqL.of upd_same, fun p2 hp2 => ?_⟩
  have hpd : p ≠ d := fun e => by rw [← e, upd_same] at hd; cases hd
  have hp2d : p2 ≠ d := fun e => by rw [e, upd_same] at hp2; cases hp2
  have hpp2 : p ≠ p2 := fun e => by
    rw [← e, upd_ne hpd, upd_same] at hp2; cases hp2
  refine ⟨.int x, hx, ?_, srcKV p2 1 x 0, rfl, by show 4 ≤ 15; decide, ?_⟩
  · rw [upd_ne hpp2, upd_ne hpd, upd_same]
  · refine q p p2 _ hpp2 hp ?_ (fun b o e => ?_) ⟨(ns.map absI).reverse, 1, x, 0, upd_same, ?_⟩
    · rw [upd_ne hp2d, upd_ne (Ne.symm hpp2)] at hp2; exact hp2
    · have h1 : b ≠ p := ne_of_none e hp
      have h2 : (upd H p (.dK [])) b = some o := by rw [upd_ne h1]; exact e
      have h3 := ne_of_none h2 hd
      have h4 : (upd (upd H p (.dK [])) d (.lst ((ns.map absI).map V.int))) b = some o := by rw [upd_ne h3]; exact h2
      have h5 := ne_of_none h4 hp2
      rw [upd_ne h1, upd_ne h5]; exact h4
    · rw [upd_ne (Ne.symm hpp2), upd_same, List.map_reverse]
/-! lists in a drawn sequence -/
def spMixed : Sp := fun vs H Q _ => ∃ (c l a : Addr) (xs : List V), c ≠ l ∧ a ≠ c ∧ a ≠ l ∧ vs = [.ref c, .ref a] ∧ SrcI c l H ∧ H a = some (.lst xs) ∧ xs.length ≤ 1000 ∧
  ∀ ys d H', ys.Perm xs → H d = none → H' d = some (.lst ys) → SrcI c l H' → (∀ b o, b ≠ c → b ≠ l → H b = some o → H' b = some o) → Q (.ref d) H'
def semMixed : List B → W D := fun bs Q => ∃ ds, bs = [.src, .sh (.list ds)] ∧ ds.length ≤ 1000 ∧ ∀ es : List D, es.Perm ds → Q (.list es)
theorem perm_rp {N : Zn} {H : Hp} {xs ys : List V} (p : ys.Perm xs) : ∀ {ds : List D}, RpAll N H xs ds → ∃ es : List D, es.Perm ds ∧ RpAll N H ys es := by
  induction p with
  | nil => intro ds r; exact ⟨ds, .refl _, r⟩
  | cons x p ih =>
    intro ds r
    cases r with
    | cons r1 rs =>
      obtain ⟨es, pe, re⟩ := ih rs
      exact ⟨_ :: es, .cons _ pe, .cons r1 re⟩
  | swap x y l =>
    intro ds r
    cases r with
    | cons r1 rs => cases rs with
      | cons r2 rs => exact ⟨_, .swap _ _ _, .cons r2 (.cons r1 rs)⟩
  | trans p1 p2 ih1 ih2 =>
    intro ds r
    obtain ⟨es, pe, re⟩ := ih2 r
    obtain ⟨fs, pf, rf⟩ := ih1 re
    exact ⟨fs, pf.trans pe, rf⟩
theorem mixed_of {C : Calls} {f : Nat} (hC : ∀ bs Q, C f bs Q → semMixed bs Q) : ∀ vs H Q, spC C f vs H Q E0 → spMixed vs H Q E0 := by
  intro vs H Q ⟨S, P, bs, Q0, h1, h2, h3, h4, h5, h6⟩
  obtain ⟨ds, rfl, hm, hq⟩ := hC _ _ h5
  obtain ⟨c, l, hne, hv, hd, hi⟩ := S.shape
  cases h4 with
  | src t => cases t with
    | sh r t => cases t with
      | nil =>
        cases r with
        | @lst a xs _ na ha rr =>
          have nd : ¬ S.dom a := fun z => na (h1 a z)
          rw [hd] at nd
          refine ⟨c, l, a, xs, hne, fun z => nd (.inl z), fun z => nd (.inr z), by rw [hv], (hi H).mp h3, ha, by rw [rr.length]; exact hm, fun ys d H' hp hnd hd' hs hx => ?_⟩
          obtain ⟨es, pe, re⟩ := perm_rp hp rr
          have ex : Ext S.dom H H' := fun b o hb n => hx b o (fun z => n ((hd b).mpr (.inl z))) (fun z => n ((hd b).mpr (.inr z))) hb
          exact h6 _ (hq es pe) _ _ ex ((hi H').mpr hs) (.lst (h2.ne hnd) hd' (re.ext (ex.mono h1) h2))
theorem erase_perm {α : Type} : ∀ {l : List α} {k : Nat} (h : k < l.length), (l[k] :: l.eraseIdx k).Perm l
  | a :: l, 0, _ => .refl _
  | a :: l, k + 1, h => (List.Perm.swap _ _ _).trans (.cons a (erase_perm (by simpa using h)))
end PD
set_option maxHeartbeats 2000000
/-! PDz: the law's def; the end. -/
namespace PD
open PySem L2 PySem.Spec PyProof.Rows
/-- the slots behind the law's first line -/
def rho0 (N : List Str) (i : Nat) : Nv := (List.replicate N.length none).set i (some .src)
theorem rho0_get {N : List Str} {i j : Nat} {b : B} (h : (rho0 N i)[j]? = some (some b)) : i = j ∧ b = .src := by
  unfold rho0 at h
  by_cases hj : i = j
  · subst hj
    by_cases hl : i < N.length
    · rw [List.getElem?_set_self (by simpa using hl)] at h
      cases h; exact ⟨rfl, rfl⟩
    · rw [List.getElem?_eq_none (by simpa using hl)] at h; cases h
  · rw [List.getElem?_set_ne hj] at h
    have := List.mem_of_getElem? h
    simp at this
def spLaw (K : PySem.W.Frag) : Sp := fun vs H Q _ => ∃ (a : Addr) (ns : List Int), vs = [.ref a] ∧ ns.length ≤ 63 ∧ SqL K H a (ns.map V.int) ∧ ∀ H', Q (.bl true) H'
section
variable {P : Program} {w : World} {K : PySem.W.Frag} {mg : Str → Option Value} {base : Heap}
theorem rel0 {c l a : Addr} (hne : c ≠ l) {N : List Str} {i : Nat} {H : Hp} (hN : 1 ≤ N.length) (hi : i < N.length) (h : SrcI c l H) : Rel (mkSrc c l hne) (mkSrc c l hne).dom (rho0 N i) ((L2.start N [.ref a]).set i (some (.ref c))) H := by
  refine ⟨?_, fun _ z => z, (mkSrc c l hne).fit H h, h, fun j d q => ?_, fun j d q => ?_, fun j k d e b q => ?_, fun j q => ?_⟩
  · unfold rho0 L2.start; simp; omega
  · have := (rho0_get q).2; cases this
  · have := (rho0_get q).2; cases this
  · have := (rho0_get q).2; cases this
  · obtain ⟨e, _⟩ := rho0_get q
    rw [← e, List.getElem?_set_self (by unfold L2.start; simp; omega)]; rfl
theorem law_fn {rows : List Row} {st sSt : PySem.Stmt} {N : List Str} {body : Ss} {x sn : Str} {p1 p2 p3 p4 p5 : Pos} {rest : List PySem.Stmt} {i k : Nat} {fa fS : Addr} {fd fdS : FuncData} (F : Fun K "law" "law" st fa fd) (sc : fsB N ["script"] (defScope st) = true)
    (hb : defBody st = .Assign [.Name x p1] (.Call (.Name sn p2) [.Name "script" p3] [] p4) p5 :: rest) (hc : chkSs N (tabOf rows) (defScope st) body rest = true) (hN : N[0]? = some ("script" : Str)) (hi : N[i]? = some x) (hx : locB (defScope st) x = true) (hv : visB (defScope st) ("script" : Str) = true) (hg : glB (defScope st) sn = true)
    (hsd : (sn == ("__debug__" : Str)) = false) (FS : Fun K sn sn sSt fS fdS) (bS : Binds K fdS ["script"] []) (gS : mg sn = some (.ref fS)) (GS : FnOk P w K mg base CX0 (k + 1) fS fdS ["script"] (spSource K))
    (sm : ∃ o, base.get? sysModules = some o) (hbl : ∀ y ∈ bltNames, mg y = none) (hk : Kept P w K mg base rows (k + 1)) (law : execs (callF (progOf rows) (k + 1)) body (rho0 N i) (koF (fun d => d = .bool true))) :
    FnG P w K mg base (k + 2) fa fd ["script"] (spLaw K) := by
  have SC := fsB_ok sc
  have hNl : 1 ≤ N.length := by
    cases N with
    | nil => simp at hN
    | cons _ _ => simp
  have hil : i < N.length := by
    rcases Nat.lt_or_ge i N.length with q | q
    · exact q
    · rw [List.getElem?_eq_none q] at hi; cases hi
  refine Fun.okG F SC (fun vs H Q E ⟨a, ns, e, _⟩ => by rw [e]; rfl) fun cdv A outer s H vs Q hr hg0 hsp => ?_
  obtain ⟨a, ns, rfl, hl, hS, q⟩ := hsp
  have G := good_of (N := N) (qual := "law") (scope := defScope st) (f := fa) (cdv := cdv) (A := A) (outer := outer) (s := s) (H := H) (E := E0) (P := P) (w := w) SC.nd hr hg0 sm hbl hk
  have M : Stm (cxOf CX0 P w K mg base N "law" (defScope st) fa cdv A outer s H E0).nox := ⟨SC.kind, fun _ => rfl, PassesOwn.never⟩
  rw [hb]
  have vis : Vis (defScope st) ("script" : Str) := by
    unfold visB at hv; unfold Vis
    split at hv <;> first | exact .inl (by assumption) | exact .inr (.inl (by assumption)) | exact .inr (.inr (by assumption)) | cases hv
  refine ⟨_, pss_cons (ps_set (i := i) SC.nd hi (loc_of hx) (pe_callG (FnG.of GS) hr hg0 (gl_of hg) gS FS.kp bS (pa_cons (pv 0 hN vis) pa_nil) hsd rfl rfl) rfl (.inl rfl)) (okSs G M body rest hc), ?_⟩
  refine ⟨.ref a, rfl, a, ns, rfl, hl, hS, fun c l H' hne hcn hln sm' src => ?_⟩
  refine ⟨mkSrc c l hne, (mkSrc c l hne).dom, rho0 N i, koF (fun d => d = .bool true), rel0 hne hNl hil src, law, ⟨?_, ?_, fun _ _ _ z => z.elim, fun _ _ _ z => z.elim⟩⟩
  · intro _ _ _ z
    cases (show PyData.none = PyData.bool true from z)
  · intro d v H2 z _ _ rp
    have z : d = .bool true := z
    subst z
    cases (RpB.of rp).bl_of
    exact q H2
end
/-- the law's walk -/
theorem walkG {l : PySem.W.OpenLaw} {n k : Nat} {q : Program} {loose : List Str} {XP : (Str → Option Value) → Heap → Prop} {YP : World → Heap → Prop} {d : DefRec} {K : Params → PySem.W.Frag} {x : Str}
    (hn : l.most = some n) (h63 : n ≤ 63) (hdf : d.params.defaults = []) (hr : Room k callerA) (himp : importsNone q = true) (hY : ∀ (w : World) (h : Heap), YP w h → (K w.params).In h)
    (F : ∀ (w : World) (mg : Str → Option Value) (fa : Addr) (h : Heap), (K w.params).In h → h.Ns mainGlobals mg → mg d.name = some (.ref fa) →
      ∃ fd : FuncData, (∀ (s : Shared) (u : Value), BindsTo s fd ⟨[u], []⟩ [(x, u)]) ∧ ∀ base : Heap, TopH (K w.params) mg base → FnG l.prog w (K w.params) mg base k fa fd [x] (spLaw (K w.params))) :
    PySem.W.WalkO q loose XP YP l.row.toRowW d [] (fun f vs => PySem.call f vs) := by
  refine Att.attach_call hn hdf fun w s0 s1 mg mb fa o pm cd doc a vs ns G Y ho hd hcd hmg hobj hints hlen hg => ?_
  have T : TopH (K w.params) mg s1.heap := ⟨hY w _ Y, G.T.g, ⟨mb, G.T.b, G.T.builtins⟩, G.T.nolimit, let ⟨mm, h, _⟩ := (G.T.seer himp).mods; ⟨mm, h⟩⟩
  obtain ⟨fd, hb, hF⟩ := F w mg fa _ T.kin G.T.g hmg
  have z := z64
  exact callG T hg hobj hints (by omega) hr hF hb fun H _ hS => ⟨a, ns, rfl, by omega, hS, fun _ => rfl⟩
/-! what the top has written -/
def Lk (K : PySem.W.Frag) (nm : Str) (st : PySem.Stmt) : Prop := ∃ (f : Addr) (oc : Value) (od : Option Addr) (kV doc pm : Value) (an : Option Addr) (cd ct : Value) (sl : Array (Option Value)),
  PySem.W.nsIn K mainGlobals nm = some (some (.ref f)) ∧ K.lookup f = some ⟨oc, od, .func (PySem.W.fnOf nm nm (defArgs st) (defBody st) (defScope st) .none kV doc pm an cd ct), sl⟩ ∧ PySem.W.codeIn K cd nm = true ∧ PySem.W.keepIn K (.ref f) = true
theorem lk_mk {K : PySem.W.Frag} {h : Heap} (_ : K.In h) {nm : Str} {st : PySem.Stmt} {f : Addr} {oc kV doc pm cd ct : Value} {od an : Option Addr} {sl : Array (Option Value)} (a : PySem.W.nsIn K mainGlobals nm = some (some (.ref f)))
    (l : K.lookup f = some ⟨oc, od, .func (PySem.W.fnOf nm nm (defArgs st) (defBody st) (defScope st) .none kV doc pm an cd ct), sl⟩) (c : PySem.W.codeIn K cd nm = true) (k : PySem.W.keepIn K (.ref f) = true) : Lk K nm st := ⟨f, oc, od, kV, doc, pm, an, cd, ct, sl, a, l, c, k⟩
def BdOk (nm : Str) (st : PySem.Stmt) (ps : List Str) : Prop := ∀ (kV doc pm : Value) (an : Option Addr) (cdv ct : Value) (us : List Value), us.length = ps.length → bindArgs (PySem.W.fnOf nm nm (defArgs st) (defBody st) (defScope st) .none kV doc pm an cdv ct) ⟨us, []⟩ = pure (ps.zip us)
theorem Lk.fn {K : PySem.W.Frag} {h : Heap} {mg : Str → Option Value} {nm : Str} {st : PySem.Stmt} {ps : List Str} (L : Lk K nm st) (X : K.In h) (G : h.Ns mainGlobals mg) (b : BdOk nm st ps) : ∃ a fd, Fun K nm nm st a fd ∧ mg nm = some (.ref a) ∧ Binds K fd ps [] := by
  obtain ⟨f, oc, od, kV, doc, pm, an, cd, ct, sl, a, l, c, k⟩ := L
  have F := fun_mk l c k
  exact ⟨f, _, F, PySem.W.mg_of X G a, F.binds b⟩
def Rws (K : PySem.W.Frag) (rows : List Row) : Prop := ∀ r ∈ rows, Lk K r.nm r.st
theorem laid_of {K : PySem.W.Frag} {h : Heap} {mg : Str → Option Value} {rows : List Row} (X : K.In h) (G : h.Ns mainGlobals mg) (L : Rws K rows) (b : ∀ r ∈ rows, BdOk r.nm r.st r.ps) : Laid K mg rows := fun r hr => (L r hr).fn X G (b r hr)
end PD
set_option maxHeartbeats 4000000
/-! PLa: the plain side: how compact texts are run by hand. -/
namespace PD
open PySem
theorem lift_some {α : Type} {a : α} {Q : α → Prop} : lift (some a) Q = Q a := by
  simp [lift]
theorem lcW_map {st : D → W (Option D)} {f : D → Option D} : ∀ {ds : List D} {Q : List D → Prop}, (∀ d ∈ ds, ∀ K : Option D → Prop, K (f d) → st d K) → Q (ds.filterMap f) → lcW ds st Q
  | [], Q, _, q => q
  | d :: ds, Q, h, q => by
    unfold lcW
    refine h d (List.mem_cons_self ..) _ (lcW_map (fun e he => h e (List.mem_cons_of_mem _ he)) ?_)
    cases hf : f d with
    | none => rw [List.filterMap_cons_none hf] at q; exact q
    | some x => rw [List.filterMap_cons_some hf] at q; exact q
inductive All2 {α β : Type} (R : α → β → Prop) : List α → List β → Prop
  | nil : All2 R [] []
  | cons {a b as bs} : R a b → All2 R as bs → All2 R (a :: as) (b :: bs)
/-- one by one, told by a relation -/
theorem lcW_rel {st : D → W (Option D)} {R : D → Option D → Prop} : ∀ {ds : List D} {Q : List D → Prop}, (∀ d ∈ ds, ∀ K : Option D → Prop, (∀ o, R d o → K o) → st d K) → (∀ os : List (Option D), All2 R ds os → Q (os.filterMap id)) → lcW ds st Q
  | [], Q, _, q => q [] .nil
  | d :: ds, Q, h, q => by
    unfold lcW
    refine h d (List.mem_cons_self ..) _ fun o ho => lcW_rel (R := R) (fun e he => h e (List.mem_cons_of_mem _ he)) fun os hos => ?_
    have := q (o :: os) (.cons ho hos)
    cases o with
    | none => exact this
    | some x => exact this
theorem forW_inv {st : D → Nv → (Nv → Prop) → Prop} {ds : List D} {ρ : Nv} {Q : Nv → Prop} (I : Nat → Nv → Prop) (h0 : I 0 ρ) (hs : ∀ i (h : i < ds.length) ρ, I i ρ → ∀ K : Nv → Prop, (∀ ρ', I (i + 1) ρ' → K ρ') → st ds[i] ρ K) (hq : ∀ ρ, I ds.length ρ → Q ρ) : forW ds st ρ Q := by
  have key : ∀ (n i : Nat) (ρ : Nv), ds.length - i = n → i ≤ ds.length → I i ρ → forW (ds.drop i) st ρ Q := by
    intro n
    induction n with
    | zero =>
      intro i ρ e hi h
      have : i = ds.length := by omega
      subst this
      rw [List.drop_length]
      exact hq ρ h
    | succ n ih =>
      intro i ρ e hi h
      have hlt : i < ds.length := by omega
      rw [List.drop_eq_getElem_cons hlt]
      exact hs i hlt ρ h _ fun ρ' h' => ih (i + 1) ρ' (by omega) hlt h'
  exact key _ 0 ρ rfl (Nat.zero_le _) h0
end PD
set_option maxHeartbeats 4000000
/-! PLb: plain data: how deep, how long. -/
namespace PD
open PySem
mutual
inductive Pl : Nat → Nat → D → Prop
  | int {k m i} : i.natAbs < 10 ^ 20 → Pl k m (.int i)
  | bool {k m b} : Pl k m (.bool b)
  | none {k m} : Pl k m .none
  | lst {k m xs} : PlA k m xs → Pl (k + 1) m (.list xs)
  | tup {k m xs} : PlA k m xs → Pl (k + 1) m (.tuple xs)
inductive PlA : Nat → Nat → List D → Prop
  | nil {k m} : PlA k m []
  | cons {k a b x xs} : Pl k a x → PlA k b xs → PlA k (a + 1 + b) (x :: xs)
end
theorem PlA.all {k a : Nat} : ∀ {xs : List D}, (∀ x ∈ xs, Pl k a x) → PlA k ((a + 1) * xs.length) xs
  | [], _ => .nil
  | x :: xs, h => by
    have := PlA.cons (h x (List.mem_cons_self ..)) (PlA.all fun y hy => h y (List.mem_cons_of_mem _ hy))
    rw [show (a + 1) * (x :: xs).length = a + 1 + (a + 1) * xs.length by rw [List.length_cons, Nat.mul_succ]; omega]
    exact this
mutual
theorem Pl.facts : ∀ {k m : Nat} {d : D}, Pl k m d → d.canLay0 = true ∧ d.depth ≤ k ∧ d.showable = true ∧ d.leavesShort 24 = true ∧ d.bulk ≤ m
  | _, _, _, .int (i := i) h => by
    refine ⟨by simp only [PyData.canLay0], by simp [PyData.depth], ?_, ?_, by simp [PyData.bulk]⟩
    · have : i.natAbs.log2 < 1920 := by
        by_cases z : i.natAbs = 0
        · rw [z]; decide
        · have : i.natAbs.log2 < 67 := (Nat.log2_lt z).mpr (Nat.lt_trans h (by decide))
          omega
      simpa only [PyData.showable, decide_eq_true_eq] using this
    · have := int_text_length_le10 (a := i) (k := 20) (by decide) h
      have e : (Str.ofString (toString i)).length = (toString i).length := by
        rw [Str.ofString_eq_toList]
        simp [Str.length, String.length]
      have g : (PyData.int i).shown.length ≤ 24 := by
        simp only [PyData.shown]
        omega
      simp only [PyData.leavesShort]
      exact decide_eq_true g
  | _, _, _, .bool (b := b) => ⟨by simp only [PyData.canLay0], by simp [PyData.depth], by simp only [PyData.showable], by simp only [PyData.leavesShort], by simp [PyData.bulk]⟩
  | _, _, _, .none => ⟨by simp only [PyData.canLay0], by simp [PyData.depth], by simp only [PyData.showable], by simp only [PyData.leavesShort], by simp [PyData.bulk]⟩
  | _, _, _, .lst h => by
    obtain ⟨h1, h2, h3, h4, h5⟩ := h.facts
    exact ⟨by simpa only [PyData.canLay0] using h1, by simp only [PyData.depth]; omega, by simpa only [PyData.showable] using h3, by simpa only [PyData.leavesShort] using h4, by simpa only [PyData.bulk] using h5⟩
  | _, _, _, .tup h => by
    obtain ⟨h1, h2, h3, h4, h5⟩ := h.facts
    exact ⟨by simpa only [PyData.canLay0] using h1, by simp only [PyData.depth]; omega, by simpa only [PyData.showable] using h3, by simpa only [PyData.leavesShort] using h4, by simpa only [PyData.bulk] using h5⟩
theorem PlA.facts : ∀ {k m : Nat} {xs : List D}, PlA k m xs → PyData.canLayAll0 xs = true ∧ PyData.depthAll xs ≤ k ∧ PyData.showableAll xs = true ∧ PyData.leavesShortAll 24 xs = true ∧ PyData.bulkAll xs ≤ m
  | _, _, _, .nil => ⟨by simp only [PyData.canLayAll0], by simp [PyData.depthAll], by simp only [PyData.showableAll], by simp only [PyData.leavesShortAll], by simp [PyData.bulkAll]⟩
  | _, _, _, .cons h t => by
    obtain ⟨h1, h2, h3, h4, h5⟩ := h.facts
    obtain ⟨t1, t2, t3, t4, t5⟩ := t.facts
    exact ⟨by simp only [PyData.canLayAll0, h1, t1]; rfl, by simp only [PyData.depthAll]; omega, by simp only [PyData.showableAll, h3, t3]; rfl, by simp only [PyData.leavesShortAll, h4, t4]; rfl, by simp only [PyData.bulkAll]; omega⟩
end
theorem showOk_of {k m : Nat} {d : D} (h : Pl k m d) (hk : k ≤ 60) (hm : m ≤ 600000) : showOk d = true := by
  obtain ⟨h1, h2, h3, h4, h5⟩ := h.facts
  have e := PyData.shown_le_bulk 24 (by decide) d h4
  have z : sizeLine = 16777216 := by decide
  unfold showOk
  simp only [Bool.and_eq_true, decide_eq_true_eq]
  exact ⟨⟨h3, by omega⟩, by omega⟩
theorem strOk_append {a b : Str} (ha : PyData.strOk a = true) (hb : PyData.strOk b = true) : PyData.strOk (a ++ b) = true := by
  unfold PyData.strOk at *
  have e : (a ++ b).cps = a.cps ++ b.cps := rfl
  rw [e, ← Array.all_toList, Array.toList_append, List.all_append, Array.all_toList, Array.all_toList, ha, hb]; rfl
theorem strOk_of (s : String) : PyData.strOk (Str.ofString s) = true := by
  unfold PyData.strOk
  rw [Str.ofString_eq_toList, ← Array.all_toList]
  simp only [List.all_map, List.all_eq_true, Function.comp, decide_eq_true_eq]
  intro c _
  have := c.valid
  have h2 : c.toNat = c.val.toNat := rfl
  rw [h2]
  rcases this with h | ⟨_, h⟩
  · exact Nat.lt_trans h (by decide)
  · exact h
theorem strOk_textFrom : ∀ (ts : List Str) (k : Nat) (acc : Str), PyData.strOk acc = true → (∀ t ∈ ts, PyData.strOk t = true) → PyData.strOk (textFrom k acc ts) = true
  | [], _, _, h, _ => h
  | t :: ts, k, acc, h, ht => strOk_textFrom ts (k + 1) _ (strOk_append (strOk_append h (strOk_of _)) (ht t (List.mem_cons_self ..))) fun u hu => ht u (List.mem_cons_of_mem _ hu)
theorem strOk_join : ∀ (ts : List Str), (∀ t ∈ ts, PyData.strOk t = true) → PyData.strOk (Str.join ", " ts) = true
  | [], _ => by decide +kernel
  | [x], h => h x (List.mem_cons_self ..)
  | x :: y :: r, h => strOk_append (strOk_append (h x (List.mem_cons_self ..)) (strOk_of _)) (strOk_join (y :: r) fun u hu => h u (List.mem_cons_of_mem _ hu))
mutual
theorem Pl.strOk : ∀ {k m : Nat} {d : D}, Pl k m d → PyData.strOk d.shown = true
  | _, _, _, .int h => by simp only [PyData.shown]; exact strOk_of _
  | _, _, _, .bool => by simp only [PyData.shown]; split <;> exact strOk_of _
  | _, _, _, .none => by simp only [PyData.shown]; exact strOk_of _
  | _, _, _, .lst h => by simp only [PyData.shown]; exact strOk_append (strOk_textFrom _ _ _ (strOk_of _) h.strOk) (strOk_of _)
  | _, _, _, .tup h => by simp only [PyData.shown]; exact strOk_append (strOk_append (strOk_of _) (strOk_join _ h.strOk)) (strOk_of _)
theorem PlA.strOk : ∀ {k m : Nat} {xs : List D}, PlA k m xs → ∀ t ∈ PyData.shownAll xs, PyData.strOk t = true
  | _, _, _, .nil => by simp [PyData.shownAll]
  | _, _, _, .cons h t => by
    intro u hu
    simp only [PyData.shownAll, List.mem_cons] at hu
    rcases hu with rfl | hu
    · exact h.strOk
    · exact t.strOk u hu
end
theorem eqv_str (a b : Str) : PyData.eqv (.str a) (.str b) = decide (a = b) := by
  simp only [PyData.eqv]
  first | rfl | (by_cases h : a = b <;> simp [h])
/-- repr(x) != repr(x): no -/
theorem ne_self {k m : Nat} {d : D} (h : Pl k m d) : copD .ne (.str d.shown) (.str d.shown) = some (.bool false) := by
  show (if eqOk _ _ then _ else _) = _
  have h1 : PyData.canLay0 (.str d.shown) = true := by simp only [PyData.canLay0]; exact h.strOk
  have h2 : PyData.depth (.str d.shown) = 0 := by simp only [PyData.depth]
  have e : eqOk (.str d.shown) (.str d.shown) = true := by unfold eqOk; rw [h1, h2]; rfl
  rw [if_pos e, eqv_str, decide_eq_true rfl]; rfl
theorem prim_repr {k m : Nat} {d : D} (h : Pl k m d) (hk : k ≤ 60) (hm : m ≤ 600000) : primD .repr [d] = some (.str d.shown) := by
  show (if showOk d = true then _ else _) = _
  rw [if_pos (showOk_of h hk hm)]
end PD
set_option maxHeartbeats 4000000
/-! PLc: pairs of ints; ranges; what is in what. -/
namespace PD
open PySem L2
def ip (p : Int × Int) : D := .tuple [.int p.1, .int p.2]
def ordD (n : Int) (ps : List (Int × Int)) : D := .tuple [.int n, .tuple (ps.map ip)]
theorem eqv_int (a b : Int) : PyData.eqv (.int a) (.int b) = decide (a = b) := by
  simp only [PyData.eqv]
  first | rfl | (by_cases h : a = b <;> simp [h])
theorem eqv_ip (p q : Int × Int) : PyData.eqv (ip p) (ip q) = decide (p = q) := by
  obtain ⟨a, b⟩ := p
  obtain ⟨c, d⟩ := q
  unfold ip
  simp only [PyData.eqv, PyData.eqvAll, eqv_int]
  by_cases h1 : a = c <;> by_cases h2 : b = d <;> simp [h1, h2]
theorem canLay_int (a : Int) : PyData.canLay0 (.int a) = true := by simp only [PyData.canLay0]
theorem depth_int (a : Int) : PyData.depth (.int a) = 0 := by simp only [PyData.depth]
theorem canLay_ip (p : Int × Int) : PyData.canLay0 (ip p) = true := by
  unfold ip; simp only [PyData.canLay0, PyData.canLayAll0]; rfl
theorem depth_ip (p : Int × Int) : PyData.depth (ip p) = 1 := by
  unfold ip; simp only [PyData.depth, PyData.depthAll]; rfl
theorem canLayAll_of : ∀ {ds : List D}, (∀ d ∈ ds, PyData.canLay0 d = true) → PyData.canLayAll0 ds = true
  | [], _ => by simp only [PyData.canLayAll0]
  | d :: ds, h => by simp only [PyData.canLayAll0, h d (List.mem_cons_self ..), canLayAll_of fun e he => h e (List.mem_cons_of_mem _ he)]; rfl
theorem depthAll_of {k : Nat} : ∀ {ds : List D}, (∀ d ∈ ds, PyData.depth d ≤ k) → PyData.depthAll ds ≤ k
  | [], _ => by simp [PyData.depthAll]
  | d :: ds, h => by
    have h1 := h d (List.mem_cons_self ..)
    have h2 := depthAll_of fun e he => h e (List.mem_cons_of_mem _ he)
    simp only [PyData.depthAll]; omega
/-- what is in a list of data of one sort -/
theorem in_of {α : Type} [DecidableEq α] {f : α → D} (hf : ∀ a b, PyData.eqv (f a) (f b) = decide (a = b)) (hc : ∀ a, PyData.canLay0 (f a) = true) (hd : ∀ a, PyData.depth (f a) ≤ 60) (neg : Bool) (p : α) (ps : List α) [Decidable (p ∈ ps)] :
    inD neg (f p) (.tuple (ps.map f)) = some (.bool (if neg then !decide (p ∈ ps) else decide (p ∈ ps))) ∧ inD neg (f p) (.list (ps.map f)) = some (.bool (if neg then !decide (p ∈ ps) else decide (p ∈ ps))) := by
  have e : ((ps.map f).any fun y => PyData.eqv y (f p)) = decide (p ∈ ps) := by
    rw [Bool.eq_iff_iff, List.any_eq_true, decide_eq_true_iff]
    constructor
    · rintro ⟨y, hy, he⟩
      obtain ⟨q, hq, rfl⟩ := List.mem_map.mp hy
      rw [hf] at he
      rw [← of_decide_eq_true he]; exact hq
    · intro h
      exact ⟨f p, List.mem_map_of_mem h, by rw [hf]; simp⟩
  have c : ((f p).canLay0 && PyData.canLayAll0 (ps.map f) && decide (min (PyData.depthAll (ps.map f)) (f p).depth ≤ 60)) = true := by
    rw [hc p, canLayAll_of (fun d hd' => by
      obtain ⟨a, _, rfl⟩ := List.mem_map.mp hd'
      exact hc a)]
    have := hd p
    simp only [Bool.true_and, decide_eq_true_eq]
    omega
  constructor
  · show (if _ then _ else _) = _
    rw [if_pos c, e]
  · show (if _ then _ else _) = _
    rw [if_pos c, e]
theorem in_ips (neg : Bool) (a b : Int) (ps : List (Int × Int)) : inD neg (.tuple [.int a, .int b]) (.tuple (ps.map ip)) = some (.bool (if neg then !decide ((a, b) ∈ ps) else decide ((a, b) ∈ ps))) :=
  (in_of (f := ip) eqv_ip canLay_ip (fun a => by rw [depth_ip]; omega) neg (a, b) ps).1
theorem inn_ips (a b : Int) (ps : List (Int × Int)) : copD .inn (.tuple [.int a, .int b]) (.tuple (ps.map ip)) = some (.bool (decide ((a, b) ∈ ps))) := in_ips false a b ps
theorem nin_ips (a b : Int) (ps : List (Int × Int)) : copD .nin (.tuple [.int a, .int b]) (.tuple (ps.map ip)) = some (.bool (!decide ((a, b) ∈ ps))) := in_ips true a b ps
theorem nin_ints (a : Int) (xs : List Int) : copD .nin (.int a) (.tuple (xs.map .int)) = some (.bool (!decide (a ∈ xs))) := (in_of (f := PyData.int) eqv_int canLay_int (fun a => by rw [depth_int]; omega) true a xs).1
theorem copD_eq (d e : D) : copD .eq d e = if eqOk d e then some (.bool (PyData.eqv d e)) else none := rfl
theorem copD_ne (d e : D) : copD .ne d e = if eqOk d e then some (.bool (!PyData.eqv d e)) else none := rfl
theorem copD_lt (d e : D) : copD .lt d e = if ltOk d e then some (.bool (PySem.W.dataLt d e)) else none := rfl
theorem copD_gt (d e : D) : copD .gt d e = if ltOk d e then some (.bool (PySem.W.dataLt e d)) else none := rfl
theorem cmp_int (a b : Int) : copD .eq (.int a) (.int b) = some (.bool (decide (a = b))) ∧ copD .ne (.int a) (.int b) = some (.bool (!decide (a = b))) := by
  have e : eqOk (.int a) (.int b) = true := by unfold eqOk; rw [canLay_int, canLay_int, depth_int, depth_int]; rfl
  constructor
  · rw [copD_eq, if_pos e, eqv_int]
  · rw [copD_ne, if_pos e, eqv_int]
theorem eq_int (a b : Int) : copD .eq (.int a) (.int b) = some (.bool (decide (a = b))) := (cmp_int a b).1
theorem ne_int (a b : Int) : copD .ne (.int a) (.int b) = some (.bool (!decide (a = b))) := (cmp_int a b).2
theorem dataLt_int (a b : Int) : PySem.W.dataLt (.int a) (.int b) = decide (a < b) := by
  unfold PySem.W.dataLt
  simp only [PySem.W.keyToks]
  rw [PyProof.Rows.lex_cons]
  show (decide (a < b) || (!decide (b < a) && PyProof.Rows.lexLt _ [] [])) = _
  have : PyProof.Rows.lexLt PyProof.Rows.itemOrd [] [] = false := rfl
  rw [this]; simp
theorem ltOk_int (a b : Int) : ltOk (.int a) (.int b) = true := by
  unfold ltOk
  rw [depth_int, depth_int]
  simp [PySem.W.alike, isN]
theorem lt_int (a b : Int) : copD .lt (.int a) (.int b) = some (.bool (decide (a < b))) := by
  rw [copD_lt, if_pos (ltOk_int a b), dataLt_int]
theorem gt_int (a b : Int) : copD .gt (.int a) (.int b) = some (.bool (decide (b < a))) := by
  rw [copD_gt, if_pos (ltOk_int a b), dataLt_int]
theorem ne_bool (a b : Bool) : copD .ne (.bool a) (.bool b) = some (.bool (a != b)) := by cases a <;> cases b <;> rfl
theorem truD_bool (b : Bool) : truD (.bool b) = some b := rfl
theorem idx0 (a : D) (l : List D) : idxD (.tuple (a :: l)) (.int 0) = some a := atI_nat (j := 0) rfl
theorem idx1 (a b : D) (l : List D) : idxD (.tuple (a :: b :: l)) (.int 1) = some b := atI_nat (j := 1) rfl
theorem add_int (a b : Int) : binD .add (.int a) (.int b) = some (.int (a + b)) := rfl
theorem sub_int (a b : Int) : binD .sub (.int a) (.int b) = some (.int (a - b)) := rfl
def rg (n : Nat) : List Int := (List.range n).map Int.ofNat
theorem rngD_int (a b : Int) : rngD (.int a) (.int b) = if RgOk a b then some (rangeI a b) else none := rfl
theorem rng_nat {n : Nat} (h : n ≤ 1000) : rngD (.int 0) (.int n) = some ((rg n).map .int) := by
  have ok : RgOk 0 (n : Int) := RgOk.of_le (by omega) (by omega) (by omega) (by omega)
  rw [rngD_int, if_pos ok]
  unfold rangeI rg
  rw [List.map_map]
  simp [Function.comp_def]
theorem mem_rg {n : Nat} {a : Int} : a ∈ rg n ↔ 0 ≤ a ∧ a < n := by
  unfold rg
  simp only [List.mem_map, List.mem_range]
  constructor
  · rintro ⟨i, h, rfl⟩
    exact ⟨Int.natCast_nonneg i, by simpa using h⟩
  · rintro ⟨h1, h2⟩
    exact ⟨a.toNat, by omega, by simp [Int.toNat_of_nonneg h1]⟩
theorem look_z {d : D} {r : Nv} : look (some (.sh d) :: r) 0 = some d := rfl
theorem look_s {x : Option B} {r : Nv} {i : Nat} : look (x :: r) (i + 1) = look r i := rfl
theorem lookB_z {d : D} {r : Nv} : lookB (some (.sh d) :: r) 0 = some d := rfl
theorem lookB_o {d : D} {r : Nv} : lookB (some (.own d) :: r) 0 = some d := rfl
theorem lookB_s {x : Option B} {r : Nv} {i : Nat} : lookB (x :: r) (i + 1) = lookB r i := rfl
theorem lookA_z {d : D} {r : Nv} : lookA (some (.sh d) :: r) 0 = some (.sh d) := rfl
theorem lookA_c {r : Nv} : lookA (some .src :: r) 0 = some .src := rfl
theorem lookA_s {x : Option B} {r : Nv} {i : Nat} : lookA (x :: r) (i + 1) = lookA r i := rfl
theorem lookO_o {d : D} {r : Nv} : lookO (some (.own d) :: r) 0 = some d := rfl
theorem lookO_s {x : Option B} {r : Nv} {i : Nat} : lookO (x :: r) (i + 1) = lookO r i := rfl
theorem ltD_l (xs : List D) : ltD (.list xs) = some xs := rfl
theorem ltD_t (xs : List D) : ltD (.tuple xs) = some xs := rfl
theorem lstD_l (xs : List D) : lstD (.list xs) = some xs := rfl
theorem asg_v {i : Nat} {d : D} {ρ : Nv} : asg (.v i) d ρ = some (ρ.set i (some (.sh d))) := by unfold asg; rfl
theorem asg_t {gs : List G} {ds : List D} {ρ : Nv} : asg (.tup gs) (.tuple ds) ρ = asgs gs ds ρ := by unfold asg; rfl
theorem asg_l {gs : List G} {ds : List D} {ρ : Nv} : asg (.tup gs) (.list ds) ρ = asgs gs ds ρ := by unfold asg; rfl
theorem asgs_n {ρ : Nv} : asgs [] [] ρ = some ρ := by unfold asgs; rfl
theorem asgs_c {g : G} {gs : List G} {d : D} {ds : List D} {ρ : Nv} : asgs (g :: gs) (d :: ds) ρ = (asg g d ρ).bind (asgs gs ds) := by rw [asgs]
theorem wipeN_n {ρ : Nv} : wipeN ρ [] = ρ := rfl
theorem wipeN_c {ρ : Nv} {i : Nat} {r : List Nat} : wipeN ρ (i :: r) = (wipeN ρ r).set i none := rfl
theorem p_tuple_l (xs : List D) : primD .tuple [.list xs] = some (.tuple xs) := rfl
theorem p_tuple_t (xs : List D) : primD .tuple [.tuple xs] = some (.tuple xs) := rfl
theorem p_list_l (xs : List D) : primD .list [.list xs] = some (.list xs) := rfl
theorem p_list_t (xs : List D) : primD .list [.tuple xs] = some (.list xs) := rfl
theorem p_len_l (xs : List D) : primD .len [.list xs] = some (.int xs.length) := rfl
theorem p_len_t (xs : List D) : primD .len [.tuple xs] = some (.int xs.length) := rfl
theorem sets_n {ρ : Nv} : sets ρ [] = ρ := rfl
theorem sets_c {ρ : Nv} {i : Nat} {b : B} {r : List (Nat × B)} : sets ρ ((i, b) :: r) = sets (ρ.set i (some b)) r := rfl
theorem lift_none {α : Type} {Q : α → Prop} : lift (none : Option α) Q = False := by simp [lift]
theorem free_n {ρ : Nv} : free ρ [] = true := rfl
def nOwn : Option (Option B) → Bool
  | some (some (.own _)) => false
  | _ => true
theorem free_c {ρ : Nv} {i : Nat} {r : List Nat} : free ρ (i :: r) = (nOwn ρ[i]? && free ρ r) := by
  first
    | rfl
    | (unfold free nOwn; rw [List.all_cons]; done)
    | (unfold free nOwn; rw [List.all_cons]; rfl)
theorem nOwn_n : nOwn (some none) = true := rfl
theorem nOwn_s {d : D} : nOwn (some (some (.sh d))) = true := rfl
theorem nOwn_c : nOwn (some (some .src)) = true := rfl
end PD
set_option maxHeartbeats 4000000
/-! PLd: general lemmas of the plain side (grown with k12): comprehensions, dicts of pairs, sorting, small data. -/
namespace PD
open PySem L2

theorem small_le {n : Nat} (h : n ≤ 1000) : n ≤ sizeLine := Nat.le_of_lt (small1000 h)
/-- a comprehension over ints with a test -/
theorem lcW_filter {α : Type} {f : α → D} {g : α → D} {p : α → Bool} {xs : List α} {st : D → W (Option D)} {Q : List D → Prop} (h : ∀ a ∈ xs, ∀ K : Option D → Prop, K (if p a = true then some (g a) else none) → st (f a) K) (q : Q ((xs.filter p).map g)) : lcW (xs.map f) st Q := by
  induction xs generalizing Q with
  | nil => exact q
  | cons a xs ih =>
    rw [List.map_cons]
    unfold lcW
    refine h a (List.mem_cons_self ..) _ (ih (fun b hb => h b (List.mem_cons_of_mem _ hb)) ?_)
    cases hp : p a with
    | true => rw [List.filter_cons_of_pos hp] at q; simpa using q
    | false => rw [List.filter_cons_of_neg (by simp [hp])] at q; simpa using q

theorem flatMap_len {α β : Type} {f : α → List β} {c : Nat} : ∀ {l : List α}, (∀ x ∈ l, (f x).length ≤ c) → (l.flatMap f).length ≤ c * l.length
  | [], _ => by simp
  | a :: l, h => by
    have h1 := h a (List.mem_cons_self ..)
    have h2 := flatMap_len (f := f) (l := l) fun x hx => h x (List.mem_cons_of_mem _ hx)
    rw [List.flatMap_cons, List.length_append, List.length_cons, Nat.mul_succ]; omega

theorem take_succ_flat {α β : Type} {f : α → List β} {l : List α} {i : Nat} (h : i < l.length) : (l.take (i + 1)).flatMap f = (l.take i).flatMap f ++ f l[i] := by
  rw [List.take_add_one, List.getElem?_eq_getElem h, List.flatMap_append]; simp
theorem take_succ_filter {α : Type} {p : α → Bool} {l : List α} {i : Nat} (h : i < l.length) : (l.take (i + 1)).filter p = (l.take i).filter p ++ (if p l[i] = true then [l[i]] else []) := by
  rw [List.take_add_one, List.getElem?_eq_getElem h, List.filter_append]
  simp only [Option.toList_some, List.filter_cons, List.filter_nil]

theorem small_lt {n : Nat} (h : n ≤ 5000) : n < sizeLine := Nat.lt_of_le_of_lt h (by decide)

theorem eq_unit (xs : List D) (hc : PyData.canLayAll0 xs = true) (neg : Bool) : copD (if neg then .ne else .eq) (.tuple xs) (.tuple []) = some (.bool (if neg then !xs.isEmpty else xs.isEmpty)) ∧ copD (if neg then .ne else .eq) (.list xs) (.list []) = some (.bool (if neg then !xs.isEmpty else xs.isEmpty)) := by
  have c0 : PyData.canLayAll0 ([] : List D) = true := by simp only [PyData.canLayAll0]
  have d0 : PyData.depthAll ([] : List D) = 0 := by simp only [PyData.depthAll]
  have e1 : eqOk (.tuple xs) (.tuple []) = true := by
    unfold eqOk
    simp only [PyData.canLay0, PyData.depth, hc, c0, d0, Bool.true_and, decide_eq_true_eq]; omega
  have e2 : eqOk (.list xs) (.list []) = true := by
    unfold eqOk
    simp only [PyData.canLay0, PyData.depth, hc, c0, d0, Bool.true_and, decide_eq_true_eq]; omega
  have v1 : PyData.eqv (.tuple xs) (.tuple []) = xs.isEmpty := by cases xs <;> simp only [PyData.eqv, PyData.eqvAll] <;> rfl
  have v2 : PyData.eqv (.list xs) (.list []) = xs.isEmpty := by cases xs <;> simp only [PyData.eqv, PyData.eqvAll] <;> rfl
  cases neg
  · simp only [Bool.false_eq_true, if_false]
    exact ⟨by rw [copD_eq, if_pos e1, v1], by rw [copD_eq, if_pos e2, v2]⟩
  · simp only [if_true]
    exact ⟨by rw [copD_ne, if_pos e1, v1], by rw [copD_ne, if_pos e2, v2]⟩
theorem eq_unit_t {xs : List D} (hc : PyData.canLayAll0 xs = true) : copD .eq (.tuple xs) (.tuple []) = some (.bool xs.isEmpty) := (eq_unit xs hc false).1
theorem eq_unit_l {xs : List D} (hc : PyData.canLayAll0 xs = true) : copD .eq (.list xs) (.list []) = some (.bool xs.isEmpty) := (eq_unit xs hc false).2
theorem ne_unit_t {xs : List D} (hc : PyData.canLayAll0 xs = true) : copD .ne (.tuple xs) (.tuple []) = some (.bool (!xs.isEmpty)) := (eq_unit xs hc true).1
theorem ne_unit_l {xs : List D} (hc : PyData.canLayAll0 xs = true) : copD .ne (.list xs) (.list []) = some (.bool (!xs.isEmpty)) := (eq_unit xs hc true).2

theorem add_list (a b : List D) : binD .add (.list a) (.list b) = if a.length + b.length ≤ sizeLine then some (.list (a ++ b)) else none := rfl

def tupI (xs : List Int) : D := .tuple (xs.map .int)

theorem canLay_ints (xs : List Int) : PyData.canLayAll0 (xs.map PyData.int) = true := canLayAll_of fun d hd => by
  obtain ⟨a, _, rfl⟩ := List.mem_map.mp hd
  exact canLay_int a

theorem ip0 (p : Int × Int) : idxD (ip p) (.int 0) = some (.int p.1) := idx0 _ _
theorem ip1 (p : Int × Int) : idxD (ip p) (.int 1) = some (.int p.2) := idx1 _ _ _
theorem rg_len (n : Nat) : (rg n).length = n := by unfold rg; simp

def InR (n : Int) (p : Int × Int) : Prop := 0 ≤ p.1 ∧ p.1 < n ∧ 0 ≤ p.2 ∧ p.2 < n
def ltP (p q : Int × Int) : Prop := p.1 < q.1 ∨ (p.1 = q.1 ∧ p.2 < q.2)
instance (p q : Int × Int) : Decidable (ltP p q) := by unfold ltP; exact inferInstance
def leP (p q : Int × Int) : Bool := decide (p.1 < q.1 ∨ (p.1 = q.1 ∧ p.2 ≤ q.2))
/-- a right order's pairs -/
structure GO (n : Nat) (ps : List (Int × Int)) : Prop where
  inr : ∀ p ∈ ps, InR n p
  srt : ps.Pairwise ltP
theorem len_of_sub {α : Type} [DecidableEq α] : ∀ (l m : List α), l.Nodup → (∀ x ∈ l, x ∈ m) → l.length ≤ m.length
  | [], _, _, _ => Nat.zero_le _
  | a :: l, m, h, hs => by
    have h := List.nodup_cons.mp h
    have ha := hs a (List.mem_cons_self ..)
    have := len_of_sub l (m.erase a) h.2 fun x hx => (List.mem_erase_of_ne fun e => h.1 (by rw [← e]; exact hx)).mpr (hs x (List.mem_cons_of_mem _ hx))
    rw [List.length_erase_of_mem ha] at this
    have : 0 < m.length := List.length_pos_of_mem ha
    simp only [List.length_cons]; omega
def grid (n : Nat) : List (Int × Int) := (rg n).flatMap fun a => (rg n).map fun b => (a, b)
theorem grid_len (n : Nat) : (grid n).length ≤ n * n := by
  unfold grid
  have := flatMap_len (f := fun a => (rg n).map fun b => (a, b)) (c := n) (l := rg n) fun x _ => by rw [List.length_map, rg_len]; exact Nat.le_refl _
  rwa [rg_len] at this
theorem in_grid {n : Nat} {p : Int × Int} (h : InR n p) : p ∈ grid n := by
  obtain ⟨h1, h2, h3, h4⟩ := h
  unfold grid
  exact List.mem_flatMap.mpr ⟨p.1, mem_rg.mpr ⟨h1, h2⟩, List.mem_map.mpr ⟨p.2, mem_rg.mpr ⟨h3, h4⟩, rfl⟩⟩
theorem len_inr {n : Nat} {qs : List (Int × Int)} (nd : qs.Nodup) (h : ∀ q ∈ qs, InR n q) (hn : n ≤ 8) : qs.length ≤ 64 := by
  have h1 := len_of_sub qs (grid n) nd fun q hq => in_grid (h q hq)
  have h2 := grid_len n
  have : n * n ≤ 8 * 8 := Nat.mul_le_mul hn hn
  omega
theorem GO.nodup {n : Nat} {ps : List (Int × Int)} (g : GO n ps) : ps.Nodup := g.srt.imp fun {a b} h e => by
  subst e
  rcases h with h | ⟨_, h⟩ <;> omega
theorem GO.len {n : Nat} {ps : List (Int × Int)} (g : GO n ps) (hn : n ≤ 8) : ps.length ≤ 64 := len_inr g.nodup g.inr hn
/-! the dict -/
def Keys (kvs : List (D × D)) (qs : List (Int × Int)) : Prop := kvs.map (·.1) = qs.map ip
theorem keys_get {p : Int × Int} : ∀ {kvs : List (D × D)} {qs : List (Int × Int)}, Keys kvs qs → (kvs.any fun e => PyData.eqv e.1 (ip p)) = decide (p ∈ qs)
  | [], [], _ => rfl
  | e :: kvs, q :: qs, h => by
    have h := h
    unfold Keys at h
    simp only [List.map_cons, List.cons.injEq] at h
    rw [List.any_cons, keys_get (kvs := kvs) (qs := qs) h.2, h.1, eqv_ip]
    by_cases hq : q = p
    · simp [hq]
    · have : p ≠ q := fun z => hq z.symm
      simp [hq, this]
  | [], _ :: _, h => by unfold Keys at h; simp at h
  | _ :: _, [], h => by unfold Keys at h; simp at h
theorem keys_put {p : Int × Int} {x : D} {kvs : List (D × D)} {qs : List (Int × Int)} (h : Keys kvs qs) : Keys (dput kvs (ip p) x) (if p ∈ qs then qs else qs ++ [p]) := by
  unfold dput
  rw [keys_get h]
  by_cases hp : p ∈ qs
  · rw [if_pos (by simpa using hp), if_pos hp]
    unfold Keys at *
    rw [List.map_map, ← h]
    apply List.map_congr_left
    intro e _
    simp only [Function.comp]
    split <;> rfl
  · rw [if_neg (by simpa using hp), if_neg hp]
    unfold Keys at *
    rw [List.map_append, h, List.map_append]; rfl
theorem isKey_ip (p : Int × Int) : isKey (ip p) = true := rfl
theorem kindOk_ip {p : Int × Int} : ∀ {kvs : List (D × D)} {qs : List (Int × Int)}, Keys kvs qs → kindOk kvs (ip p) = true
  | [], _, _ => rfl
  | e :: kvs, q :: qs, h => by
    unfold Keys at h
    simp only [List.map_cons, List.cons.injEq] at h
    unfold kindOk
    rw [List.all_cons, Bool.and_eq_true]
    refine ⟨by rw [h.1]; rfl, kindOk_ip (qs := qs) h.2⟩
  | _ :: _, [], h => by unfold Keys at h; simp at h
theorem dget_any (k : D) (kvs : List (D × D)) : (dget kvs k).isSome = kvs.any fun e => PyData.eqv e.1 k := by
  unfold dget
  rw [Option.isSome_map]
  induction kvs with
  | nil => rfl
  | cons e kvs ih =>
    rw [List.find?_cons, List.any_cons]
    cases PyData.eqv e.1 k <;> simp [ih]
theorem inn_dict {a b : Int} {kvs : List (D × D)} {qs : List (Int × Int)} (h : Keys kvs qs) : copD .inn (.tuple [.int a, .int b]) (.dict kvs) = some (.bool (decide ((a, b) ∈ qs))) := by
  show (if (isKey (ip (a, b)) && kindOk kvs (ip (a, b))) = true then some (PyData.bool (if false = true then !(dget kvs (ip (a, b))).isSome else (dget kvs (ip (a, b))).isSome)) else none) = _
  rw [isKey_ip, kindOk_ip h, dget_any, keys_get h]; rfl
theorem set_dict' {a b : Int} {x : D} {kvs : List (D × D)} {qs : List (Int × Int)} (h : Keys kvs qs) (hl : qs.length ≤ 64) : setD (.dict kvs) (.tuple [.int a, .int b]) x = some (.dict (dput kvs (ip (a, b)) x)) := by
  have e : kvs.length = qs.length := by have := congrArg List.length h; simpa using this
  have hz : kvs.length < sizeLine := small_lt (by omega)
  show (if (isKey (ip (a, b)) && kindOk kvs (ip (a, b)) && decide (kvs.length < sizeLine)) = true then _ else none) = _
  rw [isKey_ip, kindOk_ip h, decide_eq_true hz]; rfl
/-! sorted -/
theorem alike_ip (p q : Int × Int) : PySem.W.alike (ip p) (ip q) = true := by
  unfold ip; simp [PySem.W.alike, PySem.W.alikeAll]
theorem sortOk_ip (qs : List (Int × Int)) : sortOk (qs.map ip) = true := by
  unfold sortOk allAlike
  simp only [Bool.and_eq_true, Bool.or_eq_true, List.all_eq_true, List.mem_map, decide_eq_true_eq]
  refine ⟨⟨?_, .inl ?_⟩, ?_⟩
  · rintro _ ⟨p, _, rfl⟩ _ ⟨q, _, rfl⟩; exact alike_ip p q
  · rintro _ ⟨p, _, rfl⟩; rfl
  · rintro _ ⟨p, _, rfl⟩; rw [depth_ip]; omega
theorem toks_ip (p : Int × Int) : PySem.W.keyToks (ip p) = [.inl 1, .inl p.1, .inl 1, .inl p.2, .inl 0] := by
  unfold ip; simp [PySem.W.keyToks, PySem.W.keyToksAll]
theorem lt_ip (p q : Int × Int) : PySem.W.dataLt (ip p) (ip q) = decide (ltP p q) := by
  unfold PySem.W.dataLt
  rw [toks_ip, toks_ip]
  rw [PyProof.Rows.lex_cons, PyProof.Rows.lex_cons, PyProof.Rows.lex_cons, PyProof.Rows.lex_cons, PyProof.Rows.lex_cons]
  show (decide ((1 : Int) < 1) || (!decide ((1 : Int) < 1) && (decide (p.1 < q.1) || (!decide (q.1 < p.1) && (decide ((1 : Int) < 1) || (!decide ((1 : Int) < 1) && (decide (p.2 < q.2) || (!decide (q.2 < p.2) && (decide ((0 : Int) < 0) || (!decide ((0 : Int) < 0) && false)))))))))) = _
  rw [Bool.eq_iff_iff]
  simp only [Bool.or_eq_true, Bool.and_eq_true, Bool.not_eq_true', decide_eq_false_iff_not, decide_eq_true_iff, Bool.false_eq_true, and_false, or_false, Int.lt_irrefl, false_or, not_false_eq_true, true_and]
  unfold ltP
  omega
theorem le_ip (p q : Int × Int) : PySem.W.dataLe false id (ip p) (ip q) = leP p q := by
  have e : PySem.W.dataLe false id (ip p) (ip q) = !PySem.W.dataLt (ip q) (ip p) := rfl
  rw [e]
  have h := lt_ip q p
  rw [h, Bool.eq_iff_iff]
  unfold leP
  simp only [Bool.not_eq_true', decide_eq_false_iff_not, decide_eq_true_iff]
  unfold ltP
  omega
theorem sortD_ip (qs : List (Int × Int)) : sortD (qs.map ip) = (qs.mergeSort leP).map ip := by
  unfold sortD
  rw [List.map_mergeSort (r := leP) (s := PySem.W.dataLe false id) fun a _ b _ => (le_ip a b).symm]
theorem sorted_go {n : Nat} {qs : List (Int × Int)} (nd : qs.Nodup) (h : ∀ q ∈ qs, InR n q) : GO n (qs.mergeSort leP) := by
  have perm := List.mergeSort_perm qs leP
  refine ⟨fun p hp => h p (perm.mem_iff.mp hp), ?_⟩
  have s := List.pairwise_mergeSort (le := leP) (fun a b c h1 h2 => by unfold leP at *; simp at *; omega) (fun a b => by unfold leP; simp; omega) qs
  have nd2 : (qs.mergeSort leP).Nodup := perm.nodup_iff.mpr nd
  have both := List.pairwise_and_iff.mpr ⟨s, nd2⟩
  refine both.imp fun {a b} h => ?_
  obtain ⟨h1, h2⟩ := h
  unfold leP at h1
  unfold ltP
  simp at h1
  rcases h1 with h1 | ⟨h1, h3⟩
  · exact .inl h1
  · refine .inr ⟨h1, ?_⟩
    have : a.2 ≠ b.2 := fun z => h2 (Prod.ext h1 z)
    omega

structure Dk (n : Nat) (kvs : List (D × D)) (qs : List (Int × Int)) : Prop where
  keys : Keys kvs qs
  nd : qs.Nodup
  inr : ∀ q ∈ qs, InR n q
theorem Dk.put {n : Nat} {kvs : List (D × D)} {qs : List (Int × Int)} (h : Dk n kvs qs) {p : Int × Int} {x : D} (hp : InR n p) : ∃ rs, Dk n (dput kvs (ip p) x) rs := by
  refine ⟨if p ∈ qs then qs else qs ++ [p], keys_put h.keys, ?_, ?_⟩
  · split
    · exact h.nd
    · rename_i hn
      exact List.nodup_append.mpr ⟨h.nd, by simp, fun a ha b hb => by
        have : b = p := by simpa using hb
        subst this
        exact fun e => hn (e ▸ ha)⟩
  · intro q hq
    split at hq
    · exact h.inr q hq
    · rcases List.mem_append.mp hq with hq | hq
      · exact h.inr q hq
      · have : q = p := by simpa using hq
        rw [this]; exact hp
theorem Dk.puts {n : Nat} : ∀ {ps : List (Int × Int)} {kvs : List (D × D)} {qs : List (Int × Int)}, Dk n kvs qs → (∀ p ∈ ps, InR n p) → ∃ rs, Dk n (dputs kvs (ps.map fun p => (ip p, .int 0))) rs
  | [], _, qs, h, _ => ⟨qs, h⟩
  | p :: ps, _, _, h, hp => by
    obtain ⟨rs, h1⟩ := h.put (x := .int 0) (hp p (List.mem_cons_self ..))
    exact Dk.puts (ps := ps) h1 fun q hq => hp q (List.mem_cons_of_mem _ hq)
theorem pairsD_ip : ∀ ps : List (Int × Int), pairsD (ps.map fun p => .tuple [ip p, .int 0]) = some (ps.map fun p => (ip p, .int 0))
  | [] => rfl
  | p :: ps => by
    rw [List.map_cons]
    show (pairsD _).map _ = _
    rw [pairsD_ip ps]; rfl
theorem p_dict (ps : List (Int × Int)) : primD .dictOf [.list (ps.map fun p => .tuple [ip p, .int 0])] = some (.dict (dputs [] (ps.map fun p => (ip p, .int 0)))) := by
  show ((pairsD _).bind fun qs => if (qs.all (fun p => isKey1 p.1) || qs.all (fun p => isTk p.1)) = true then some (PyData.dict (dputs [] qs)) else none) = _
  rw [pairsD_ip, Option.bind_some]
  have : (ps.map fun p => (ip p, PyData.int 0)).all (fun p => isTk p.1) = true := by
    rw [List.all_eq_true]
    intro x hx
    obtain ⟨p, _, rfl⟩ := List.mem_map.mp hx
    rfl
  rw [this, Bool.or_true, if_pos rfl]
theorem p_sorted {kvs : List (D × D)} {qs : List (Int × Int)} (h : Keys kvs qs) : primD .sorted [.dict kvs] = some (.list ((qs.mergeSort leP).map ip)) := by
  show (if sortOk (kvs.map (·.1)) = true then some (PyData.list (sortD (kvs.map (·.1)))) else none) = _
  unfold Keys at h
  rw [h, if_pos (sortOk_ip qs), sortD_ip]

theorem perm_of_map {α β : Type} {f : α → β} {es ms : List β} (h : es.Perm ms) : ∀ {l : List α}, ms = l.map f → ∃ l' : List α, es = l'.map f ∧ l'.Perm l := by
  induction h with
  | nil => intro l e; exact ⟨l, e, .refl _⟩
  | cons x p ih =>
    intro l e
    cases l with
    | nil => cases e
    | cons a l =>
      simp only [List.map_cons, List.cons.injEq] at e
      obtain ⟨l', e', p'⟩ := ih e.2
      exact ⟨a :: l', by rw [List.map_cons, e', e.1], .cons a p'⟩
  | swap x y l0 =>
    intro l e
    cases l with
    | nil => cases e
    | cons a l => cases l with
      | nil => simp at e
      | cons b l =>
        simp only [List.map_cons, List.cons.injEq] at e
        exact ⟨b :: a :: l, by simp only [List.map_cons]; rw [← e.1, ← e.2.1, ← e.2.2], .swap _ _ _⟩
  | trans p1 p2 ih1 ih2 =>
    intro l e
    obtain ⟨l', e', p'⟩ := ih2 e
    obtain ⟨l2, e2, p3⟩ := ih1 e'
    exact ⟨l2, e2, p3.trans p'⟩
theorem lcW_sub {α : Type} {f : α → D} {g : α → D} {xs : List α} {st : D → W (Option D)} {Q : List D → Prop} (h : ∀ a ∈ xs, ∀ K : Option D → Prop, K none → K (some (g a)) → st (f a) K) (q : ∀ ys : List α, (∀ y ∈ ys, y ∈ xs) → ys.length ≤ xs.length → Q (ys.map g)) : lcW (xs.map f) st Q := by
  induction xs generalizing Q with
  | nil => exact q [] (by simp) (Nat.le_refl _)
  | cons a xs ih =>
    rw [List.map_cons]
    unfold lcW
    refine h a (List.mem_cons_self ..) _ ?_ ?_
    · refine ih (fun b hb => h b (List.mem_cons_of_mem _ hb)) fun ys h1 h2 => ?_
      exact q ys (fun y hy => List.mem_cons_of_mem _ (h1 y hy)) (by simp only [List.length_cons]; omega)
    · refine ih (fun b hb => h b (List.mem_cons_of_mem _ hb)) fun ys h1 h2 => ?_
      exact q (a :: ys) (fun y hy => (List.mem_cons.mp hy).elim (fun e => e ▸ List.mem_cons_self ..) fun hy => List.mem_cons_of_mem _ (h1 y hy)) (by simp only [List.length_cons]; omega)
theorem mul_small {a b : Int} (h : -(2 ^ 64) < a ∧ a < 2 ^ 64) : binD .mul (.int a) (.int b) = some (.int (a * b)) := by
  show (if CMul a b then _ else _) = _
  rw [if_pos (.inl h)]
theorem slc_l (xs : List D) (lo hi : Option Int) : slcD (.list xs) lo hi = some (.list (cutL xs lo hi)) := rfl
theorem cutL_map {α : Type} (f : α → D) (xs : List α) (lo hi : Option Int) : cutL (xs.map f) lo hi = (cutL xs lo hi).map f := by
  unfold cutL; rw [List.length_map, List.map_take, List.map_drop]
theorem cutL_mem {α : Type} {xs : List α} {lo hi : Option Int} {a : α} (h : a ∈ cutL xs lo hi) : a ∈ xs := List.mem_of_mem_drop (List.mem_of_mem_take h)
theorem cutL_len {α : Type} (xs : List α) (lo hi : Option Int) : (cutL xs lo hi).length ≤ xs.length := by
  unfold cutL; rw [List.length_take, List.length_drop]; omega
theorem cut2 {α : Type} (a b : α) (r : List α) : cutL (a :: b :: r) none (some 2) = [a, b] := by
  unfold cutL
  have e1 : HT.sIx (a :: b :: r).length 0 none = 0 := by first | rfl | simp [HT.sIx]
  have e2 : HT.sIx (a :: b :: r).length (a :: b :: r).length (some 2) = 2 := by
    have := HT.sIx_nat (a :: b :: r).length (a :: b :: r).length 2
    rw [show ((2 : Nat) : Int) = 2 from rfl] at this
    rw [this]; simp
  rw [e1, e2]; simp
theorem idx_li {xs : List Int} {a : Int} (h0 : 0 ≤ a) (h : a < xs.length) : ∃ x ∈ xs, idxD (.list (xs.map .int)) (.int a) = some (.int x) := by
  obtain ⟨i, rfl⟩ := Int.eq_ofNat_of_zero_le h0
  have hi : i < xs.length := by omega
  refine ⟨xs[i], List.getElem_mem hi, ?_⟩
  show atI _ _ = _
  refine atI_nat ?_
  rw [List.getElem?_map, List.getElem?_eq_getElem hi]; rfl
theorem add_tup (a b : List D) : binD .add (.tuple a) (.tuple b) = if a.length + b.length ≤ sizeLine then some (.tuple (a ++ b)) else none := rfl

theorem sorted_ext : ∀ {xs ys : List Int}, xs.Pairwise (· < ·) → ys.Pairwise (· < ·) → (∀ a, a ∈ xs ↔ a ∈ ys) → xs = ys
  | [], [], _, _, _ => rfl
  | [], y :: ys, _, _, h => by have := (h y).mpr (List.mem_cons_self ..); simp at this
  | x :: xs, [], _, _, h => by have := (h x).mp (List.mem_cons_self ..); simp at this
  | x :: xs, y :: ys, hx, hy, h => by
    have hx := List.pairwise_cons.mp hx
    have hy := List.pairwise_cons.mp hy
    have e : x = y := by
      have h1 := (h x).mp (List.mem_cons_self ..)
      have h2 := (h y).mpr (List.mem_cons_self ..)
      rcases List.mem_cons.mp h1 with h1 | h1
      · exact h1
      · rcases List.mem_cons.mp h2 with h2 | h2
        · exact h2.symm
        · have a1 := hy.1 x h1
          have a2 := hx.1 y h2
          omega
    subst e
    rw [sorted_ext hx.2 hy.2 fun a => ?_]
    constructor
    · intro ha
      have := (h a).mp (List.mem_cons_of_mem _ ha)
      rcases List.mem_cons.mp this with e | e
      · have := hx.1 a ha; omega
      · exact e
    · intro ha
      have := (h a).mpr (List.mem_cons_of_mem _ ha)
      rcases List.mem_cons.mp this with e | e
      · have := hy.1 a ha; omega
      · exact e
theorem rg_srt (n : Nat) : (rg n).Pairwise (· < ·) := by
  unfold rg
  rw [List.pairwise_map]
  exact List.pairwise_lt_range.imp fun {a b} h => by show (a : Int) < (b : Int); omega

theorem lcW_all {α : Type} {f : α → D} {g : α → D} {xs : List α} {st : D → W (Option D)} {Q : List D → Prop} (h : ∀ a ∈ xs, ∀ K : Option D → Prop, K (some (g a)) → st (f a) K) (q : Q (xs.map g)) : lcW (xs.map f) st Q := by
  refine lcW_filter (f := f) (g := g) (p := fun _ => true) (fun a ha K hK => h a ha K (by simpa using hK)) ?_
  rw [show xs.filter (fun _ => true) = xs from List.filter_eq_self.mpr (fun _ _ => rfl)]
  exact q
theorem PlA.all' {k a : Nat} : ∀ {m : Nat} {xs : List D}, (∀ x ∈ xs, Pl k a x) → (a + 1) * xs.length ≤ m → PlA k m xs
  | m, [], _, _ => .nil
  | m, x :: xs, h, hm => by
    rw [List.length_cons, Nat.mul_succ] at hm
    have := PlA.cons (h x (List.mem_cons_self ..)) (PlA.all' (m := m - (a + 1)) (xs := xs) (fun y hy => h y (List.mem_cons_of_mem _ hy)) (by omega))
    rw [show a + 1 + (m - (a + 1)) = m by omega] at this
    exact this
theorem pl_int {k m : Nat} {i : Int} (h0 : 0 ≤ i) (h : i < 100) : Pl k m (.int i) := .int (Nat.lt_of_lt_of_le (show i.natAbs < 100 by omega) (by decide))
theorem pl_ip {n : Nat} {p : Int × Int} (hn : n ≤ 8) (h : InR n p) : Pl 1 2 (ip p) := by
  obtain ⟨h1, h2, h3, h4⟩ := h
  exact .tup (.cons (a := 0) (b := 1) (pl_int h1 (by omega)) (.cons (a := 0) (b := 0) (pl_int h3 (by omega)) .nil))

end PD
set_option maxHeartbeats 4000000
/-! PEa: typed data (en) and how compact text over it is computed by simp. -/
namespace PD
open PySem L2
class Enc (α : Type) where
  en0 : α → D
def en {α : Type} [Enc α] (a : α) : D := Enc.en0 a
/-- a tuple of any length -/
structure Tu (α : Type) where
  l : List α
  deriving DecidableEq, Inhabited
instance : Enc Int := ⟨PyData.int⟩
instance : Enc Bool := ⟨PyData.bool⟩
instance : Enc Unit := ⟨fun _ => .none⟩
instance {α : Type} [Enc α] : Enc (List α) := ⟨fun xs => .list (xs.map en)⟩
instance {α : Type} [Enc α] : Enc (Tu α) := ⟨fun xs => .tuple (xs.l.map en)⟩
instance {α β : Type} [Enc α] [Enc β] : Enc (α × β) := ⟨fun p => .tuple [en p.1, en p.2]⟩
instance {α : Type} [Enc α] : Enc (Option α) := ⟨fun | none => .none | some a => en a⟩
section
variable {α β γ : Type} [Enc α] [Enc β]
theorem i_en (i : Int) : PyData.int i = en i := rfl
theorem b_en (b : Bool) : PyData.bool b = en b := rfl
theorem n_en : PyData.none = en () := rfl
theorem l_en (xs : List α) : PyData.list (xs.map en) = en xs := rfl
theorem t_en (xs : List α) : PyData.tuple (xs.map en) = en (Tu.mk xs) := rfl
theorem tl_en (xs : Tu α) : PyData.tuple (xs.l.map en) = en xs := rfl
theorem p_en (a : α) (b : β) : PyData.tuple [en a, en b] = en (a, b) := rfl
theorem some_en (a : α) : en (some a) = en a := rfl
theorem none_en : en (none : Option α) = en () := rfl
/-- literals of one sort -/
theorem l1_en (a : α) : PyData.list [en a] = en [a] := rfl
theorem l2_en (a b : α) : PyData.list [en a, en b] = en [a, b] := rfl
theorem l3_en (a b c : α) : PyData.list [en a, en b, en c] = en [a, b, c] := rfl
theorem l4_en (a b c d : α) : PyData.list [en a, en b, en c, en d] = en [a, b, c, d] := rfl
theorem t1_en (a : α) : PyData.tuple [en a] = en (Tu.mk [a]) := rfl
theorem snoc_en (xs : List α) (a : α) : PyData.list (xs.map en ++ [en a]) = en (xs ++ [a]) := by
  rw [show xs.map en ++ [en a] = (xs ++ [a]).map en by simp]; rfl
theorem app_en (xs ys : List α) : PyData.list (xs.map en ++ ys.map en) = en (xs ++ ys) := by
  rw [← List.map_append]; rfl
theorem isL_l (xs : List α) : isL (en xs) = true := rfl
end
/-- data of one sort, told apart as Python does -/
class LEnc (α : Type) [Enc α] [DecidableEq α] where
  eqv : ∀ a b : α, PyData.eqv (en a) (en b) = decide (a = b)
  lay : ∀ a : α, PyData.canLay0 (en a) = true
  dp : Nat
  dep : ∀ a : α, PyData.depth (en a) ≤ dp
/-- is it one of them? -/
def mb {α : Type} [DecidableEq α] (a : α) (xs : List α) : Bool := decide (a ∈ xs)
theorem mb_eq {α : Type} [DecidableEq α] (a : α) (xs : List α) [Decidable (a ∈ xs)] : mb a xs = decide (a ∈ xs) := by
  unfold mb; congr
theorem mb_iff {α : Type} [DecidableEq α] {a : α} {xs : List α} : mb a xs = true ↔ a ∈ xs := by unfold mb; simp
theorem mb_not {α : Type} [DecidableEq α] {a : α} {xs : List α} : mb a xs = false ↔ a ∉ xs := by unfold mb; simp
theorem eqvAll_en {α : Type} [Enc α] [DecidableEq α] [LEnc α] : ∀ xs ys : List α, PyData.eqvAll (xs.map en) (ys.map en) = decide (xs = ys)
  | [], [] => by simp [PyData.eqvAll]
  | [], _ :: _ => by simp [PyData.eqvAll]
  | _ :: _, [] => by simp [PyData.eqvAll]
  | x :: xs, y :: ys => by
    simp only [List.map_cons, PyData.eqvAll, LEnc.eqv, eqvAll_en xs ys, List.cons.injEq]
    by_cases h : x = y <;> simp [h]
theorem layAll_en {α : Type} [Enc α] [DecidableEq α] [LEnc α] (xs : List α) : PyData.canLayAll0 (xs.map en) = true := canLayAll_of fun d hd => by
  obtain ⟨a, _, rfl⟩ := List.mem_map.mp hd
  exact LEnc.lay a
theorem depAll_en {α : Type} [Enc α] [DecidableEq α] [LEnc α] (xs : List α) : PyData.depthAll (xs.map en) ≤ LEnc.dp α := depthAll_of fun d hd => by
  obtain ⟨a, _, rfl⟩ := List.mem_map.mp hd
  exact LEnc.dep a
instance : LEnc Int where
  eqv := eqv_int
  lay := canLay_int
  dp := 0
  dep := fun a => by rw [show en a = PyData.int a from rfl, depth_int]; exact Nat.le_refl _
instance : LEnc Bool where
  eqv := fun a b => by
    show PyData.eqv (.bool a) (.bool b) = _
    cases a <;> cases b <;> simp [PyData.eqv]
  lay := fun a => by show PyData.canLay0 (.bool a) = true; simp only [PyData.canLay0]
  dp := 0
  dep := fun a => by show PyData.depth (.bool a) ≤ 0; simp [PyData.depth]
instance : LEnc Unit where
  eqv := fun a b => by show PyData.eqv .none .none = _; simp [PyData.eqv]
  lay := fun a => by show PyData.canLay0 .none = true; simp only [PyData.canLay0]
  dp := 0
  dep := fun a => by show PyData.depth .none ≤ 0; simp [PyData.depth]
instance {α : Type} [Enc α] [DecidableEq α] [LEnc α] : LEnc (List α) where
  eqv := fun xs ys => by
    show PyData.eqv (.list (xs.map en)) (.list (ys.map en)) = _
    simp only [PyData.eqv]; exact eqvAll_en xs ys
  lay := fun xs => by show PyData.canLay0 (.list (xs.map en)) = true; simp only [PyData.canLay0]; exact layAll_en xs
  dp := LEnc.dp α + 1
  dep := fun xs => by
    show PyData.depth (.list (xs.map en)) ≤ _
    have := depAll_en xs
    simp only [PyData.depth]; omega
instance {α : Type} [Enc α] [DecidableEq α] [LEnc α] : LEnc (Tu α) where
  eqv := fun xs ys => by
    show PyData.eqv (.tuple (xs.l.map en)) (.tuple (ys.l.map en)) = _
    simp only [PyData.eqv]; rw [eqvAll_en xs.l ys.l]
    cases xs; cases ys; simp
  lay := fun xs => by show PyData.canLay0 (.tuple (xs.l.map en)) = true; simp only [PyData.canLay0]; exact layAll_en xs.l
  dp := LEnc.dp α + 1
  dep := fun xs => by
    show PyData.depth (.tuple (xs.l.map en)) ≤ _
    have := depAll_en xs.l
    simp only [PyData.depth]; omega
instance {α β : Type} [Enc α] [DecidableEq α] [LEnc α] [Enc β] [DecidableEq β] [LEnc β] : LEnc (α × β) where
  eqv := fun p q => by
    show PyData.eqv (.tuple [en p.1, en p.2]) (.tuple [en q.1, en q.2]) = _
    simp only [PyData.eqv, PyData.eqvAll, LEnc.eqv, Bool.and_true]
    by_cases h1 : p.1 = q.1 <;> by_cases h2 : p.2 = q.2 <;> simp [h1, h2, Prod.ext_iff]
  lay := fun p => by
    show PyData.canLay0 (.tuple [en p.1, en p.2]) = true
    simp only [PyData.canLay0, PyData.canLayAll0, LEnc.lay]; rfl
  dp := max (LEnc.dp α) (LEnc.dp β) + 1
  dep := fun p => by
    show PyData.depth (.tuple [en p.1, en p.2]) ≤ _
    have h1 := LEnc.dep p.1
    have h2 := LEnc.dep p.2
    simp only [PyData.depth, PyData.depthAll]; omega
theorem dp_int : LEnc.dp Int = 0 := rfl
theorem dp_bool : LEnc.dp Bool = 0 := rfl
theorem dp_unit : LEnc.dp Unit = 0 := rfl
section
variable {α β : Type} [Enc α] [DecidableEq α] [LEnc α] [Enc β] [DecidableEq β] [LEnc β]
theorem dp_list : LEnc.dp (List α) = LEnc.dp α + 1 := rfl
theorem dp_tu : LEnc.dp (Tu α) = LEnc.dp α + 1 := rfl
theorem dp_pair : LEnc.dp (α × β) = max (LEnc.dp α) (LEnc.dp β) + 1 := rfl
theorem eqOk_en (h : LEnc.dp α ≤ 60) (a b : α) : eqOk (en a) (en b) = true := by
  unfold eqOk
  rw [LEnc.lay, LEnc.lay]
  have := LEnc.dep a
  simp; omega
theorem c_eq (h : LEnc.dp α ≤ 60) (a b : α) : copD .eq (en a) (en b) = some (en (decide (a = b))) := by
  rw [copD_eq, if_pos (eqOk_en h a b), LEnc.eqv]; rfl
theorem c_ne (h : LEnc.dp α ≤ 60) (a b : α) : copD .ne (en a) (en b) = some (en (!decide (a = b))) := by
  rw [copD_ne, if_pos (eqOk_en h a b), LEnc.eqv]; rfl
theorem in_en (h : LEnc.dp α ≤ 60) (neg : Bool) (a : α) (xs : List α) : inD neg (en a) (.tuple (xs.map en)) = some (.bool (if neg then !decide (a ∈ xs) else decide (a ∈ xs))) ∧ inD neg (en a) (.list (xs.map en)) = some (.bool (if neg then !decide (a ∈ xs) else decide (a ∈ xs))) :=
  in_of (f := en) LEnc.eqv LEnc.lay (fun a => Nat.le_trans (LEnc.dep a) h) neg a xs
theorem c_inL (h : LEnc.dp α ≤ 60) (a : α) (xs : List α) : copD .inn (en a) (en xs) = some (en (mb a xs)) := (in_en h false a xs).2
theorem c_inT (h : LEnc.dp α ≤ 60) (a : α) (xs : Tu α) : copD .inn (en a) (en xs) = some (en (mb a xs.l)) := (in_en h false a xs.l).1
theorem c_ninL (h : LEnc.dp α ≤ 60) (a : α) (xs : List α) : copD .nin (en a) (en xs) = some (en (!mb a xs)) := (in_en h true a xs).2
theorem c_ninT (h : LEnc.dp α ≤ 60) (a : α) (xs : Tu α) : copD .nin (en a) (en xs) = some (en (!mb a xs.l)) := (in_en h true a xs.l).1
theorem c_eqE (xs : List α) : copD .eq (en xs) (.list []) = some (en xs.isEmpty) := by
  have := (eq_unit (xs.map en) (layAll_en xs) false).2
  rw [List.isEmpty_map] at this; exact this
theorem c_neE (xs : List α) : copD .ne (en xs) (.list []) = some (en (!xs.isEmpty)) := by
  have := (eq_unit (xs.map en) (layAll_en xs) true).2
  rw [List.isEmpty_map] at this; exact this
theorem c_eqU (xs : Tu α) : copD .eq (en xs) (.tuple []) = some (en xs.l.isEmpty) := by
  have := (eq_unit (xs.l.map en) (layAll_en xs.l) false).1
  rw [List.isEmpty_map] at this; exact this
theorem c_neU (xs : Tu α) : copD .ne (en xs) (.tuple []) = some (en (!xs.l.isEmpty)) := by
  have := (eq_unit (xs.l.map en) (layAll_en xs.l) true).1
  rw [List.isEmpty_map] at this; exact this
end
/-! ### readings as values of W -/
def rt {α : Type} (x : α) : W α := fun Q => Q x
def bd {α β : Type} (A : W α) (f : α → W β) : W β := fun Q => A fun x => f x Q
def gd {α : Type} (c : Prop) (A : W α) : W α := fun Q => c ∧ A Q
section
variable {α β γ : Type} {p q : Bool} {c d : Prop}
theorem rt_ap (x : α) (Q : α → Prop) : rt x Q = Q x := rfl
theorem bd_ap (A : W α) (f : α → W β) (Q : β → Prop) : bd A f Q = A fun x => f x Q := rfl
theorem gd_ap (c : Prop) (A : W α) (Q : α → Prop) : gd c A Q = (c ∧ A Q) := rfl
theorem ite_ap (A B : W α) (Q : α → Prop) : (if p = true then A else B) Q = if p = true then A Q else B Q := by cases p <;> rfl
theorem bd_rt (x : α) (f : α → W β) : bd (rt x) f = f x := rfl
theorem rt_bd (A : W α) : bd A rt = A := rfl
theorem bd_bd (A : W α) (f : α → W β) (g : β → W γ) : bd (bd A f) g = bd A fun x => bd (f x) g := rfl
theorem bd_gd (A : W α) (f : α → W β) : bd (gd c A) f = gd c (bd A f) := rfl
theorem gd_gd (A : W α) : gd c (gd d A) = gd (c ∧ d) A := by funext Q; exact propext ⟨fun h => ⟨⟨h.1, h.2.1⟩, h.2.2⟩, fun h => ⟨h.1.1, h.1.2, h.2⟩⟩
theorem gd_true (A : W α) : gd True A = A := by funext Q; exact propext ⟨fun h => h.2, fun h => ⟨trivial, h⟩⟩
theorem bd_ite (A B : W α) (f : α → W β) : bd (if p = true then A else B) f = if p = true then bd A f else bd B f := by cases p <;> rfl
theorem ite_rt (x y : α) : (if p = true then rt x else rt y) = rt (if p = true then x else y) := by cases p <;> rfl
theorem ite_gd1 (A B : W α) : (if p = true then gd c A else B) = gd (p = true → c) (if p = true then A else B) := by
  funext Q; cases p <;> exact propext (by simp [gd])
theorem ite_gd2 (A B : W α) : (if p = true then A else gd c B) = gd (p = false → c) (if p = true then A else B) := by
  funext Q; cases p <;> exact propext (by simp [gd])
theorem lift_rt (x : α) : lift (some x) = rt x := by funext Q; exact lift_some
theorem lift_gd (c : Prop) [Decidable c] (x : α) : lift (if c then some x else none) = gd c (rt x) := by
  funext Q; by_cases h : c <;> simp [h, lift, gd, rt]
theorem b_and (p q : Bool) : (if p = true then q else false) = (p && q) := by cases p <;> rfl
theorem b_and2 (p q : Bool) : (if p = true then q else p) = (p && q) := by cases p <;> rfl
theorem b_or (p q : Bool) : (if p = true then true else q) = (p || q) := by cases p <;> rfl
theorem b_or2 (p q : Bool) : (if p = true then p else q) = (p || q) := by cases p <;> rfl
theorem ite_en {α : Type} [Enc α] (x y : α) : (if p = true then en x else en y) = en (if p = true then x else y) := by cases p <;> rfl
end
theorem c_lt (a b : Int) : copD .lt (en a) (en b) = some (en (decide (a < b))) := lt_int a b
theorem c_gt (a b : Int) : copD .gt (en a) (en b) = some (en (decide (b < a))) := gt_int a b
theorem c_le (a b : Int) : copD .le (en a) (en b) = some (en (decide (a ≤ b))) := by
  show (if ltOk (.int a) (.int b) then some (PyData.bool (!PySem.W.dataLt (.int b) (.int a))) else none) = _
  rw [if_pos (ltOk_int a b), dataLt_int, b_en]
  congr 2
  by_cases h : b < a
  · simp [h]
  · simp [h, Int.not_lt.mp h]
theorem c_ge (a b : Int) : copD .ge (en a) (en b) = some (en (decide (b ≤ a))) := by
  show (if ltOk (.int a) (.int b) then some (PyData.bool (!PySem.W.dataLt (.int a) (.int b))) else none) = _
  rw [if_pos (ltOk_int a b), dataLt_int, b_en]
  congr 2
  by_cases h : a < b
  · simp [h]
  · simp [h, Int.not_lt.mp h]
theorem boolsD_en : ∀ bs : List Bool, boolsD (bs.map .bool) = some bs
  | [] => rfl
  | b :: bs => by
    show (boolsD (bs.map .bool)).map (b :: ·) = _
    rw [boolsD_en bs]; rfl
theorem intsD_en : ∀ bs : List Int, intsD (bs.map .int) = some bs
  | [] => rfl
  | b :: bs => by
    show (intsD (bs.map .int)).map (b :: ·) = _
    rw [intsD_en bs]; rfl
section
variable {α β : Type} [Enc α] [Enc β]
/-! truth -/
theorem tr_b (b : Bool) : truD (en b) = some b := rfl
theorem tr_i (i : Int) : truD (en i) = some (i != 0) := rfl
theorem tr_l (xs : List α) : truD (en xs) = some (!xs.isEmpty) := by show some (!(xs.map en).isEmpty) = _; rw [List.isEmpty_map]
theorem tr_t (xs : Tu α) : truD (en xs) = some (!xs.l.isEmpty) := by show some (!(xs.l.map en).isEmpty) = _; rw [List.isEmpty_map]
/-! numbers -/
theorem o_add (a b : Int) : binD .add (en a) (en b) = some (en (a + b)) := rfl
theorem o_sub (a b : Int) : binD .sub (en a) (en b) = some (en (a - b)) := rfl
theorem o_mul (a b : Int) : lift (binD .mul (en a) (en b)) = gd (CMul a b) (rt (en (a * b))) := lift_gd _ _
theorem o_div (a b : Int) : lift (binD .fdiv (en a) (en b)) = gd (CDivN a b) (rt (en (a.fdiv b))) := lift_gd _ _
theorem o_mod (a b : Int) : lift (binD .mod (en a) (en b)) = gd (b ≠ 0) (rt (en (a.fmod b))) := lift_gd _ _
theorem o_shl (a b : Int) : lift (binD .shl (en a) (en b)) = gd (CPow a b) (rt (en (a * 2 ^ b.toNat))) := lift_gd _ _
theorem o_shr (a b : Int) : lift (binD .shr (en a) (en b)) = gd (0 ≤ b) (rt (en (a / 2 ^ b.toNat))) := lift_gd _ _
theorem o_band (a b : Int) : binD .band (en a) (en b) = some (en (Builtin.bitAnd a b)) := by
  show (if True then some (PyData.int (Builtin.bitAnd a b)) else none) = _
  rw [if_pos trivial]; rfl
theorem o_neg (a : Int) : negD (en a) = some (en (-a)) := rfl
/-! lists -/
theorem o_addL (xs ys : List α) : lift (binD .add (en xs) (en ys)) = gd (xs.length + ys.length ≤ sizeLine) (rt (en (xs ++ ys))) := by
  have : binD .add (en xs) (en ys) = if xs.length + ys.length ≤ sizeLine then some (en (xs ++ ys)) else none := by
    show (if (xs.map en).length + (ys.map en).length ≤ sizeLine then some (PyData.list (xs.map en ++ ys.map en)) else none) = _
    rw [List.length_map, List.length_map, ← List.map_append]; rfl
  rw [this, lift_gd]
theorem o_addT (xs ys : Tu α) : lift (binD .add (en xs) (en ys)) = gd (xs.l.length + ys.l.length ≤ sizeLine) (rt (en (Tu.mk (xs.l ++ ys.l)))) := by
  have : binD .add (en xs) (en ys) = if xs.l.length + ys.l.length ≤ sizeLine then some (en (Tu.mk (xs.l ++ ys.l))) else none := by
    show (if (xs.l.map en).length + (ys.l.map en).length ≤ sizeLine then some (PyData.tuple (xs.l.map en ++ ys.l.map en)) else none) = _
    rw [List.length_map, List.length_map, ← List.map_append]; rfl
  rw [this, lift_gd]
/-- [x] * m -/
theorem o_mulL (xs : List α) (m : Int) : lift (binD .mul (en xs) (en m)) = gd (-(2 ^ 63) ≤ m ∧ m < 2 ^ 63 ∧ xs.length * m.toNat ≤ sizeLine) (rt (en (List.replicate m.toNat xs).flatten)) := by
  have : binD .mul (en xs) (en m) = if -(2 ^ 63) ≤ m ∧ m < 2 ^ 63 ∧ xs.length * m.toNat ≤ sizeLine then some (en (List.replicate m.toNat xs).flatten) else none := by
    show (if -(2 ^ 63) ≤ m ∧ m < 2 ^ 63 ∧ (xs.map en).length * m.toNat ≤ sizeLine then some (PyData.list (List.replicate m.toNat (xs.map en)).flatten) else none) = _
    rw [List.length_map]
    congr 2
    show _ = PyData.list _
    rw [List.map_flatten, List.map_replicate]
  rw [this, lift_gd]
theorem i01 (b : Bool) : primD .int [en b] = some (en (if b = true then (1 : Int) else 0)) := rfl
theorem mulB1 (x : α) (b : Bool) : lift (binD .mul (en [x]) (en (if b = true then (1 : Int) else 0))) = rt (en (if b = true then [x] else [])) := by
  rw [o_mulL]
  have z : (1 : Nat) ≤ sizeLine := by decide
  funext Q
  cases b <;> simp [z, gd, rt]
/-- is the number one of a place? -/
def IxOk (n : Nat) (i : Int) : Prop := -(n : Int) ≤ i ∧ i < n
instance {n : Nat} {i : Int} : Decidable (IxOk n i) := by unfold IxOk; exact inferInstance
def pix {α : Type} [Inhabited α] (xs : List α) (i : Int) : α := xs.getD (if i < 0 then (i + xs.length).toNat else i.toNat) default
theorem atI_map [Inhabited α] (xs : List α) (i : Int) : atI (xs.map en) i = if IxOk xs.length i then some (en (pix xs i)) else none := by
  unfold atI ixN IxOk pix
  rw [List.length_map]
  by_cases h0 : 0 ≤ i
  · by_cases h1 : i < xs.length
    · have hj : i.toNat < xs.length := by omega
      simp [h0, h1, show ¬ i < 0 by omega, show -(xs.length : Int) ≤ i by omega, List.getD, List.getElem?_eq_getElem hj]
    · simp [h0, h1]
  · by_cases h1 : -(xs.length : Int) ≤ i
    · have hj : (i + xs.length).toNat < xs.length := by omega
      simp [h0, h1, show i < 0 by omega, show i < xs.length by omega, List.getD, List.getElem?_eq_getElem hj]
    · simp [h0, h1]
theorem x_list [Inhabited α] (xs : List α) (i : Int) : lift (idxD (en xs) (en i)) = gd (IxOk xs.length i) (rt (en (pix xs i))) := by
  rw [show idxD (en xs) (en i) = atI (xs.map en) i from rfl, atI_map, lift_gd]
theorem x_tup [Inhabited α] (xs : Tu α) (i : Int) : lift (idxD (en xs) (en i)) = gd (IxOk xs.l.length i) (rt (en (pix xs.l i))) := by
  rw [show idxD (en xs) (en i) = atI (xs.l.map en) i from rfl, atI_map, lift_gd]
theorem x_p0 (p : α × β) : idxD (en p) (en (0 : Int)) = some (en p.1) := idx0 _ _
theorem x_p1 (p : α × β) : idxD (en p) (en (1 : Int)) = some (en p.2) := idx1 _ _ _
theorem s_list (xs : List α) (lo hi : Option Int) : slcD (en xs) lo hi = some (en (cutL xs lo hi)) := by
  show some (PyData.list (cutL (xs.map en) lo hi)) = _
  rw [cutL_map]; rfl
theorem s_tup (xs : Tu α) (lo hi : Option Int) : slcD (en xs) lo hi = some (en (Tu.mk (cutL xs.l lo hi))) := by
  show some (PyData.tuple (cutL (xs.l.map en) lo hi)) = _
  rw [cutL_map]; rfl
theorem r_list (xs : List α) : revD (en xs) = some (en xs.reverse) := by
  show some (PyData.list (xs.map en).reverse) = _
  rw [← List.map_reverse]; rfl
theorem lt_list (xs : List α) : ltD (en xs) = some (xs.map en) := rfl
theorem lt_tup (xs : Tu α) : ltD (en xs) = some (xs.l.map en) := rfl
theorem ls_list (xs : List α) : lstD (en xs) = some (xs.map en) := rfl
/-! built-ins -/
theorem q_lenL (xs : List α) : primD .len [en xs] = some (en (xs.length : Int)) := by show some (PyData.int (xs.map en).length) = _; rw [List.length_map]; rfl
theorem q_lenT (xs : Tu α) : primD .len [en xs] = some (en (xs.l.length : Int)) := by show some (PyData.int (xs.l.map en).length) = _; rw [List.length_map]; rfl
theorem q_tupL (xs : List α) : primD .tuple [en xs] = some (en (Tu.mk xs)) := rfl
theorem q_tupT (xs : Tu α) : primD .tuple [en xs] = some (en xs) := rfl
theorem q_listL (xs : List α) : primD .list [en xs] = some (en xs) := rfl
theorem q_listT (xs : Tu α) : primD .list [en xs] = some (en xs.l) := rfl
theorem q_all (bs : List Bool) : primD .all [en bs] = some (en (bs.all id)) := by show (boolsD (bs.map .bool)).map _ = _; rw [boolsD_en bs]; rfl
theorem q_any (bs : List Bool) : primD .any [en bs] = some (en (bs.any id)) := by show (boolsD (bs.map .bool)).map _ = _; rw [boolsD_en bs]; rfl
theorem q_sum (ns : List Int) : primD .sum [en ns] = some (en ns.sum) := by show (intsD (ns.map .int)).map _ = _; rw [intsD_en ns]; rfl
theorem q_max (a b : Int) : primD .max [en a, en b] = some (en (if b > a then b else a)) := rfl
theorem q_min (a b : Int) : primD .min [en a, en b] = some (en (if b < a then b else a)) := rfl
theorem q_int (a : Int) : primD .int [en a] = some (en a) := rfl
theorem q_abs (a : Int) : primD .abs [en a] = some (en (if a < 0 then -a else a)) := rfl
/-! numbers in a row -/
def rgI (a b : Int) : List Int := (List.range (b - a).toNat).map fun i : Nat => a + (i : Int)
theorem g_rng (a b : Int) : lift (rngD (en a) (en b)) = gd (RgOk a b) (rt ((rgI a b).map en)) := by
  have : rngD (en a) (en b) = if RgOk a b then some ((rgI a b).map en) else none := by
    show (if RgOk a b then some (rangeI a b) else none) = _
    unfold rangeI rgI
    rw [List.map_map]; rfl
  rw [this, lift_gd]
theorem rgI_len (a b : Int) : (rgI a b).length = (b - a).toNat := by unfold rgI; simp
theorem mem_rgI {a b x : Int} : x ∈ rgI a b ↔ a ≤ x ∧ x < b := by
  unfold rgI
  simp only [List.mem_map, List.mem_range]
  constructor
  · rintro ⟨i, h, rfl⟩; omega
  · rintro ⟨h1, h2⟩
    exact ⟨(x - a).toNat, by omega, by omega⟩
theorem rgI_rg (n : Nat) : rgI 0 n = rg n := by unfold rgI rg; simp
theorem rgI_at {a b : Int} {i : Nat} (h : i < (rgI a b).length) : (rgI a b)[i] = a + i := by
  have : (rgI a b)[i]? = some (a + (i : Int)) := by
    rw [rgI_len] at h
    unfold rgI
    rw [List.getElem?_map, List.getElem?_range h]; rfl
  rw [List.getElem?_eq_getElem h] at this
  exact Option.some.inj this
theorem rgI_srt (a b : Int) : (rgI a b).Pairwise (· < ·) := by
  unfold rgI
  rw [List.pairwise_map]
  exact List.pairwise_lt_range.imp fun {a b} h => by omega
theorem rgOk_small {a b : Int} (h1 : -1000000 ≤ a) (h2 : a ≤ 1000000) (h3 : -1000000 ≤ b) (h4 : b ≤ 1000000) : RgOk a b := ⟨by omega, by omega, by omega, by omega, by omega⟩
def toI (x : D) : W (Option Int) := fun Q => ∃ i, x = .int i ∧ Q (some i)
theorem toI_en (a : Int) : toI (en a) = rt (some a) := by
  funext Q; exact propext ⟨fun ⟨i, e, q⟩ => by cases e; exact q, fun q => ⟨a, rfl, q⟩⟩
theorem getD_int (a : Int) : PyData.int ((some a).getD 0) = en a := rfl
/-! comprehensions -/
def lcM {α : Type} : List α → (α → W (Option D)) → W (List D)
  | [], _ => rt []
  | a :: as, st => bd (st a) fun o => bd (lcM as st) fun r => rt (o.toList ++ r)
theorem lcW_en : ∀ (xs : List α) (st : D → W (Option D)), lcW (xs.map en) st = lcM xs fun a => st (en a)
  | [], _ => rfl
  | a :: as, st => by
    funext Q
    show st (en a) (fun o => lcW (as.map en) st fun r => Q (o.toList ++ r)) = st (en a) fun o => lcM as (fun a => st (en a)) fun r => Q (o.toList ++ r)
    rw [lcW_en as st]
theorem lcM_all {γ : Type} (xs : List γ) (g : γ → β) : (lcM xs fun a => rt (some (en (g a)))) = rt ((xs.map g).map en) := by
  induction xs with
  | nil => rfl
  | cons a xs ih => show bd (rt _) (fun o => bd (lcM xs _) _) = _; rw [ih]; rfl
theorem lcM_if {γ : Type} (xs : List γ) (p : γ → Bool) (g : γ → β) : (lcM xs fun a => rt (if p a = true then some (en (g a)) else none)) = rt (((xs.filter p).map g).map en) := by
  induction xs with
  | nil => rfl
  | cons a xs ih =>
    show bd (rt _) (fun o => bd (lcM xs _) _) = _
    rw [ih]
    cases h : p a
    · rw [List.filter_cons_of_neg (by simp [h])]; rfl
    · rw [List.filter_cons_of_pos h]; rfl
theorem lcM_gd {γ : Type} (xs : List γ) (c : γ → Prop) (g : γ → Option D) : (lcM xs fun a => gd (c a) (rt (g a))) = gd (∀ a ∈ xs, c a) (lcM xs fun a => rt (g a)) := by
  induction xs with
  | nil => funext Q; exact propext ⟨fun h => ⟨by simp, h⟩, fun h => h.2⟩
  | cons a xs ih =>
    show bd (gd _ (rt _)) (fun o => bd (lcM xs _) _) = gd _ (bd (rt _) fun o => bd (lcM xs _) _)
    rw [ih]
    funext Q
    refine propext ⟨fun h => ⟨fun b hb => (List.mem_cons.mp hb).elim (fun e => e ▸ h.1) (h.2.1 b), h.2.2⟩, fun h => ⟨h.1 a (List.mem_cons_self ..), fun b hb => h.1 b (List.mem_cons_of_mem _ hb), h.2⟩⟩
/-- by implications -/
theorem lcM_imp {γ : Type} {xs : List γ} {st : γ → W (Option D)} {g : γ → Option D} {Q : List D → Prop} (h : ∀ a ∈ xs, ∀ K : Option D → Prop, K (g a) → st a K) (q : Q (xs.filterMap g)) : lcM xs st Q := by
  induction xs generalizing Q with
  | nil => exact q
  | cons a xs ih =>
    refine h a (List.mem_cons_self ..) _ (ih (fun b hb => h b (List.mem_cons_of_mem _ hb)) ?_)
    cases hg : g a with
    | none => rw [List.filterMap_cons_none hg] at q; exact q
    | some x => rw [List.filterMap_cons_some hg] at q; exact q
theorem lcM_congr {γ : Type} {xs : List γ} {st st' : γ → W (Option D)} (h : ∀ a ∈ xs, st a = st' a) : lcM xs st = lcM xs st' := by
  induction xs with
  | nil => rfl
  | cons a xs ih =>
    show bd (st a) _ = bd (st' a) _
    rw [h a (List.mem_cons_self ..), ih fun b hb => h b (List.mem_cons_of_mem _ hb)]
/-! sizes -/
theorem sz {n : Nat} (h : n ≤ 1000) : (n ≤ sizeLine) = True := eq_true (small_le h)
theorem sz_lt {n : Nat} (h : n ≤ 1000) : (n < sizeLine) = True := eq_true (small_lt (by omega))
theorem szl {n : Nat} (h : n ≤ 1000000) : n ≤ sizeLine := Nat.le_trans h (by decide)
theorem szt {n : Nat} (h : n ≤ 1000000) : n < sizeLine := Nat.lt_of_le_of_lt h (by decide)
end
end PD
set_option maxHeartbeats 4000000
/-! PEb: what compact text means, as readings put together; the tactic px. -/
namespace PD
open PySem L2
section
variable {C : Calls} {ρ : Nv} {K : Ko}
def bo (C : Calls) (e : E) (ρ : Nv) : W D := bor e ρ (ev C e ρ)
def ar (C : Calls) (e : E) (ρ : Nv) : W B := arg e ρ (ev C e ρ)
theorem wbo_var (i : Nat) : bo C (.var i) ρ = lift (lookB ρ i) := rfl
theorem ar_var (i : Nat) : ar C (.var i) ρ = lift (lookA ρ i) := rfl
theorem bo_cst (d : D) : bo C (.cst d) ρ = rt d := rfl
theorem bo_bin (op : BOp) (a b : E) : bo C (.bin op a b) ρ = ev C (.bin op a b) ρ := rfl
theorem bo_neg (a : E) : bo C (.neg a) ρ = ev C (.neg a) ρ := rfl
theorem bo_not (a : E) : bo C (.not a) ρ = ev C (.not a) ρ := rfl
theorem bo_and (a b : E) : bo C (.and a b) ρ = ev C (.and a b) ρ := rfl
theorem bo_or (a b : E) : bo C (.or a b) ρ = ev C (.or a b) ρ := rfl
theorem bo_cmp (o : COp) (a b : E) : bo C (.cmp o a b) ρ = ev C (.cmp o a b) ρ := rfl
theorem bo_chain (o p : COp) (a b c : E) : bo C (.chain o p a b c) ρ = ev C (.chain o p a b c) ρ := rfl
theorem bo_ife (c : T) (a b : E) : bo C (.ife c a b) ρ = ev C (.ife c a b) ρ := rfl
theorem bo_tup (es : Es) : bo C (.tup es) ρ = ev C (.tup es) ρ := rfl
theorem bo_lst (es : Es) : bo C (.lst es) ρ = ev C (.lst es) ρ := rfl
theorem bo_dnew : bo C .dnew ρ = ev C .dnew ρ := rfl
theorem bo_idx (a b : E) : bo C (.idx a b) ρ = ev C (.idx a b) ρ := rfl
theorem bo_slc (a : E) (lo hi : Eo) : bo C (.slc a lo hi) ρ = ev C (.slc a lo hi) ρ := rfl
theorem bo_rev (a : E) : bo C (.rev a) ρ = ev C (.rev a) ρ := rfl
theorem bo_call (f : Nat) (as : Es) : bo C (.call f as) ρ = ev C (.call f as) ρ := rfl
theorem bo_prim (p : Prim) (as : Es) : bo C (.prim p as) ρ = ev C (.prim p as) ρ := rfl
theorem bo_isi (a : E) (ts : List Ty) : bo C (.isi a ts) ρ = ev C (.isi a ts) ρ := rfl
theorem bo_lc (vs : List Nat) (g : G) (it : It) (c : To) (e : E) : bo C (.lc vs g it c e) ρ = ev C (.lc vs g it c e) ρ := rfl
theorem bo_rg (t : Bool) (lo : Eo) (hi : E) : bo C (.rg t lo hi) ρ = ev C (.rg t lo hi) ρ := rfl
/-- what is handed on -/
def shW (A : W D) : W B := bd A fun d => rt (B.sh d)
theorem sh_rt (d : D) : shW (rt d) = rt (.sh d) := rfl
theorem sh_gd (c : Prop) (A : W D) : shW (gd c A) = gd c (shW A) := rfl
theorem sh_bd {α : Type} (A : W α) (f : α → W D) : shW (bd A f) = bd A fun x => shW (f x) := rfl
theorem ar_cst (d : D) : ar C (.cst d) ρ = rt (.sh d) := rfl
theorem ar_bin (op : BOp) (a b : E) : ar C (.bin op a b) ρ = shW (ev C (.bin op a b) ρ) := rfl
theorem ar_neg (a : E) : ar C (.neg a) ρ = shW (ev C (.neg a) ρ) := rfl
theorem ar_not (a : E) : ar C (.not a) ρ = shW (ev C (.not a) ρ) := rfl
theorem ar_and (a b : E) : ar C (.and a b) ρ = shW (ev C (.and a b) ρ) := rfl
theorem ar_or (a b : E) : ar C (.or a b) ρ = shW (ev C (.or a b) ρ) := rfl
theorem ar_cmp (o : COp) (a b : E) : ar C (.cmp o a b) ρ = shW (ev C (.cmp o a b) ρ) := rfl
theorem ar_chain (o p : COp) (a b c : E) : ar C (.chain o p a b c) ρ = shW (ev C (.chain o p a b c) ρ) := rfl
theorem ar_ife (c : T) (a b : E) : ar C (.ife c a b) ρ = shW (ev C (.ife c a b) ρ) := rfl
theorem ar_tup (es : Es) : ar C (.tup es) ρ = shW (ev C (.tup es) ρ) := rfl
theorem ar_lst (es : Es) : ar C (.lst es) ρ = shW (ev C (.lst es) ρ) := rfl
theorem ar_dnew : ar C .dnew ρ = shW (ev C .dnew ρ) := rfl
theorem ar_idx (a b : E) : ar C (.idx a b) ρ = shW (ev C (.idx a b) ρ) := rfl
theorem ar_slc (a : E) (lo hi : Eo) : ar C (.slc a lo hi) ρ = shW (ev C (.slc a lo hi) ρ) := rfl
theorem ar_rev (a : E) : ar C (.rev a) ρ = shW (ev C (.rev a) ρ) := rfl
theorem ar_call (f : Nat) (as : Es) : ar C (.call f as) ρ = shW (ev C (.call f as) ρ) := rfl
theorem ar_prim (p : Prim) (as : Es) : ar C (.prim p as) ρ = shW (ev C (.prim p as) ρ) := rfl
theorem ar_isi (a : E) (ts : List Ty) : ar C (.isi a ts) ρ = shW (ev C (.isi a ts) ρ) := rfl
theorem ar_lc (vs : List Nat) (g : G) (it : It) (c : To) (e : E) : ar C (.lc vs g it c e) ρ = shW (ev C (.lc vs g it c e) ρ) := rfl
theorem ar_rg (t : Bool) (lo : Eo) (hi : E) : ar C (.rg t lo hi) ρ = shW (ev C (.rg t lo hi) ρ) := rfl
/-! expressions -/
theorem e_var (i : Nat) : ev C (.var i) ρ = lift (look ρ i) := rfl
theorem e_cst (d : D) : ev C (.cst d) ρ = rt d := rfl
theorem e_bin (op : BOp) (a b : E) : ev C (.bin op a b) ρ = bd (bo C a ρ) fun x => bd (bo C b ρ) fun y => lift (binD op x y) := rfl
theorem e_neg (a : E) : ev C (.neg a) ρ = bd (bo C a ρ) fun x => lift (negD x) := rfl
theorem e_not (a : E) : ev C (.not a) ρ = bd (bo C a ρ) fun x => bd (lift (truD x)) fun b => rt (en (!b)) := rfl
theorem e_and (a b : E) : ev C (.and a b) ρ = bd (ev C a ρ) fun x => bd (lift (truD x)) fun t => if t = true then ev C b ρ else rt x := by
  funext Q; show (ev C a ρ fun x => lift (truD x) fun t => _) = (ev C a ρ fun x => lift (truD x) fun t => _)
  congr 1; funext x; congr 1; funext t; cases t <;> rfl
theorem e_or (a b : E) : ev C (.or a b) ρ = bd (ev C a ρ) fun x => bd (lift (truD x)) fun t => if t = true then rt x else ev C b ρ := by
  funext Q; show (ev C a ρ fun x => lift (truD x) fun t => _) = (ev C a ρ fun x => lift (truD x) fun t => _)
  congr 1; funext x; congr 1; funext t; cases t <;> rfl
theorem e_cmp (o : COp) (a b : E) : ev C (.cmp o a b) ρ = bd (bo C a ρ) fun x => bd (bo C b ρ) fun y => lift (copD o x y) := rfl
theorem e_chain (o p : COp) (a b c : E) : ev C (.chain o p a b c) ρ = bd (bo C a ρ) fun x => bd (bo C b ρ) fun y => bd (lift (copD o x y)) fun z => bd (lift (truD z)) fun t => if t = true then bd (bo C c ρ) fun z => lift (copD p y z) else rt (en false) := by
  funext Q; show (bor a ρ (ev C a ρ) fun x => bor b ρ (ev C b ρ) fun y => lift (copD o x y) fun z => lift (truD z) fun t => _) = (bor a ρ (ev C a ρ) fun x => bor b ρ (ev C b ρ) fun y => lift (copD o x y) fun z => lift (truD z) fun t => _)
  congr 1; funext x; congr 1; funext y; congr 1; funext z; congr 1; funext t; cases t <;> rfl
theorem e_ife (c : T) (a b : E) : ev C (.ife c a b) ρ = bd (tst C c ρ) fun t => if t = true then ev C a ρ else ev C b ρ := by
  funext Q; show (tst C c ρ fun t => _) = (tst C c ρ fun t => _)
  congr 1; funext t; cases t <;> rfl
theorem e_tup (es : Es) : ev C (.tup es) ρ = bd (evs C es ρ) fun ds => gd (ds.length ≤ sizeLine) (rt (.tuple ds)) := rfl
theorem e_lst (es : Es) : ev C (.lst es) ρ = bd (evs C es ρ) fun ds => gd (ds.length ≤ sizeLine) (rt (.list ds)) := rfl
theorem e_dnew : ev C .dnew ρ = rt (.dict []) := rfl
theorem e_idx (a i : E) : ev C (.idx a i) ρ = bd (bo C a ρ) fun x => bd (ev C i ρ) fun y => lift (idxD x y) := rfl
theorem e_slc (a : E) (lo hi : Eo) : ev C (.slc a lo hi) ρ = bd (bo C a ρ) fun x => bd (evo C lo ρ) fun l => bd (evo C hi ρ) fun h => lift (slcD x l h) := rfl
theorem e_rev (a : E) : ev C (.rev a) ρ = bd (bo C a ρ) fun x => lift (revD x) := rfl
theorem e_call (f : Nat) (as : Es) : ev C (.call f as) ρ = bd (eva C as ρ) fun bs => C f bs := rfl
theorem e_prim (p : Prim) (as : Es) : ev C (.prim p as) ρ = bd (evb C as ρ) fun ds => lift (primD p ds) := rfl
theorem e_isi (a : E) (ts : List Ty) : ev C (.isi a ts) ρ = bd (bo C a ρ) fun x => rt (en (isiD x ts)) := rfl
theorem e_lc (vs : List Nat) (g : G) (it : It) (c : To) (e : E) : ev C (.lc vs g it c e) ρ = gd (free ρ vs = true) (bd (evi C true it ρ) fun ds => bd (lcW ds fun d => bd (lift (asg g d (wipeN ρ vs))) fun ρ' => bd (evc C c ρ') fun t => if t = true then bd (ev C e ρ') fun y => rt (some y) else rt none) fun r => rt (.list r)) := by
  funext Q
  show (free ρ vs = true ∧ evi C true it ρ fun ds => lcW ds _ _) = (free ρ vs = true ∧ evi C true it ρ fun ds => lcW ds _ _)
  congr 1; congr 1; funext ds; congr 1; funext d K; show (lift _ fun ρ' => evc C c ρ' fun t => _) = (lift _ fun ρ' => evc C c ρ' fun t => _)
  congr 1; funext ρ'; congr 1; funext t; cases t <;> rfl
theorem e_rg (tup : Bool) (lo : Eo) (hi : E) : ev C (.rg tup lo hi) ρ = bd (evo C lo ρ) fun l => bd (ev C hi ρ) fun h => bd (lift (rngD (.int (l.getD 0)) h)) fun ds => rt (if tup = true then .tuple ds else .list ds) := by
  cases tup <;> rfl
theorem wt_and (a b : T) : tst C (.and a b) ρ = bd (tst C a ρ) fun c => if c = true then tst C b ρ else rt false := by
  funext Q; show (tst C a ρ fun t => _) = (tst C a ρ fun t => _)
  congr 1; funext t; cases t <;> rfl
theorem wt_or (a b : T) : tst C (.or a b) ρ = bd (tst C a ρ) fun c => if c = true then rt true else tst C b ρ := by
  funext Q; show (tst C a ρ fun t => _) = (tst C a ρ fun t => _)
  congr 1; funext t; cases t <;> rfl
theorem wt_not (a : T) : tst C (.not a) ρ = bd (tst C a ρ) fun c => rt (!c) := rfl
theorem wt_e (a : E) : tst C (.e a) ρ = bd (bo C a ρ) fun x => lift (truD x) := rfl
theorem vs_nil : evs C .nil ρ = rt [] := rfl
theorem vs_cons (e : E) (r : Es) : evs C (.cons e r) ρ = bd (ev C e ρ) fun x => bd (evs C r ρ) fun xs => rt (x :: xs) := rfl
theorem vs_star (e : E) (r : Es) : evs C (.star e r) ρ = bd (bo C e ρ) fun x => bd (lift (ltD x)) fun ys => bd (evs C r ρ) fun xs => rt (ys ++ xs) := rfl
theorem vb_nil : evb C .nil ρ = rt [] := rfl
theorem vb_cons (e : E) (r : Es) : evb C (.cons e r) ρ = bd (bo C e ρ) fun x => bd (evb C r ρ) fun xs => rt (x :: xs) := rfl
theorem va_nil : eva C .nil ρ = rt [] := rfl
theorem va_cons (e : E) (r : Es) : eva C (.cons e r) ρ = bd (ar C e ρ) fun x => bd (eva C r ρ) fun xs => rt (x :: xs) := rfl
theorem vo_no : evo C .no ρ = rt none := rfl
theorem vo_yes (e : E) : evo C (.yes e) ρ = bd (ev C e ρ) toI := rfl
theorem vc_no : evc C .no ρ = rt true := rfl
theorem vc_yes (t : T) : evc C (.yes t) ρ = tst C t ρ := rfl
theorem vi_val (e : E) : evi C true (.val e) ρ = bd (bo C e ρ) fun x => lift (ltD x) := rfl
theorem vi_valf (e : E) : evi C false (.val e) ρ = bd (ev C e ρ) fun x => lift (ltD x) := rfl
theorem vi_rng (b : Bool) (lo : Eo) (hi : E) : evi C b (.rng lo hi) ρ = bd (evo C lo ρ) fun l => bd (ev C hi ρ) fun h => lift (rngD (.int (l.getD 0)) h) := rfl
theorem vi_zip (e f : E) : evi C true (.zip e f) ρ = bd (bo C e ρ) fun x => bd (bo C f ρ) fun y => lift (zipD x y) := rfl
theorem vi_zipf (e f : E) : evi C false (.zip e f) ρ = bd (ev C e ρ) fun x => bd (ev C f ρ) fun y => lift (zipD x y) := rfl
theorem getD_0 : PyData.int ((none : Option Int).getD 0) = en (0 : Int) := rfl
theorem getD_s (a : Int) : PyData.int ((some a : Option Int).getD 0) = en a := rfl
/-! assignment -/
theorem a_v (i : Nat) (d : D) : asg (.v i) d ρ = some (ρ.set i (some (.sh d))) := by unfold asg; rfl
theorem a_p {α β : Type} [Enc α] [Enc β] (g h : G) (p : α × β) : asg (.tup [g, h]) (en p) ρ = (asg g (en p.1) ρ).bind (asg h (en p.2)) := by
  show asg (.tup [g, h]) (.tuple [en p.1, en p.2]) ρ = _
  rw [asg_t, asgs_c]
  congr 1
  funext r
  rw [asgs_c]
  cases asg h (en p.2) r with
  | none => rfl
  | some x => exact asgs_n
/-! statements -/
theorem x_nil : execs C .nil ρ K = K.nx ρ := rfl
theorem x_cons (s : Sm) (r : Ss) : execs C (.cons s r) ρ K = exec C s ρ { K with nx := fun ρ' => execs C r ρ' K } := rfl
theorem x_ite (c : T) (a b : Ss) : exec C (.ite c a b) ρ K = tst C c ρ fun t => if t = true then execs C a ρ K else execs C b ρ K := rfl
end
theorem cf_code {prog : List Fn} {k f np ns : Nat} {body : Ss} {bs : List B} (h : prog[f]? = some (.code np ns body)) (hl : bs.length = np) (hr : bs.all isRd = true) : callF prog (k + 1) f bs = fun Q => execs (callF prog k) body (startN ns bs) (koF Q) := by
  funext Q
  show (match prog[f]? with
    | some (.code np ns body) => bs.length = np ∧ bs.all isRd = true ∧ execs (callF prog k) body (startN ns bs) (koF Q)
    | some (.ext np sem) => bs.length = np ∧ 1 ≤ k ∧ sem bs Q
    | none => False) = _
  rw [h]
  exact propext ⟨fun h => h.2.2, fun h => ⟨hl, hr, h⟩⟩
end PD
set_option maxHeartbeats 4000000
/-! PEc: typed dicts, enumerate, index; pz with them (py). -/
namespace PD
open PySem L2
/-- a dict, by its entries -/
structure Dct (κ ν : Type) where
  l : List (κ × ν)
instance {κ ν : Type} [Enc κ] [Enc ν] : Enc (Dct κ ν) := ⟨fun d => .dict (d.l.map fun p => (en p.1, en p.2))⟩
/-- sorts of keys -/
class KEnc (κ : Type) [Enc κ] where
  key : ∀ k : κ, isKey (en k) = true
  knd : ∀ a b : κ, kindOk [(en a, .none)] (en b) = true
instance : KEnc Int := ⟨fun _ => rfl, fun _ _ => rfl⟩
theorem key1_int (i : Int) : isKey1 (en i) = true := rfl
instance : KEnc (Tu Int) := ⟨fun k => by
  show (k.l.map en).all isKey1 = true
  rw [List.all_map, List.all_eq_true]; intro x _; rfl, fun _ _ => rfl⟩
instance : KEnc (Int × Int) := ⟨fun _ => rfl, fun _ _ => rfl⟩
namespace Dct
variable {κ ν : Type} [DecidableEq κ]
def look? : List (κ × ν) → κ → Option ν
  | [], _ => none
  | p :: l, k => if p.1 = k then some p.2 else look? l k
def get? (d : Dct κ ν) (k : κ) : Option ν := look? d.l k
theorem look_find (l : List (κ × ν)) (k : κ) : (l.find? fun p => decide (p.1 = k)).map (·.2) = look? l k := by
  induction l with
  | nil => rfl
  | cons p l ih =>
    unfold look?
    by_cases h : p.1 = k
    · rw [List.find?_cons_of_pos (by simpa using h), if_pos h]; rfl
    · rw [List.find?_cons_of_neg (by simpa using h), if_neg h, ih]
theorem look_map (k j : κ) (v : ν) : ∀ l : List (κ × ν), look? (l.map fun p => if p.1 = k then (p.1, v) else p) j = if j = k then (look? l j).map (fun _ => v) else look? l j
  | [] => by unfold look?; simp [look?]
  | p :: l => by
    have ih := look_map k j v l
    rw [List.map_cons]
    unfold look?
    by_cases hp : p.1 = k
    · rw [if_pos hp]
      by_cases hj : j = k
      · rw [if_pos hj, if_pos (hp.trans hj.symm), if_pos (show p.1 = j from hp.trans hj.symm)]; rfl
      · have : p.1 ≠ j := fun e => hj (e ▸ hp)
        rw [if_neg hj] at ih ⊢
        rw [if_neg this, if_neg (show ¬ p.1 = j from this), ih]
    · rw [if_neg hp]
      by_cases hpj : p.1 = j
      · have : j ≠ k := fun e => hp (hpj.trans e)
        rw [if_pos hpj, if_neg this]; rw [if_pos hpj]
      · rw [if_neg hpj, ih]; rw [if_neg hpj]
theorem look_app (k j : κ) (v : ν) : ∀ l : List (κ × ν), look? (l ++ [(k, v)]) j = (look? l j).or (if k = j then some v else none)
  | [] => by simp [look?]
  | p :: l => by
    rw [List.cons_append]
    unfold look?
    by_cases h : p.1 = j
    · rw [if_pos h, if_pos h]; rfl
    · rw [if_neg h, if_neg h, look_app k j v l]
theorem look_any (k : κ) : ∀ l : List (κ × ν), (look? l k).isSome = l.any fun p => decide (p.1 = k)
  | [] => rfl
  | p :: l => by
    unfold look?
    by_cases h : p.1 = k
    · rw [if_pos h]; simp [h]
    · rw [if_neg h, look_any k l]; simp [h]
def has (d : Dct κ ν) (k : κ) : Bool := (d.get? k).isSome
def getD [Inhabited ν] (d : Dct κ ν) (k : κ) : ν := (d.get? k).getD default
def put (d : Dct κ ν) (k : κ) (v : ν) : Dct κ ν := ⟨if d.l.any (fun p => decide (p.1 = k)) then d.l.map (fun p => if p.1 = k then (p.1, v) else p) else d.l ++ [(k, v)]⟩
def keys (d : Dct κ ν) : List κ := d.l.map (·.1)
theorem has_iff (d : Dct κ ν) (k : κ) : d.has k = true ↔ k ∈ d.keys := by
  unfold has get? keys
  rw [look_any, List.any_eq_true]
  simp only [decide_eq_true_eq, List.mem_map]
theorem get?_put (d : Dct κ ν) (k j : κ) (v : ν) : (d.put k v).get? j = if j = k then some v else d.get? j := by
  show look? (if d.l.any (fun p => decide (p.1 = k)) then _ else _) j = if j = k then some v else look? d.l j
  by_cases h : (d.l.any fun p => decide (p.1 = k)) = true
  · rw [if_pos h, look_map]
    by_cases hj : j = k
    · subst hj
      rw [← look_any] at h
      obtain ⟨x, hx⟩ := Option.isSome_iff_exists.mp h
      rw [if_pos rfl, if_pos rfl, hx]; rfl
    · rw [if_neg hj, if_neg hj]
  · rw [if_neg h, look_app]
    by_cases hj : j = k
    · subst hj
      rw [← look_any] at h
      have hn : look? d.l j = none := by simpa using h
      rw [if_pos rfl, if_pos rfl, hn]; rfl
    · rw [if_neg hj, if_neg fun e => hj e.symm]
      cases look? d.l j <;> rfl
theorem len_put (d : Dct κ ν) (k : κ) (v : ν) : (d.put k v).l.length ≤ d.l.length + 1 := by
  unfold put
  split
  · simp
  · simp
theorem keys_put (d : Dct κ ν) (k : κ) (v : ν) : (d.put k v).keys = if k ∈ d.keys then d.keys else d.keys ++ [k] := by
  have hk : (d.l.any fun p => decide (p.1 = k)) = decide (k ∈ d.keys) := by
    rw [Bool.eq_iff_iff, List.any_eq_true, decide_eq_true_iff]
    unfold keys
    simp [List.mem_map]
  unfold put
  rw [hk]
  by_cases h : k ∈ d.keys
  · simp only [h, decide_true, if_true]
    unfold keys
    rw [List.map_map]
    apply List.map_congr_left
    intro p _
    simp only [Function.comp]
    split <;> rfl
  · simp only [h, decide_false, Bool.false_eq_true, if_false]
    unfold keys
    simp
end Dct
section
variable {κ ν : Type} [DecidableEq κ] [Enc κ] [LEnc κ] [KEnc κ] [Enc ν]
theorem dget_en (d : Dct κ ν) (k : κ) : dget (d.l.map fun p => (en p.1, en p.2)) (en k) = (d.get? k).map en := by
  unfold dget Dct.get?
  rw [List.find?_map, Option.map_map, ← Dct.look_find, Option.map_map]
  have : ((fun p : D × D => PyData.eqv p.1 (en k)) ∘ fun p : κ × ν => (en p.1, en p.2)) = fun p => decide (p.1 = k) := by
    funext p; exact LEnc.eqv p.1 k
  rw [this]; rfl
theorem kind_en (d : Dct κ ν) (k : κ) : kindOk (d.l.map fun p => (en p.1, en p.2)) (en k) = true := by
  unfold kindOk
  rw [List.all_map, List.all_eq_true]
  intro p _
  have h := KEnc.knd p.1 k
  unfold kindOk at h
  rw [List.all_cons, List.all_nil, Bool.and_true] at h
  exact h
theorem x_dct [Inhabited ν] (d : Dct κ ν) (k : κ) : lift (idxD (en d) (en k)) = gd (d.has k = true) (rt (en (d.getD k))) := by
  have : idxD (en d) (en k) = (d.get? k).map en := by
    show (if (isKey (en k) && kindOk _ (en k)) = true then dget _ (en k) else none) = _
    rw [KEnc.key, kind_en, dget_en]; rfl
  rw [this]
  unfold Dct.has Dct.getD
  cases h : d.get? k with
  | none => funext Q; simp [lift, gd, h]
  | some v => funext Q; simp [lift, gd, rt, h]
theorem c_inD (d : Dct κ ν) (k : κ) : copD .inn (en k) (en d) = some (en (d.has k)) := by
  show (if (isKey (en k) && kindOk _ (en k)) = true then some (PyData.bool (if false = true then _ else (dget _ (en k)).isSome)) else none) = _
  rw [KEnc.key, kind_en, dget_en]
  unfold Dct.has
  simp only [Option.isSome_map]; rfl
theorem c_ninD (d : Dct κ ν) (k : κ) : copD .nin (en k) (en d) = some (en (!d.has k)) := by
  show (if (isKey (en k) && kindOk _ (en k)) = true then some (PyData.bool (if true = true then !(dget _ (en k)).isSome else _)) else none) = _
  rw [KEnc.key, kind_en, dget_en]
  unfold Dct.has
  simp only [Option.isSome_map]; rfl
theorem dput_en (d : Dct κ ν) (k : κ) (v : ν) : PyData.dict (dput (d.l.map fun p => (en p.1, en p.2)) (en k) (en v)) = en (d.put k v) := by
  show _ = PyData.dict _
  congr 1
  unfold dput Dct.put
  rw [List.any_map]
  have e : ((fun p : D × D => PyData.eqv p.1 (en k)) ∘ fun p : κ × ν => (en p.1, en p.2)) = fun p => decide (p.1 = k) := by
    funext p; exact LEnc.eqv p.1 k
  rw [e]
  by_cases h : (d.l.any fun p => decide (p.1 = k)) = true
  · rw [if_pos h, if_pos h, List.map_map, List.map_map]
    apply List.map_congr_left
    intro p _
    simp only [Function.comp]
    rw [LEnc.eqv]
    by_cases hp : p.1 = k <;> simp [hp]
  · rw [if_neg h, if_neg h, List.map_append]; rfl
theorem s_dct (d : Dct κ ν) (k : κ) (v : ν) : lift (setD (en d) (en k) (en v)) = gd (d.l.length < sizeLine) (rt (en (d.put k v))) := by
  have : setD (en d) (en k) (en v) = if d.l.length < sizeLine then some (en (d.put k v)) else none := by
    show (if (isKey (en k) && kindOk _ (en k) && decide ((d.l.map fun p => (en p.1, en p.2)).length < sizeLine)) = true then some (PyData.dict (dput _ (en k) (en v))) else none) = _
    rw [KEnc.key, kind_en, dput_en, List.length_map]
    simp
  rw [this, lift_gd]
theorem isL_d (d : Dct κ ν) : isL (en d) = true := rfl
theorem q_lenD (d : Dct κ ν) : primD .len [en d] = some (en (d.l.length : Int)) := by show some (PyData.int (d.l.map _).length) = _; rw [List.length_map]; rfl
theorem q_listD (d : Dct κ ν) : primD .list [en d] = some (en d.keys) := by
  show some (PyData.list ((d.l.map fun p => ((en p.1 : D), (en p.2 : D))).map (·.1))) = _
  rw [List.map_map]
  show _ = some (PyData.list (d.keys.map en))
  unfold Dct.keys
  rw [List.map_map]; rfl
end
section
variable {ν : Type} [Enc ν]
theorem d_int (k : Int) (v : ν) : dispD false [(en k, en v)] = some (en (Dct.mk [(k, v)])) := rfl
theorem isTk_tu (k : Tu Int) : isTk (en k) = true := by
  show (k.l.map en).all isKey1 = true
  rw [List.all_map, List.all_eq_true]; intro x _; rfl
theorem d_tu (k : Tu Int) (v : ν) : dispD true [(en k, en v)] = some (en (Dct.mk [(k, v)])) := by
  show (if (decide (1 ≤ 15) && ((isTk (en k)) && true) && !false) = true then some (PyData.dict [(en k, en v)]) else none) = _
  rw [isTk_tu]; rfl
theorem d_pair (k : Int × Int) (v : ν) : dispD true [(en k, en v)] = some (en (Dct.mk [(k, v)])) := rfl
end
section
variable {α : Type} [Enc α]
def enumT (xs : List α) : List (Int × α) := xs.zipIdx.map fun p => ((p.2 : Int), p.1)
theorem enum_en (xs : List α) : enumD (xs.map en) = (enumT xs).map en := by
  unfold enumD enumT
  rw [List.zipIdx_map, List.map_map, List.map_map]; rfl
theorem index_en [DecidableEq α] [LEnc α] (h : LEnc.dp α ≤ 60) (xs : List α) (a : α) : lift (primD .index [en xs, en a]) = gd (a ∈ xs) (rt (en (xs.idxOf a : Int))) := by
  have e : (fun y => PyData.eqv y (en a)) ∘ en = fun y : α => decide (y = a) := by funext y; exact LEnc.eqv y a
  have : primD .index [en xs, en a] = if a ∈ xs then some (en (xs.idxOf a : Int)) else none := by
    show (if ((en a).canLay0 && PyData.canLayAll0 (xs.map en) && decide (min (PyData.depthAll (xs.map en)) (en a).depth ≤ 60) && (xs.map en).any fun y => PyData.eqv y (en a)) = true then some (PyData.int ((xs.map en).findIdx fun y => PyData.eqv y (en a))) else none) = _
    have h1 := LEnc.dep a
    rw [LEnc.lay, layAll_en, List.any_map, List.findIdx_map, e]
    have h2 : (xs.any fun y => decide (y = a)) = decide (a ∈ xs) := by
      rw [Bool.eq_iff_iff, List.any_eq_true, decide_eq_true_iff]
      simp
    have h3 : decide (min (PyData.depthAll (xs.map en)) (PyData.depth (en a)) ≤ 60) = true := by simp; omega
    rw [h2, h3]
    have h4 : xs.findIdx (fun y => decide (y = a)) = xs.idxOf a := by
      unfold List.idxOf
      congr 1
    rw [h4, i_en]
    by_cases ha : a ∈ xs
    · simp [ha]
    · simp [ha]
  rw [this, lift_gd]
theorem mOk_l (xs : List α) : mOk .index (en xs) = true := rfl
end
section
variable {C : Calls} {ρ : Nv}
theorem e_meth (p : Prim) (a : E) (as : Es) : ev C (.meth p a as) ρ = bd (bo C a ρ) fun x => gd (mOk p x = true) (bd (evb C as ρ) fun ds => lift (primD p (x :: ds))) := rfl
theorem e_disp (tk : Bool) (ps : Ps) : ev C (.disp tk ps) ρ = bd (evp C ps ρ) fun qs => lift (dispD tk qs) := rfl
theorem vp_nil : evp C .nil ρ = rt [] := rfl
theorem vp_cons (k v : E) (r : Ps) : evp C (.cons k v r) ρ = bd (ev C k ρ) fun x => bd (ev C v ρ) fun y => bd (evp C r ρ) fun qs => rt ((x, y) :: qs) := rfl
theorem e_sset (a : E) : ev C (.sset a) ρ = bd (bo C a ρ) fun x => lift (ssetD x) := rfl
theorem bo_sset (a : E) : bo C (.sset a) ρ = ev C (.sset a) ρ := rfl
theorem ar_sset (a : E) : ar C (.sset a) ρ = shW (ev C (.sset a) ρ) := rfl
theorem bo_meth (p : Prim) (a : E) (as : Es) : bo C (.meth p a as) ρ = ev C (.meth p a as) ρ := rfl
theorem bo_disp (tk : Bool) (ps : Ps) : bo C (.disp tk ps) ρ = ev C (.disp tk ps) ρ := rfl
theorem ar_meth (p : Prim) (a : E) (as : Es) : ar C (.meth p a as) ρ = shW (ev C (.meth p a as) ρ) := rfl
theorem ar_disp (tk : Bool) (ps : Ps) : ar C (.disp tk ps) ρ = shW (ev C (.disp tk ps) ρ) := rfl
theorem vi_enum (e : E) : evi C true (.enum e) ρ = bd (bo C e ρ) fun x => bd (lift (ltD x)) fun ds => rt (enumD ds) := rfl
theorem vi_enumf (e : E) : evi C false (.enum e) ρ = bd (ev C e ρ) fun x => bd (lift (ltD x)) fun ds => rt (enumD ds) := rfl
theorem vi_rng3 (b : Bool) (lo hi st : E) : evi C b (.rng3 lo hi st) ρ = bd (ev C lo ρ) fun l => bd (ev C hi ρ) fun h => bd (ev C st ρ) fun s => lift (rng3D l h s) := rfl
end
section
variable {p q : Bool} {γ : Sort _}
theorem ii_and {γ : Type _} (x y : γ) : (if p = true then (if q = true then x else y) else y) = if (p && q) = true then x else y := by cases p <;> cases q <;> rfl
theorem ii_or {γ : Type _} (x y : γ) : (if p = true then x else (if q = true then x else y)) = if (p || q) = true then x else y := by cases p <;> cases q <;> rfl
theorem isEmpty_filterB {α : Type} (p : α → Bool) (xs : List α) : (xs.filter p).isEmpty = !(xs.any p) := by
  rw [Bool.eq_iff_iff, List.isEmpty_iff, List.filter_eq_nil_iff]
  simp
theorem gd_ff {α : Type} (c : Prop) : gd c (fun _ : α → Prop => False) = fun _ => False := by funext Q; exact propext ⟨fun h => h.2, fun h => h.elim⟩
end
theorem ite_some {p : Bool} {γ : Type} (x y : γ) : (if p = true then some x else some y) = some (if p = true then x else y) := by cases p <;> rfl
/-- xs[i] = x -/
def pset {α : Type} (xs : List α) (i : Int) (x : α) : List α := xs.set (if i < 0 then (i + xs.length).toNat else i.toNat) x
theorem s_lst {α : Type} [Enc α] (xs : List α) (i : Int) (x : α) : lift (setD (en xs) (en i) (en x)) = gd (IxOk xs.length i) (rt (en (pset xs i x))) := by
  have : setD (en xs) (en i) (en x) = if IxOk xs.length i then some (en (pset xs i x)) else none := by
    show (ixN (xs.map en).length i).map (fun j => PyData.list ((xs.map en).set j (en x))) = _
    unfold ixN IxOk pset
    rw [List.length_map]
    by_cases h0 : 0 ≤ i
    · by_cases h1 : i < xs.length
      · simp only [h0, h1, if_true, show ¬ i < 0 by omega, if_false, show -(xs.length : Int) ≤ i by omega, and_self, Option.map_some, ← List.map_set]; rfl
      · simp [h0, h1]
    · by_cases h1 : -(xs.length : Int) ≤ i
      · simp only [h0, h1, if_true, show i < 0 by omega, if_false, show i < xs.length by omega, and_self, Option.map_some, ← List.map_set]; rfl
      · simp [h0, h1]
  rw [this, lift_gd]
abbrev Ord := Int × Tu (Int × Int)
def od (n : Nat) (ps : List (Int × Int)) : Ord := ((n : Int), ⟨ps⟩)
theorem od_1 (n : Nat) (ps : List (Int × Int)) : (od n ps).1 = (n : Int) := rfl
theorem od_2 (n : Nat) (ps : List (Int × Int)) : (od n ps).2.l = ps := rfl
theorem ordD_od (n : Nat) (ps : List (Int × Int)) : ordD (n : Int) ps = en (od n ps) := rfl
def frzN (ρ : Nv) (i : Nat) : Nv := match ρ[i]? with
  | some (some (.own d)) => ρ.set i (some (.sh d))
  | _ => ρ
theorem x_frz {C : Calls} (i : Nat) (r : Ss) (ρ : Nv) (K : Ko) : execs C (.frz i r) ρ K = execs C r (frzN ρ i) K := rfl
theorem frz_o (d : D) (r : Nv) : frzN (some (.own d) :: r) 0 = some (.sh d) :: r := rfl
theorem frz_h (d : D) (r : Nv) : frzN (some (.sh d) :: r) 0 = some (.sh d) :: r := rfl
theorem frz_s (x : Option B) (r : Nv) (i : Nat) : frzN (x :: r) (i + 1) = x :: frzN r i := by
  unfold frzN
  rw [List.getElem?_cons_succ]
  cases r[i]? with
  | none => rfl
  | some b => cases b with
    | none => rfl
    | some b => cases b <;> rfl
/-- empty ones, of a wanted sort -/
theorem l0_en {α : Type} [Enc α] : PyData.list (List.map en ([] : List α)) = en ([] : List α) := rfl
theorem t0_en {α : Type} [Enc α] : PyData.tuple (List.map en ([] : List α)) = en (Tu.mk ([] : List α)) := rfl
theorem mtE {α : Type} [Enc α] : PyData.list [] = en ([] : List α) := rfl
theorem mtU {α : Type} [Enc α] : PyData.tuple [] = en (Tu.mk ([] : List α)) := rfl
theorem mtD {κ ν : Type} [Enc κ] [Enc ν] : PyData.dict [] = en (Dct.mk ([] : List (κ × ν))) := rfl
theorem sset_en (xs : Tu Int) : lift (ssetD (en xs)) = gd (xs.l.length < 64) (rt (en (sortU xs.l))) := by
  have : ssetD (en xs) = if xs.l.length < 64 then some (en (sortU xs.l)) else none := by
    show (match intsD (xs.l.map .int) with
      | some ns => if ns.length < 64 then some (PyData.list ((sortU ns).map .int)) else none
      | none => none) = _
    rw [intsD_en]; rfl
  rw [this, lift_gd]
theorem ssetL_en (xs : List Int) : lift (ssetD (en xs)) = gd (xs.length < 64) (rt (en (sortU xs))) := by
  have : ssetD (en xs) = if xs.length < 64 then some (en (sortU xs)) else none := by
    show (match intsD (xs.map .int) with
      | some ns => if ns.length < 64 then some (PyData.list ((sortU ns).map .int)) else none
      | none => none) = _
    rw [intsD_en]; rfl
  rw [this, lift_gd]
/-- loops over typed data -/
def forL {α : Type} : List α → (α → Nv → (Nv → Prop) → Prop) → Nv → (Nv → Prop) → Prop
  | [], _, ρ, Q => Q ρ
  | a :: as, st, ρ, Q => st a ρ fun ρ' => forL as st ρ' Q
theorem forW_en {α : Type} [Enc α] : ∀ (xs : List α) (st : D → Nv → (Nv → Prop) → Prop) (ρ : Nv) (Q : Nv → Prop), forW (xs.map en) st ρ Q = forL xs (fun a => st (en a)) ρ Q
  | [], _, _, _ => rfl
  | a :: as, st, ρ, Q => by
    show st (en a) ρ (fun ρ' => forW (as.map en) st ρ' Q) = st (en a) ρ fun ρ' => forL as (fun a => st (en a)) ρ' Q
    congr 1; funext ρ'; exact forW_en as st ρ' Q
/-- an invariant that tells what has been gone through, what is left -/
theorem forL_inv {α : Type} {st : α → Nv → (Nv → Prop) → Prop} {Q : Nv → Prop} (I : List α → Nv → Prop) : ∀ {xs done : List α} {ρ : Nv}, I done ρ → (∀ d a r ρ, done ++ xs = d ++ a :: r → I d ρ → ∀ K : Nv → Prop, (∀ ρ', I (d ++ [a]) ρ' → K ρ') → st a ρ K) → (∀ ρ, I (done ++ xs) ρ → Q ρ) → forL xs st ρ Q
  | [], done, ρ, h, _, q => q ρ (by rw [List.append_nil]; exact h)
  | a :: xs, done, ρ, h, hs, q => by
    refine hs done a xs ρ rfl h _ fun ρ' h' => ?_
    exact forL_inv I (xs := xs) (done := done ++ [a]) h' (fun d b r ρ e => hs d b r ρ (by rw [← e, List.append_assoc]; rfl)) fun ρ hh => q ρ (by rw [List.append_assoc] at hh; exact hh)
/-- a value carried on -/
theorem forL_fold {α σ : Type} {st : α → Nv → (Nv → Prop) → Prop} {Q : Nv → Prop} (R : σ → Nv → Prop) (f : σ → α → σ) : ∀ {xs : List α} {s : σ} {ρ : Nv}, R s ρ → (∀ a ∈ xs, ∀ s ρ, R s ρ → ∀ K : Nv → Prop, (∀ ρ', R (f s a) ρ' → K ρ') → st a ρ K) → (∀ ρ, R (xs.foldl f s) ρ → Q ρ) → forL xs st ρ Q
  | [], s, ρ, h, _, q => q ρ h
  | a :: xs, s, ρ, h, hs, q => hs a (List.mem_cons_self ..) s ρ h _ fun ρ' h' => forL_fold R f (xs := xs) h' (fun b hb => hs b (List.mem_cons_of_mem _ hb)) q
end PD
set_option maxHeartbeats 4000000
/-! PMc: drawn things: works ahead of works; pairs sorted; comprehensions that draw. -/
namespace PD
open PySem L2
/-- p.1 stands ahead of p.2 among names -/
def Ahead (names : List Int) (p : Int × Int) : Prop := ∃ i j : Nat, i < j ∧ names[i]? = some p.1 ∧ names[j]? = some p.2
theorem nodup_at {names : List Int} (nd : names.Nodup) {i j : Nat} {x : Int} (hi : names[i]? = some x) (hj : names[j]? = some x) : i = j := by
  obtain ⟨h1, e1⟩ := List.getElem?_eq_some_iff.mp hi
  obtain ⟨h2, e2⟩ := List.getElem?_eq_some_iff.mp hj
  exact (List.getElem_inj nd).mp (e1.trans e2.symm)
theorem Ahead.trans {names : List Int} (nd : names.Nodup) {a k b : Int} (h1 : Ahead names (a, k)) (h2 : Ahead names (k, b)) : Ahead names (a, b) := by
  obtain ⟨i, j, hij, hi, hj⟩ := h1
  obtain ⟨i', j', hij', hi', hj'⟩ := h2
  have := nodup_at nd hj hi'
  subst this
  exact ⟨i, j', by omega, hi, hj'⟩
theorem Ahead.ne {names : List Int} (nd : names.Nodup) {a b : Int} (h : Ahead names (a, b)) : a ≠ b := fun e => by
  subst e
  obtain ⟨i, j, hij, hi, hj⟩ := h
  have := nodup_at nd hi hj
  omega
theorem rg_nodup (n : Nat) : (rg n).Nodup := (rg_srt n).imp fun h e => by omega
theorem Ahead.inr {names : List Int} {n : Nat} (hp : names.Perm (rg n)) {p : Int × Int} (h : Ahead names p) : InR n p := by
  obtain ⟨i, j, _, hi, hj⟩ := h
  have m1 := mem_rg.mp (hp.mem_iff.mp (List.mem_of_getElem? hi))
  have m2 := mem_rg.mp (hp.mem_iff.mp (List.mem_of_getElem? hj))
  exact ⟨m1.1, m1.2, m2.1, m2.2⟩
theorem rg_at {n i : Nat} (h : i < (rg n).length) : (rg n)[i] = (i : Int) := by
  have : (rg n)[i]? = some (i : Int) := by
    unfold rg
    rw [List.getElem?_map, List.getElem?_range (by rw [rg_len] at h; exact h)]; rfl
  rw [List.getElem?_eq_getElem h] at this
  exact Option.some.inj this
theorem len_inr10 {n : Nat} {qs : List (Int × Int)} (nd : qs.Nodup) (h : ∀ q ∈ qs, InR n q) (hn : n ≤ 10) : qs.length ≤ 100 := by
  have h1 := len_of_sub qs (grid n) nd fun q hq => in_grid (h q hq)
  have h2 := grid_len n
  have : n * n ≤ 10 * 10 := Nat.mul_le_mul hn hn
  omega
theorem q_sortP (qs : List (Int × Int)) : primD .sorted [en qs] = some (en (qs.mergeSort leP)) := by
  show (if sortOk (qs.map ip) = true then some (PyData.list (sortD (qs.map ip))) else none) = _
  rw [if_pos (sortOk_ip qs), sortD_ip]; rfl
theorem lcM_some {α β : Type} [Enc β] {P : β → Prop} {xs : List α} {st : α → W (Option D)} {Q : List D → Prop} (h : ∀ a ∈ xs, ∀ K : Option D → Prop, K none → (∀ b : β, P b → K (some (en b))) → st a K) (q : ∀ bs : List β, (∀ b ∈ bs, P b) → bs.length ≤ xs.length → Q (bs.map en)) : lcM xs st Q := by
  induction xs generalizing Q with
  | nil => exact q [] (by simp) (Nat.le_refl _)
  | cons a xs ih =>
    refine h a (List.mem_cons_self ..) _ ?_ fun b hb => ?_
    · exact ih (fun c hc => h c (List.mem_cons_of_mem _ hc)) fun bs h1 h2 => q bs h1 (by simp only [List.length_cons]; omega)
    · exact ih (fun c hc => h c (List.mem_cons_of_mem _ hc)) fun bs h1 h2 => q (b :: bs) (fun x hx => (List.mem_cons.mp hx).elim (fun e => e ▸ hb) (h1 x)) (by simp only [List.length_cons]; omega)
/-- each item gives one -/
theorem lcM_each {α β : Type} [Enc β] {P : α → β → Prop} {xs : List α} {st : α → W (Option D)} {Q : List D → Prop} (h : ∀ a ∈ xs, ∀ K : Option D → Prop, (∀ b : β, P a b → K (some (en b))) → st a K) (q : ∀ bs : List β, All2 P xs bs → Q (bs.map en)) : lcM xs st Q := by
  induction xs generalizing Q with
  | nil => exact q [] .nil
  | cons a xs ih => exact h a (List.mem_cons_self ..) _ fun b hb => ih (fun c hc => h c (List.mem_cons_of_mem _ hc)) fun bs h1 => q (b :: bs) (.cons hb h1)
/-- what follows from pairs -/
def Rc (ps : List (Int × Int)) (x y : Int) : Prop := ∀ T : Int × Int → Prop, (∀ p ∈ ps, T p) → (∀ a b c, T (a, b) → T (b, c) → T (a, c)) → T (x, y)
theorem Rc.of {ps : List (Int × Int)} {x y : Int} (h : (x, y) ∈ ps) : Rc ps x y := fun T h1 _ => h1 _ h
theorem Rc.trans {ps : List (Int × Int)} {x y z : Int} (h : Rc ps x y) (h' : Rc ps y z) : Rc ps x z := fun T h1 h2 => h2 x y z (h T h1 h2) (h' T h1 h2)
theorem xp0 {x : Int} {l : List (Int × Int)} : True := trivial
theorem cutL_all {α : Type} (xs : List α) : cutL xs none none = xs := by
  unfold cutL
  rw [HT.sIx_none, HT.sIx_none, List.drop_zero, Nat.sub_zero, List.take_length]
theorem popD_snoc {α : Type} [Enc α] (xs : List α) (y : α) : popD ((xs ++ [y]).map en) none = some (en y, xs.map en) := by
  show ((xs ++ [y]).map en).getLast?.map _ = _
  rw [List.map_append]
  show (xs.map en ++ [en y]).getLast?.map _ = _
  rw [List.getLast?_append]
  simp
theorem pix_mapR {α : Type} [Inhabited α] {n : Nat} {f : Int → α} {x : Int} (h0 : 0 ≤ x) (h : x < n) : pix ((rg n).map f) x = f x := by
  obtain ⟨i, rfl⟩ := Int.eq_ofNat_of_zero_le h0
  have hi : i < n := by omega
  unfold pix
  rw [if_neg (by omega), Int.toNat_natCast]
  have : ((rg n).map f)[i]? = some (f i) := by
    rw [List.getElem?_map]
    have h2 : i < (rg n).length := by rw [rg_len]; exact hi
    rw [List.getElem?_eq_getElem h2, rg_at h2]; rfl
  simp [List.getD, this]
end PD
set_option maxHeartbeats 4000000
/-! PMd: what repr shows, of small data; slots of the law. -/
namespace PD
open PySem L2
/-- small data: repr shows it -/
def Shw (d : D) : Prop := ∃ k m, Pl k m d ∧ k ≤ 60 ∧ m ≤ 600000
theorem rep_ok {d : D} (h : Shw d) : lift (primD .repr [d]) = rt (.str d.shown) := by
  obtain ⟨k, m, p, hk, hm⟩ := h
  rw [prim_repr p hk hm, lift_rt]
theorem rep_ne {d : D} (h : Shw d) : copD .ne (.str d.shown) (.str d.shown) = some (en false) := by
  obtain ⟨k, m, p, hk, hm⟩ := h
  exact ne_self p
theorem pl_en {k m : Nat} {i : Int} (h0 : -(10 ^ 18) ≤ i) (h : i ≤ 10 ^ 18) : Pl k m (en i) := .int (by
  have : i.natAbs ≤ 10 ^ 18 := by omega
  exact Nat.lt_of_le_of_lt this (by decide))
theorem shw_int {i : Int} (h0 : -(10 ^ 18) ≤ i) (h : i ≤ 10 ^ 18) : Shw (en i) := ⟨0, 0, pl_en h0 h, by decide, by decide⟩
theorem shw_nat {m : Nat} (h : m ≤ 1000000000) : Shw (en (m : Int)) := shw_int (by omega) (by omega)
theorem shw_unit : Shw (en ()) := ⟨0, 0, .none, by decide, by decide⟩
theorem shw_bool (b : Bool) : Shw (en b) := ⟨0, 0, .bool, by decide, by decide⟩
theorem pl_ints1 {xs : List Int} {m : Nat} (h : ∀ x ∈ xs, -(10 ^ 18) ≤ x ∧ x ≤ 10 ^ 18) (hl : xs.length ≤ m) : PlA 0 m (xs.map en) := PlA.all' (a := 0) (fun d hd => by
  obtain ⟨i, hi, rfl⟩ := List.mem_map.mp hd
  exact pl_en (h i hi).1 (h i hi).2) (by rw [List.length_map]; omega)
theorem shw_ints {xs : List Int} (h : ∀ x ∈ xs, -(10 ^ 18) ≤ x ∧ x ≤ 10 ^ 18) (hl : xs.length ≤ 600000) : Shw (en (Tu.mk xs)) := ⟨1, xs.length, .tup (pl_ints1 h (Nat.le_refl _)), by decide, hl⟩
theorem pl_od {n : Nat} {ps : List (Int × Int)} (hn : n ≤ 10) (g : GO n ps) : Pl 3 1000 (en (od n ps)) := by
  refine .tup (.cons (a := 0) (b := 999) (pl_en (i := (n : Int)) (by omega) (by omega)) (.cons (a := 998) (b := 0) (.tup (PlA.all' (a := 2) (fun x hx => ?_) ?_)) .nil))
  · obtain ⟨p, hp, rfl⟩ := List.mem_map.mp hx
    obtain ⟨h1, h2, h3, h4⟩ := g.inr p hp
    exact .tup (.cons (a := 0) (b := 1) (pl_en (by omega) (by omega)) (.cons (a := 0) (b := 0) (pl_en (by omega) (by omega)) .nil))
  · have := len_inr10 g.nodup g.inr hn
    rw [List.length_map]
    show 3 * ps.length ≤ 998
    omega
theorem shw_od {n : Nat} {ps : List (Int × Int)} (hn : n ≤ 10) (g : GO n ps) : Shw (en (od n ps)) := ⟨3, 1000, pl_od hn g, by decide, by decide⟩
end PD
set_option maxHeartbeats 4000000
/-! PMe: lots sorted by size, then by their works; rising lots of the first numbers. -/
namespace PD
open PySem L2
section
variable {κ ν : Type} [Enc κ] [Enc ν] {C : Calls} {ρ : Nv}
theorem e_lckD (d : Dct κ ν) {i : Nat} (h : ρ[i]? = some (some (.own (en d)))) (vs : List Nat) (g : G) (c : To) (e : E) : ev C (.lck vs g i c e) ρ = gd (d.l.length ≤ sizeLine ∧ free (ρ.set i none) vs = true) (bd (lcW (d.keys.map en) fun x => bd (lift (asg g x (wipeN (ρ.set i none) vs))) fun ρ' => bd (evc C c ρ') fun t => if t = true then bd (ev C e ρ') fun y => rt (some y) else rt none) fun r => rt (.list r)) := by
  have ek : (d.l.map fun p => ((en p.1 : D), (en p.2 : D))).map (·.1) = d.keys.map en := by
    unfold Dct.keys
    rw [List.map_map, List.map_map]; rfl
  have e0 : ev C (.lck vs g i c e) ρ = fun Q => ∃ kvs, ρ[i]? = some (some (.own (.dict kvs))) ∧ kvs.length ≤ sizeLine ∧ free (ρ.set i none) vs = true ∧ (bd (lcW (kvs.map (·.1)) fun x => bd (lift (asg g x (wipeN (ρ.set i none) vs))) fun ρ' => bd (evc C c ρ') fun t => if t = true then bd (ev C e ρ') fun y => rt (some y) else rt none) fun r => rt (.list r)) Q := by
    funext Q
    show (∃ kvs, _ ∧ _ ∧ _ ∧ lcW _ _ _) = _
    refine congrArg Exists (funext fun kvs => ?_)
    congr 1
    congr 1
    congr 1
    show _ = lcW (kvs.map (·.1)) _ fun r => Q (.list r)
    congr 1
    funext x K
    show lift _ _ = lift _ fun ρ' => evc C c ρ' fun t => _
    congr 1
    funext ρ'
    congr 1
    funext t
    cases t <;> rfl
  rw [e0]
  funext Q
  refine propext ⟨?_, ?_⟩
  · rintro ⟨kvs, hk, hz, hf, hl⟩
    rw [h] at hk
    have := PyData.dict.inj (B.own.inj (Option.some.inj (Option.some.inj hk)))
    subst this
    rw [ek] at hl
    exact ⟨⟨by simpa using hz, hf⟩, hl⟩
  · rintro ⟨⟨hz, hf⟩, hl⟩
    exact ⟨_, h, by simpa using hz, hf, by rw [ek]; exact hl⟩
theorem bo_lck (vs : List Nat) (g : G) (i : Nat) (c : To) (e : E) : bo C (.lck vs g i c e) ρ = ev C (.lck vs g i c e) ρ := rfl
theorem ar_lck (vs : List Nat) (g : G) (i : Nat) (c : To) (e : E) : ar C (.lck vs g i c e) ρ = shW (ev C (.lck vs g i c e) ρ) := rfl
end
abbrev Szd := Int × Tu Int
def leS (a b : Szd) : Bool := decide (a.1 < b.1 ∨ (a.1 = b.1 ∧ a.2.l ≤ b.2.l))
theorem alike_ints : ∀ xs ys : List Int, PySem.W.alikeAll (xs.map .int) (ys.map .int) = true
  | [], _ => by simp [PySem.W.alikeAll]
  | _ :: _, [] => by simp [PySem.W.alikeAll]
  | x :: xs, y :: ys => by simp only [List.map_cons, PySem.W.alikeAll, PySem.W.alike, Bool.true_and]; exact alike_ints xs ys
theorem en_szd (a : Szd) : (en a : D) = .tuple [.int a.1, .tuple (a.2.l.map .int)] := rfl
theorem alike_szd (a b : Szd) : PySem.W.alike (en a) (en b) = true := by
  rw [en_szd, en_szd]
  simp only [PySem.W.alike, PySem.W.alikeAll, Bool.true_and, Bool.and_true]
  exact alike_ints _ _
theorem eqv_tu (a b : List Int) : PyData.eqv (.tuple (a.map .int)) (.tuple (b.map .int)) = decide (a = b) := by
  have := LEnc.eqv (Tu.mk a) (Tu.mk b)
  refine (show _ = _ from this).trans ?_
  rw [Bool.eq_iff_iff, decide_eq_true_iff, decide_eq_true_iff, Tu.mk.injEq]
theorem lt_szd (a b : Szd) : PySem.W.dataLt (en a) (en b) = decide (a.1 < b.1 ∨ (a.1 = b.1 ∧ a.2.l < b.2.l)) := by
  rw [en_szd, en_szd, PySem.W.dataLt_pair (by simp [PySem.W.alike]) (by simp only [PySem.W.alike]; exact alike_ints _ _), PySem.W.dataLt_int, eqv_tu, PySem.W.dataLt_tuple]
  rw [show PyProof.Rows.lexLt PyProof.Rows.itemOrd (PySem.W.keyToksAll (a.2.l.map .int)) (PySem.W.keyToksAll (b.2.l.map .int)) = decide (a.2.l < b.2.l) from PySem.W.dataLt_ints a.2.l b.2.l]
  simp only [PyData.eqv, beq_iff_eq]
  by_cases h1 : a.1 = b.1
  · by_cases h2 : a.2.l = b.2.l
    · have : ¬ b.2.l < b.2.l := List.lt_irrefl _
      simp [h1, h2, this]
    · simp [h1, h2]
  · simp [h1]
theorem le_szd (a b : Szd) : PySem.W.dataLe false id (en a) (en b) = leS a b := by
  show (!PySem.W.dataLt (en b) (en a)) = _
  rw [lt_szd]
  unfold leS
  rw [Bool.eq_iff_iff, Bool.not_eq_true', decide_eq_false_iff_not, decide_eq_true_iff]
  constructor
  · intro h
    by_cases h1 : a.1 < b.1
    · exact .inl h1
    · by_cases h2 : a.1 = b.1
      · exact .inr ⟨h2, List.not_lt.mp fun z => h (.inr ⟨h2.symm, z⟩)⟩
      · exact absurd (.inl (by omega)) h
  · rintro (h | ⟨h1, h2⟩) (h3 | ⟨h3, h4⟩)
    · omega
    · omega
    · omega
    · exact List.not_lt.mpr h2 h4
theorem q_sortS (xs : List Szd) (h : ∀ x ∈ xs, (en x : D).depth ≤ 60) : primD .sorted [en xs] = some (en (xs.mergeSort leS)) := by
  have ok : sortOk (xs.map en) = true := by
    unfold sortOk allAlike
    simp only [Bool.and_eq_true, Bool.or_eq_true, List.all_eq_true, List.mem_map, decide_eq_true_eq]
    refine ⟨⟨?_, .inl ?_⟩, ?_⟩
    · rintro _ ⟨p, _, rfl⟩ _ ⟨q, _, rfl⟩; exact alike_szd p q
    · rintro _ ⟨p, _, rfl⟩; rfl
    · rintro _ ⟨p, hp, rfl⟩; exact h p hp
  show (if sortOk (xs.map en) = true then some (PyData.list (sortD (xs.map en))) else none) = _
  rw [if_pos ok]
  have : sortD (xs.map en) = (xs.mergeSort leS).map en := by
    unfold sortD
    rw [List.map_mergeSort (r := leS) (s := PySem.W.dataLe false id) fun a _ b _ => (le_szd a b).symm]
  rw [this]; rfl
theorem dep_szd (x : Szd) : (en x : D).depth ≤ 60 := by
  have := LEnc.dep x
  refine Nat.le_trans this ?_
  decide
theorem leS_trans (a b c : Szd) (h1 : leS a b = true) (h2 : leS b c = true) : leS a c = true := by
  unfold leS at *
  simp only [decide_eq_true_iff] at *
  rcases h1 with h1 | ⟨h1, h1'⟩
  · rcases h2 with h2 | ⟨h2, _⟩
    · exact .inl (by omega)
    · exact .inl (by omega)
  · rcases h2 with h2 | ⟨h2, h2'⟩
    · exact .inl (by omega)
    · exact .inr ⟨h1.trans h2, List.le_trans h1' h2'⟩
theorem leS_total (a b : Szd) : (leS a b || leS b a) = true := by
  unfold leS
  simp only [Bool.or_eq_true, decide_eq_true_iff]
  by_cases h1 : a.1 < b.1
  · exact .inl (.inl h1)
  · by_cases h2 : a.1 = b.1
    · rcases List.le_total a.2.l b.2.l with h | h
      · exact .inl (.inr ⟨h2, h⟩)
      · exact .inr (.inr ⟨h2.symm, h⟩)
    · exact .inr (.inl (by omega))
theorem leS_anti (a b : Szd) (h1 : leS a b = true) (h2 : leS b a = true) : a = b := by
  unfold leS at *
  simp only [decide_eq_true_iff] at *
  obtain ⟨x, ⟨l⟩⟩ := a
  obtain ⟨y, ⟨m⟩⟩ := b
  simp only at *
  rcases h1 with h1 | ⟨h1, h1'⟩
  · rcases h2 with h2 | ⟨h2, _⟩ <;> omega
  · rcases h2 with h2 | ⟨h2, h2'⟩
    · omega
    · rw [h1, List.le_antisymm h1' h2']
theorem sort_perm {xs ys : List Szd} (h : xs.Perm ys) : xs.mergeSort leS = ys.mergeSort leS :=
  List.Perm.eq_of_pairwise (le := fun a b => leS a b = true) (fun a b _ _ => leS_anti a b) (List.pairwise_mergeSort leS_trans leS_total xs) (List.pairwise_mergeSort leS_trans leS_total ys) ((List.mergeSort_perm xs leS).trans (h.trans (List.mergeSort_perm ys leS).symm))
/-- a lot with its size -/
def szd (l : Tu Int) : Szd := ((l.l.length : Int), l)
def srtL (ls : List (Tu Int)) : List (Tu Int) := ((ls.map szd).mergeSort leS).map Prod.snd
theorem srtL_mem {ls : List (Tu Int)} {l : Tu Int} : l ∈ srtL ls ↔ l ∈ ls := by
  unfold srtL
  rw [List.mem_map]
  constructor
  · rintro ⟨p, hp, rfl⟩
    rw [(List.mergeSort_perm _ _).mem_iff, List.mem_map] at hp
    obtain ⟨m, hm, rfl⟩ := hp
    exact hm
  · intro h
    exact ⟨szd l, (List.mergeSort_perm _ _).mem_iff.mpr (List.mem_map.mpr ⟨l, h, rfl⟩), rfl⟩
theorem srtL_len (ls : List (Tu Int)) : (srtL ls).length = ls.length := by
  unfold srtL; rw [List.length_map, List.length_mergeSort, List.length_map]
theorem srtL_nodup {ls : List (Tu Int)} (h : ls.Nodup) : (srtL ls).Nodup := by
  have p : (srtL ls).Perm ls := by
    unfold srtL
    refine ((List.mergeSort_perm (ls.map szd) leS).map Prod.snd).trans ?_
    rw [List.map_map, show Prod.snd ∘ szd = id from rfl, List.map_id]
  exact p.nodup_iff.mpr h
theorem srtL_eq {ls ms : List (Tu Int)} (h1 : ls.Nodup) (h2 : ms.Nodup) (h : ∀ l, l ∈ ls ↔ l ∈ ms) : srtL ls = srtL ms := by
  unfold srtL
  rw [sort_perm ((List.perm_ext_iff_of_nodup h1 h2).mpr h |>.map szd)]
/-- all rising lots of some works -/
def lotsL (cs : List Int) : List (Tu Int) := cs.foldl (fun f c => f ++ f.map fun l => ⟨l.l ++ [c]⟩) [⟨[]⟩]
theorem lotsL_snoc (cs : List Int) (c : Int) : lotsL (cs ++ [c]) = lotsL cs ++ (lotsL cs).map fun l => ⟨l.l ++ [c]⟩ := by
  unfold lotsL; rw [List.foldl_append]; rfl
theorem snoc_rec {α : Type} {P : List α → Prop} (h0 : P []) (hs : ∀ xs x, P xs → P (xs ++ [x])) : ∀ xs, P xs := fun xs => by
  have : ∀ n, ∀ xs : List α, xs.length = n → P xs := fun n => by
    induction n with
    | zero => intro xs h; rw [List.eq_nil_of_length_eq_zero h]; exact h0
    | succ n ih =>
      intro xs h
      have hne : xs ≠ [] := fun e => by rw [e] at h; cases h
      rw [← List.dropLast_concat_getLast hne]
      exact hs _ _ (ih _ (by rw [List.length_dropLast]; omega))
  exact this _ xs rfl
theorem lotsL_len (cs : List Int) : (lotsL cs).length = 2 ^ cs.length := by
  induction cs using snoc_rec with
  | h0 => rfl
  | hs xs x ih => rw [lotsL_snoc, List.length_append, List.length_map, ih, List.length_append, List.length_cons, List.length_nil, Nat.pow_succ]; omega
theorem lotsL_sub (cs : List Int) : ∀ l ∈ lotsL cs, l.l.Sublist cs := by
  induction cs using snoc_rec with
  | h0 => intro l hl; have : l = ⟨[]⟩ := by simpa [lotsL] using hl
          rw [this]; exact List.Sublist.refl _
  | hs xs x ih =>
    intro l hl
    rw [lotsL_snoc] at hl
    rcases List.mem_append.mp hl with hl | hl
    · exact (ih l hl).trans (List.sublist_append_left _ _)
    · obtain ⟨m, hm, rfl⟩ := List.mem_map.mp hl
      exact List.Sublist.append (ih m hm) (List.Sublist.refl _)
theorem lotsL_filter (cs : List Int) (p : Int → Bool) : Tu.mk (cs.filter p) ∈ lotsL cs := by
  induction cs using snoc_rec with
  | h0 => simp [lotsL]
  | hs xs x ih =>
    rw [lotsL_snoc, List.filter_append]
    by_cases h : p x = true
    · refine List.mem_append_right _ (List.mem_map.mpr ⟨_, ih, ?_⟩)
      simp [h]
    · refine List.mem_append_left _ ?_
      simpa [h] using ih
theorem lotsL_nodup (cs : List Int) (h : cs.Nodup) : (lotsL cs).Nodup := by
  induction cs using snoc_rec with
  | h0 => simp [lotsL]
  | hs xs x ih =>
    have hx : x ∉ xs := fun z => (List.nodup_append.mp h).2.2 x z x (List.mem_singleton.mpr rfl) rfl
    have h1 := ih (List.nodup_append.mp h).1
    rw [lotsL_snoc]
    refine List.nodup_append.mpr ⟨h1, ?_, fun a ha b hb e => ?_⟩
    · refine List.Pairwise.map _ (fun a b hab e => hab ?_) h1
      have := (Tu.mk.inj e)
      obtain ⟨a⟩ := a
      obtain ⟨b⟩ := b
      exact congrArg Tu.mk (List.append_cancel_right this)
    · subst e
      obtain ⟨m, _, rfl⟩ := List.mem_map.mp hb
      exact hx ((lotsL_sub xs _ ha).subset (by simp))
end PD
set_option maxHeartbeats 4000000
/-! K59a: the draws of this law (variant B). -/
namespace PD
open PySem L2 PySem.Spec PyProof.Rows
abbrev lawP : Program := PySem.Challenge.pw_eachorder_k59_whole_least_lattice_round
def topS (i : Nat) : PySem.Stmt := lawP.main.body.getD i (.Pass ⟨0, 0, 0, 0⟩)
def pickN : List Str := ["source", "most", "cells", "others", "lap", "stirred"]
abbrev sPick : PySem.Stmt := topS 15
theorem scPick : fsB pickN (pickN.take 2) (defScope sPick) = true := by decide +kernel
section
variable {P : Program} {w : World} {K : PySem.W.Frag} {mg : Str → Option Value} {base : Heap}
theorem ok_pick {f : Addr} {fd : FuncData} {k : Nat} (F : Fun K "_law_pick" "_law_pick" sPick f fd) (hb : ∀ x ∈ bltNames, mg x = none) : FnOk P w K mg base CX0 (k + 1) f fd ["source", "most"] spPick := by
  refine F.ok (fsB_ok scPick) (fun vs H Q E h => ?_) (fun cdv A outer s H vs Q E hr h => ?_)
  · obtain ⟨c, l, m, _, rfl, _⟩ := h
    rfl
  · obtain ⟨c, l, m, hne, rfl, hm, hS, q⟩ := h
    have hu := hu_of hr
    have nd : pickN.Nodup := (fsB_ok scPick).nd
    have ml : mg "len" = none := hb _ (by simp [bltNames])
    have mi : mg "int" = none := hb _ (by simp [bltNames])
    refine ⟨_, pss_cons (ps_if (pt_cmpR op_lt (pv 1) pe_int rfl) (pss_one (ps_ret pe_int)) pss_nil)
      (pss_cons (ps_set (i := 2) nd rfl (.inl rfl) (pe_dget hu (pv 0) pe_str (fun _ _ => rfl)))
      (pss_cons (ps_while PassesOwn.never (PW.pt (pw_and (pt_cmpR op_lt (pe_dget hu (pv 0) pe_str (fun _ _ => rfl)) pe_int rfl) (pw_and1 (pt_cmpR op_gt (pe_callB call_len_seq (by rfl) ml PySem.boot_len (pa_cons (pv 2) pa_nil)) pe_int rfl))))
        (pss_one (ps_dput hu (pv 0) pe_str (pe_bm0 PySem.F.plainAttrs_list PySem.F.slot_list_pop PySem.F.type_list_pop mt_pop (pv 2)) rfl)))
      (pss_cons (ps_set (i := 3) nd rfl (.inl rfl) (pe_dget hu (pv 0) pe_str (fun _ _ => rfl)))
      (pss_cons (ps_if (pt_cmpR op_gt (pv 3) pe_int rfl)
          (pss_cons (ps_dput hu (pv 0) pe_str (pe_op op_fdivN (pv 3) (pv 1)) rfl)
            (pss_one (ps_ret (pe_op op_mod (pe_callTy call_int1 (by rfl) mi (by decide +kernel) (pa_cons (pv 3) pa_nil)) (pv 1)))))
          pss_nil)
      (pss_cons (ps_dput hu (pv 0) pe_str (pe_op op_add (pe_dget hu (pv 0) pe_str (fun _ _ => rfl)) pe_int) rfl)
      (pss_cons (ps_set (i := 4) nd rfl (.inl rfl) (pe_dget hu (pv 0) pe_str (fun _ _ => rfl)))
      (pss_cons (ps_set (i := 5) nd rfl (.inl rfl) (pe_op op_mod (pe_callTy call_int1 (by rfl) mi (by decide +kernel) (pa_cons (pe_op op_add (pe_dget hu (pv 0) pe_str (fun _ _ => rfl)) (pe_op op_mul (pv 4) pe_int)) pa_nil)) pe_int))
      (pss_cons (ps_set (i := 5) nd rfl (.inl rfl) (pe_op op_mod (pe_callTy call_int1 (by rfl) mi (by decide +kernel) (pa_cons (pe_op op_add (pe_op op_mul (pv 5) (pv 5)) (pe_op op_mul (pv 4) pe_int)) pa_nil)) pe_int))
      (pss_one (ps_ret (pe_op op_mod (pe_callTy call_int1 (by rfl) mi (by decide +kernel) (pa_cons (pe_op op_fdivN (pv 5) pe_int) pa_nil)) (pv 1)))))))))))), ?_⟩
    have σ0 : (start pickN [V.ref c, V.int m]) = [some (.ref c), some (.int m), none, none, none, none] := rfl
    rw [σ0]
    have drw : ∀ {xs : List Int} {a b t : Int} {H' : Hp}, SrcH c l xs a b t H' → (∀ b, b ≠ c → b ≠ l → H' b = H b) → Drw c l H H' := fun h1 h2 => ⟨⟨_, _, _, _, h1⟩, h2⟩
    have fr : ∀ {H' : Hp} {o : HO}, (∀ b, b ≠ c → b ≠ l → H' b = H b) → ∀ b, b ≠ c → b ≠ l → (upd H' c o) b = H b := fun h2 b hb hl => by rw [upd_ne hb]; exact h2 b hb hl
    have frl : ∀ {H' : Hp} {o : HO}, (∀ b, b ≠ c → b ≠ l → H' b = H b) → ∀ b, b ≠ c → b ≠ l → (upd H' l o) b = H b := fun h2 b hb hl => by rw [upd_ne hl]; exact h2 b hb hl
    obtain ⟨xs0, a0, b0, t0, h0⟩ := hS
    dsimp only [gName, tSeq, tIfS]
    refine ⟨.int m, rfl, m, 2, rfl, rfl, _, rfl, ite2 (fun z => ?_) (fun z => ?_)⟩
    · have z := of_decide_eq_true z
      exact q 0 (by omega) (by omega) H (drw h0 fun _ _ _ => rfl)
    have hm2 : 1 < m := by
      have : ¬ m < 2 := fun w => z (decide_eq_true w)
      omega
    have hmx : max 1 m = m := by omega
    rw [hmx] at q
    have hn : ∀ a, CDivN a m := fun a => ⟨by omega, by omega⟩
    refine ⟨.ref c, rfl, c, _, rfl, h0.gc, ?_⟩
    refine ⟨fun n σ H' => σ = [some (.ref c), some (.int m), some (.ref l), none, none, none] ∧ ∃ xs a b t, xs.length = n ∧ SrcH c l xs a b t H' ∧ ∀ b, b ≠ c → b ≠ l → H' b = H b, ⟨_, rfl, xs0, a0, b0, t0, rfl, h0, fun _ _ _ => rfl⟩, ?_⟩
    rintro n σ H1 ⟨rfl, xs, a, b, t, rfl, h1, f1⟩
    refine tt_use (fun bb => bb = true → xs ≠ []) (fun Qf hq => ?_) (fun bb hbb => ?_)
    · refine ⟨.ref c, rfl, c, _, rfl, h1.gl, a, 2, rfl, rfl, _, rfl, ite2 (fun _ => ?_) (fun _ => hq _ (fun z => nomatch z))⟩
      refine ⟨.ref l, rfl, l, _, rfl, .inl (SqL.of h1.l), _, 0, rfl, rfl, _, rfl, hq _ fun z e => ?_⟩
      subst e
      exact absurd z (by decide)
    · refine ite2 (fun z => ?_) (fun _ => ?_)
      · have hx := hbb z
        obtain ⟨ys, y, rfl⟩ : ∃ ys y, xs = ys ++ [y] := ⟨xs.dropLast, xs.getLast hx, (List.dropLast_concat_getLast hx).symm⟩
        refine ⟨fun σ H' => σ = [some (.ref c), some (.int m), some (.ref l), none, none, none] ∧ ∃ a b t, SrcH c l ys a b t H' ∧ ∀ b, b ≠ c → b ≠ l → H' b = H b, ?_, ?_⟩
        · rintro σ' H' ⟨rfl, a', b', t', h', f'⟩
          exact ⟨ys.length, by simp, rfl, ys, a', b', t', rfl, h', f'⟩
        · refine ⟨.ref l, rfl, .inl ⟨rfl, _, SqL.of h1.l⟩, l, _, .int y, rfl, rfl, h1.l, by simp, ?_⟩
          have h2 := h1.pop hne (ys := ys)
          have e : ((ys ++ [y]).map V.int).dropLast = ys.map V.int := by simp
          rw [e]
          refine ⟨.ref c, rfl, c, _, rfl, h2.pl (v := y), ?_⟩
          exact ⟨rfl, _, _, _, h2.new hne, fr (frl f1)⟩
      · refine ⟨.ref c, rfl, c, _, rfl, h1.gl, ?_⟩
        dsimp only [gName, tSeq, tIfS]
        refine ⟨.int a, rfl, a, 1, rfl, rfl, _, rfl, ite2 (fun z => ?_) (fun z => ?_)⟩
        · refine ⟨.int a, rfl, .int m, rfl, a, m, rfl, rfl, hn a, .ref c, rfl, c, _, rfl, h1.pl, ?_⟩
          refine ⟨.int a, rfl, .inl ⟨a, rfl, .int m, rfl, a, m, rfl, rfl, by omega, q _ ?_ ?_ _ (drw (h1.new hne) (fr f1))⟩⟩
          · exact Int.emod_nonneg _ (by omega)
          · exact Int.emod_lt_of_pos _ (by omega)
        · have h2 := h1.new hne (a := a) (b := b) (t := t + 1)
          refine ⟨.ref c, rfl, c, _, rfl, h1.gt, t, 1, rfl, rfl, .ref c, rfl, c, _, rfl, h1.pt, ?_⟩
          refine ⟨.ref c, rfl, c, _, rfl, h2.gt, ?_⟩
          refine ⟨.ref c, rfl, c, _, rfl, h2.gm, .int (t + 1), rfl, t + 1, 104729, rfl, rfl, .inr ⟨by decide, by decide⟩, b, _, rfl, rfl, .inl ⟨_, rfl, _, 998244353, rfl, rfl, (by decide : (0 : Int) < 998244353), ?_⟩⟩
          have k1 := Int.emod_nonneg (b + (t + 1) * 104729) (show (998244353 : Int) ≠ 0 by decide)
          have k2 := Int.emod_lt_of_pos (b + (t + 1) * 104729) (show (0 : Int) < 998244353 by decide)
          dsimp only [gName]
          generalize (b + (t + 1) * 104729) % 998244353 = M at k1 k2 ⊢
          refine ⟨.int M, rfl, .int M, rfl, M, M, rfl, rfl, .inl ⟨by omega, by omega⟩, .int (t + 1), rfl, t + 1, 17, rfl, rfl, .inr ⟨by decide, by decide⟩, _, _, rfl, rfl, .inl ⟨_, rfl, _, 2147483647, rfl, rfl, (by decide : (0 : Int) < 2147483647), ?_⟩⟩
          dsimp only [gName]
          generalize (M * M + (t + 1) * 17) % 2147483647 = M2
          refine ⟨.int M2, rfl, M2, 16, rfl, rfl, ⟨by decide, by decide⟩, .inl ⟨_, rfl, .int m, rfl, _, m, rfl, rfl, by omega, q _ ?_ ?_ _ (drw h2 (fr f1))⟩⟩
          · exact Int.emod_nonneg _ (by omega)
          · exact Int.emod_lt_of_pos (M2.fdiv 16) (show (0 : Int) < m by omega)
def sourceN : List Str := ["script", "stirred", "cell", "cells"]
abbrev sSource : PySem.Stmt := topS 14
theorem scSource : fsB sourceN (sourceN.take 1) (defScope sSource) = true := by decide +kernel
def lcScope (st : PySem.Stmt) (i : Nat) : Scope := match (defBody st).getD i (.Pass ⟨0, 0, 0, 0⟩) with
  | .Assign _ (.ListComp _ _ sc _) _ => sc
  | _ => defScope st
theorem lcSource : blkC sourceN (defScope sSource) (lcScope sSource 2) [("cell", 2)] = true := by decide +kernel
/-- {'cells': cells[::-1], 'left': 1, 'mixed': x, 'turn': 0} -/
theorem disp_okB {K : PySem.W.Frag} {d : Addr} {ys : List Int} {σ : L2.St} {H0 H : Hp} {Q : VK} {x : Int} {j i : Nat} (hj : σ[j]? = some (some (.ref d))) (hx : σ[i]? = some (some (.int x))) (hS : H d = some (.lst (ys.map V.int))) (sm : Same H0 H)
    (q : ∀ c l H', c ≠ l → H0 c = none → H0 l = none → Same H0 H' → SrcI c l H' → Q (.ref c) H') :
    tDisp [(tC (.str "cells"), tRevL K (tVar j)), (tC (.str "left"), tC (.int 1)), (tC (.str "mixed"), tVar i), (tC (.str "turn"), tC (.int 0))] σ H Q := by
  intro p hp
  dsimp only [tPairs, tRevL, tC]
  have hpd : p ≠ d := fun e => by rw [e, hS] at hp; cases hp
  refine ⟨.ref d, hj, d, ys.map V.int, rfl, SqL.of (by rw [upd_ne (Ne.symm hpd)]; exact hS), fun p2 hp2 => ?_⟩
  have hpp2 : p ≠ p2 := fun e => by rw [← e, upd_same] at hp2; cases hp2
  have hp2H : H p2 = none := by rw [upd_ne (Ne.symm hpp2)] at hp2; exact hp2
  refine ⟨.int x, hx, ?_, srcKV p2 1 x 0, rfl, by show 4 ≤ 15; decide, ?_⟩
  · rw [upd_ne hpp2, upd_same]
  · refine q p p2 _ hpp2 (sm.free hp) (sm.free hp2H) (fun b o e => ?_) ⟨ys.reverse, 1, x, 0, upd_same, ?_⟩
    · have e := sm b o e
      rw [upd_ne (ne_of_none e hp), upd_ne (ne_of_none e hp2H), upd_ne (ne_of_none e hp)]; exact e
    · rw [upd_ne (Ne.symm hpp2), upd_same, List.map_reverse]
theorem ok_source {f : Addr} {fd : FuncData} {k : Nat} (F : Fun K "_law_open_cells" "_law_open_cells" sSource f fd) (hb : ∀ x ∈ bltNames, mg x = none) : FnOk P w K mg base CX0 (k + 1) f fd ["script"] (spSource K) := by
  refine F.ok (fsB_ok scSource) (fun vs H Q E h => ?_) (fun cdv A outer s H vs Q E hr h => ?_)
  · obtain ⟨a, ns, rfl, _⟩ := h
    rfl
  · obtain ⟨a, ns, rfl, hl, hS, q⟩ := h
    have hu := hu_of hr
    have nd : sourceN.Nodup := (fsB_ok scSource).nd
    have mi : mg "int" = none := hb _ (by simp [bltNames])
    have ma : mg "abs" = none := hb _ (by simp [bltNames])
    refine ⟨_, pss_cons (ps_set (i := 1) nd rfl (.inl rfl) pe_int)
      (pss_cons (ps_for PassesOwn.never rfl (pi_list (pv 0)) (pg_name (i := 2) nd rfl (.inl rfl))
        (pss_one (ps_set (i := 1) nd rfl (.inl rfl) (pe_op op_mod (pe_callTy call_int1 (by rfl) mi (by decide +kernel) (pa_cons (pe_op op_add (pe_op op_add (pe_op op_mul (pv 1) pe_int) (pe_op op_mul (pv 2) pe_int)) pe_int) pa_nil)) pe_int))))
      (pss_cons (ps_setLc (i := 3) rfl nd rfl rfl (by rfl) (pi_list (pv 0)) (blkOk_by (N := sourceN) lcSource) (fun _ _ _ _ _ => pg_name (i := 2) nd rfl (.inl rfl)) (fun _ _ _ _ _ => pts_nil) (fun _ _ _ _ _ => pe_callB call_abs (by rfl) ma (by decide +kernel) (pa_cons (pv 2) pa_nil)))
      (pss_one (ps_ret (pe_disp (pps_cons pe_str (pe_revL (pv 3)) (pps_cons pe_str pe_int (pps_cons pe_str (pv 1) (pps_cons pe_str pe_int pps_nil)))) rfl rfl (by decide) (by decide)))))), ?_⟩
    refine ⟨.ref a, rfl, a, rfl, ⟨_, hS⟩, fun i m σ H' => i ≤ ns.length ∧ m = ns.length - i ∧ H' = H ∧ ∃ x y, σ = [some (.ref a), some (.int x), y, none], ⟨_, Nat.zero_le _, rfl, rfl, 11, none, rfl⟩, ?_⟩
    rintro i m σ H' ⟨hi, rfl, rfl, x, y, rfl⟩
    by_cases h : i < ns.length
    · right
      have g : (ns.map V.int)[i]? = some (.int ns[i]) := by rw [List.getElem?_map, List.getElem?_eq_getElem h]; rfl
      refine ⟨⟨_, _, hS, g⟩, fun σ H1 => H1 = H' ∧ ∃ x y, σ = [some (.ref a), some (.int x), y, none], ?_, ?_⟩
      · rintro σ' H1 ⟨rfl, x, y, rfl⟩
        exact ⟨ns.length - (i + 1), by omega, h, rfl, rfl, x, y, rfl⟩
      · rintro v H1 ⟨rfl, hv⟩
        have ev : v = .int ns[i] := Option.some.inj ((hv _ hS).symm.trans g)
        subst ev
        exact ⟨.int x, rfl, x, 69069, rfl, rfl, .inr ⟨by decide, by decide⟩, .int ns[i], rfl, ns[i], 31, rfl, rfl, .inr ⟨by decide, by decide⟩, _, _, rfl, rfl, _, 5, rfl, rfl, .inl ⟨_, rfl, _, 2147483629, rfl, rfl, (by decide : (0 : Int) < 2147483629), rfl, _, _, rfl⟩⟩
    · left
      refine ⟨⟨_, hS, by rw [List.length_map]; omega⟩, ?_⟩
      dsimp only [tSeq, tAsg]
      refine abs_lc (i := 0) (j := 2) (σ := [some (.ref a), some (.int x), y, none]) (by decide) rfl (by simp) hS hl fun d hd => ?_
      exact disp_okB (j := 3) (i := 1) rfl rfl upd_same (Same.upd hd) q
def mixedN : List Str := ["source", "things", "others", "lap"]
abbrev sMixed : PySem.Stmt := topS 16
theorem scMixed : fsB mixedN (mixedN.take 2) (defScope sMixed) = true := by decide +kernel
def lcScope2 (st : PySem.Stmt) (i : Nat) : Scope := match (defBody st).getD i (.Pass ⟨0, 0, 0, 0⟩) with
  | .Return (some (.ListComp _ _ sc _)) _ => sc
  | _ => defScope st
def lcElt (st : PySem.Stmt) (i : Nat) : PySem.Expr := match (defBody st).getD i (.Pass ⟨0, 0, 0, 0⟩) with
  | .Return (some (.ListComp e _ _ _)) _ => e
  | _ => .Name "x" ⟨0, 0, 0, 0⟩
theorem lcMixed : blkC mixedN (defScope sMixed) (lcScope2 sMixed 1) [("lap", 3)] = true := by decide +kernel
theorem ok_mixed {f f1 : Addr} {fd fd1 : FuncData} {k : Nat} (F : Fun K "_law_any_order" "_law_any_order" sMixed f fd) (hb : ∀ x ∈ bltNames, mg x = none) (F1 : Fun K "_law_pick" "_law_pick" sPick f1 fd1) (b1 : Binds K fd1 ["source", "most"] []) (g1 : mg "_law_pick" = some (.ref f1)) : FnOk P w K mg base CX0 (k + 2) f fd ["source", "things"] spMixed := by
  have G1 : FnOk P w K mg base CX0 (k + 1) f1 fd1 ["source", "most"] spPick := ok_pick F1 hb
  refine F.ok (fsB_ok scMixed) (fun vs H Q E h => ?_) (fun cdv A outer s H vs Q E hr h => ?_)
  · obtain ⟨c, l, a, xs, _, _, _, rfl, _⟩ := h
    rfl
  · obtain ⟨c, l, a, xs, hne, hac, hal, rfl, hS, ha, hlen, q⟩ := h
    have hu := hu_of hr
    have nd : mixedN.Nodup := (fsB_ok scMixed).nd
    have ml : mg "len" = none := hb _ (by simp [bltNames])
    have mr : mg "range" = none := hb _ (by simp [bltNames])
    have mls : mg "list" = none := hb _ (by simp [bltNames])
    have el : ∀ s1 H1 C1 cl1 fp1, PE ((cxOf CX0 P w K mg base mixedN "_law_any_order" (defScope sMixed) f cdv A outer s H E).nox.blk s1 H1 (lcScope2 sMixed 1) (compEnvC (lcScope2 sMixed 1) cl1 C1 (cxOf CX0 P w K mg base mixedN "_law_any_order" (defScope sMixed) f cdv A outer s H E).nox.env) fp1) (lcElt sMixed 1)
        (tBM K "list" rPopAt (tVar 2) (tCons (tCall spPick [] E0 (tCons (tVar 0) (tCons (tCB (fun xs H Q => ∃ p ys, xs = [.ref p] ∧ (SqL K H p ys ∨ SqT K H p ys) ∧ Q (.int ys.length) H) (tCons (tVar 2) tNil)) tNil))) tNil)) := fun s1 H1 C1 cl1 fp1 =>
      pe_bm PySem.F.plainAttrs_list PySem.F.slot_list_pop PySem.F.type_list_pop mt_popAt (pv 2) (pa_cons (pe_call G1 hr (by rfl) g1 F1.kp b1 .nil pass0 (pa_cons (pv 0) (pa_cons (pe_callB call_len_seq (by rfl) ml PySem.boot_len (pa_cons (pv 2) pa_nil)) pa_nil))) pa_nil)
    refine ⟨_, pss_cons (ps_set (i := 2) nd rfl (.inr rfl) (pe_callTy call_list_of (by rfl) mls (by decide +kernel) (pa_cons (pv 1) pa_nil)))
      (pss_one (ps_ret (pe_lc rfl nd (pi_range1 (by rfl) mr (pa_cons (pe_callB call_len_seq (by rfl) ml PySem.boot_len (pa_cons (pv 2) pa_nil)) pa_nil)) (blkOk_by (N := mixedN) lcMixed) (fun _ _ _ _ _ => pg_name (i := 3) nd rfl (.inl rfl)) (fun _ _ _ _ _ => pts_nil)
        el))), ?_⟩
    refine ⟨.ref a, rfl, a, xs, rfl, .inl (SqL.of ha), fun r hr => ?_⟩
    obtain ⟨xs0, a0, b0, t0, h0⟩ := hS
    have rc : r ≠ c := fun e => by rw [e, h0.d] at hr; cases hr
    have rl : r ≠ l := fun e => by rw [e, h0.l] at hr; cases hr
    have z1 : (1000 : Nat) < sizeLine := by decide
    refine ⟨.ref r, rfl, r, xs, rfl, .inl (SqL.of upd_same), xs.length, rfl, by omega, by omega, fun D hD => ?_⟩
    have Dr : D ≠ r := fun e => by rw [e, upd_same] at hD; cases hD
    have hDH : H D = none := by rw [upd_ne Dr] at hD; exact hD
    have Dc : D ≠ c := fun e => by rw [e, h0.d] at hDH; cases hDH
    have Dl : D ≠ l := fun e => by rw [e, h0.l] at hDH; cases hDH
    refine ⟨fun i m H' => ∃ acc rem, i ≤ xs.length ∧ m = xs.length - i ∧ H' D = some (.lst acc) ∧ H' r = some (.lst rem) ∧ acc.length = i ∧ rem.length = xs.length - i ∧ (acc ++ rem).Perm xs ∧ SrcI c l H' ∧ ∀ b o, b ≠ c → b ≠ l → H b = some o → H' b = some o,
      ⟨_, [], xs, Nat.zero_le _, rfl, upd_same, by rw [upd_ne (Ne.symm Dr), upd_same], rfl, by simp, .refl _, ⟨xs0, a0, b0, t0, ?_, ?_⟩, fun b o _ _ e => ?_⟩, ?_⟩
    · rw [upd_ne (Ne.symm Dc), upd_ne (Ne.symm rc)]; exact h0.d
    · rw [upd_ne (Ne.symm Dl), upd_ne (Ne.symm rl)]; exact h0.l
    · rw [upd_ne (ne_of_none e hDH), upd_ne (ne_of_none e hr)]; exact e
    rintro i m H1 ⟨acc, rem, hi, rfl, hA, hR, la, lr, hp, hS, hx⟩
    by_cases h : i < xs.length
    · right
      refine ⟨by show i < ((xs.length : Int)).toNat; omega, fun H' => ∃ acc rem, H' D = some (.lst acc) ∧ H' r = some (.lst rem) ∧ acc.length = i + 1 ∧ rem.length = xs.length - (i + 1) ∧ (acc ++ rem).Perm xs ∧ SrcI c l H' ∧ ∀ b o, b ≠ c → b ≠ l → H b = some o → H' b = some o, ?_, ?_⟩
      · rintro H' ⟨acc, rem, q1, q2, q3, q4, q5, q6, q7⟩
        exact ⟨xs.length - (i + 1), by omega, acc, rem, h, rfl, q1, q2, q3, q4, q5, q6, q7⟩
      · rintro x H2 ⟨rfl, rfl⟩
        refine ⟨rfl, ?_⟩
        dsimp only [tYes]
        refine ite2 (fun _ => ?_) (fun z => absurd rfl z)
        refine ⟨.ref r, rfl, tyV_list hR, .ref c, rfl, .ref r, rfl, r, rem, rfl, .inl (SqL.of hR), c, l, _, hne, rfl, by omega, hS, fun j j1 j2 H4 dr => ?_⟩
        have j3 : j < rem.length := by omega
        obtain ⟨k, rfl⟩ := Int.eq_ofNat_of_zero_le j1
        have k3 : k < rem.length := by omega
        have hR4 : H4 r = some (.lst rem) := by rw [dr.2 r rc rl]; exact hR
        have hA4 : H4 D = some (.lst acc) := by rw [dr.2 D Dc Dl]; exact hA
        refine ⟨r, rem, k, k, rem[k], rfl, rfl, hR4, by omega, by omega, ?_, List.getElem?_eq_getElem k3, ?_⟩
        · have := seqIndex_of (k := (k : Int)) (n := rem.length) (by omega) (by omega)
          rwa [Int.toNat_natCast] at this
        · have pe : (rem[k] :: rem.eraseIdx k).Perm rem := erase_perm k3
          obtain ⟨xs1, a1, b1, t1, h1⟩ := dr.1
          refine ⟨acc, by rw [upd_ne Dr]; exact hA4, by omega, acc ++ [rem[k]], rem.eraseIdx k, upd_same, by rw [upd_ne (Ne.symm Dr), upd_same], by simp [la], ?_, ?_, ⟨xs1, a1, b1, t1, ?_, ?_⟩, fun b o n1 n2 e => ?_⟩
          · rw [List.length_eraseIdx, if_pos k3]; omega
          · rw [List.append_assoc]
            exact ((List.Perm.append_left acc pe).trans hp)
          · rw [upd_ne (Ne.symm Dc), upd_ne (Ne.symm rc)]; exact h1.d
          · rw [upd_ne (Ne.symm Dl), upd_ne (Ne.symm rl)]; exact h1.l
          · rw [upd_ne (ne_of_none e hDH), upd_ne (ne_of_none e hr), dr.2 b n1 n2]; exact hx b o n1 n2 e
    · left
      refine ⟨by show ((xs.length : Int)).toNat ≤ i; omega, ?_⟩
      have : rem = [] := List.eq_nil_of_length_eq_zero (by omega)
      subst this
      rw [List.append_nil] at hp
      exact q acc D H1 hp hDH hA hS hx
end
end PD
set_option maxHeartbeats 4000000
/-! K59b: the compact forms of the defs. -/
namespace PD
open PySem L2
def b0 : Ss := (.cons (.ret (.or (.cmp .eq (.var 1) (.var 2)) (.cmp .inn (.tup (.cons (.var 1) (.cons (.var 2) .nil))) (.idx (.var 0) (.cst (.int 1)))))) .nil)
/-- is_not_behind: 0:order 1:a 2:b -/
def r0 : Row := ⟨"is_not_behind", topS 1, ["order", "a", "b"], .code 3 3 b0⟩
def b1 : Ss := (.cons (.ret (.prim .tuple (.cons (.lc [2] (.v 2) (.rng .no (.idx (.var 0) (.cst (.int 0)))) (.yes (.e (.prim .all (.cons (.lc [3] (.v 3) (.val (.var 1)) .no (.call 0 (.cons (.var 0) (.cons (.var 3) (.cons (.var 2) .nil))))) .nil)))) (.var 2)) .nil))) .nil)
/-- above: 0:order 1:lot 2:v 3:x -/
def r1 : Row := ⟨"above", topS 2, ["order", "lot", "v", "x"], .code 2 4 b1⟩
def b2 : Ss := (.cons (.ret (.prim .tuple (.cons (.lc [2] (.v 2) (.rng .no (.idx (.var 0) (.cst (.int 0)))) (.yes (.e (.prim .all (.cons (.lc [3] (.v 3) (.val (.var 1)) .no (.call 0 (.cons (.var 0) (.cons (.var 2) (.cons (.var 3) .nil))))) .nil)))) (.var 2)) .nil))) .nil)
/-- under: 0:order 1:lot 2:v 3:x -/
def r2 : Row := ⟨"under", topS 3, ["order", "lot", "v", "x"], .code 2 4 b2⟩
def b3 : Ss := (.cons (.ret (.call 2 (.cons (.var 0) (.cons (.tup (.cons (.var 1) .nil)) .nil)))) .nil)
/-- home: 0:order 1:work -/
def r3 : Row := ⟨"home", topS 4, ["order", "work"], .code 2 2 b3⟩
def b4_0 : Ss := (.cons (.seti 1 (.prim .tuple (.cons (.lc [6] (.v 6) (.val (.var 4)) (.yes (.e (.cmp .inn (.var 6) (.var 3)))) (.var 6)) .nil)) (.cst (.bool true))) .nil)
def b4_1 : Ss := (.cons (.set false 3 (.call 3 (.cons (.var 0) (.cons (.var 2) .nil)))) (.cons (.for_ (.v 4) (.val (.prim .list (.cons (.var 1) .nil))) b4_0) .nil))
def b4_2 : Ss := (.cons (.ret (.prim .tuple (.cons (.lc [5, 4] (.tup [(.v 5), (.v 4)]) (.val (.prim .sorted (.cons (.lck [4] (.v 4) 1 .no (.tup (.cons (.prim .len (.cons (.var 4) .nil)) (.cons (.var 4) .nil)))) .nil))) .no (.var 4)) .nil))) .nil)
def b4 : Ss := (.cons (.set true 1 (.disp true (.cons (.prim .tuple (.cons (.rg false .no (.idx (.var 0) (.cst (.int 0)))) .nil)) (.cst (.bool true)) .nil))) (.cons (.for_ (.v 2) (.rng .no (.idx (.var 0) (.cst (.int 0)))) b4_1) b4_2))
/-- cuts: 0:order 1:found 2:work 3:mine 4:lot 5:size 6:x -/
def r4 : Row := ⟨"cuts", topS 5, ["order", "found", "work", "mine", "lot", "size", "x"], .code 1 7 b4⟩
def b5_0 : Ss := (.cons (.set false 2 (.bin .add (.var 2) (.lc [5, 6] (.tup [(.v 5), (.v 6)]) (.enum (.var 1)) (.yes (.and (.e (.cmp .ne (.var 3) (.var 5))) (.e (.prim .all (.cons (.lc [7] (.v 7) (.val (.var 4)) .no (.cmp .inn (.var 7) (.var 6))) .nil))))) (.tup (.cons (.var 3) (.cons (.var 5) .nil)))))) .nil)
def b5_1 : Ss := (.cons (.ret (.tup (.cons (.prim .len (.cons (.var 1) .nil)) (.cons (.prim .tuple (.cons (.var 2) .nil)) .nil)))) .nil)
def b5 : Ss := (.cons (.par [(false, 1), (false, 2)] (.cons (.call 4 (.cons (.var 0) .nil)) (.cons (.lst .nil) .nil))) (.cons (.for_ (.tup [(.v 3), (.v 4)]) (.enum (.var 1)) b5_0) b5_1))
/-- round_lattice: 0:order 1:some 2:pairs 3:i 4:one 5:j 6:other 7:x -/
def r5 : Row := ⟨"round_lattice", topS 7, ["order", "some", "pairs", "i", "one", "j", "other", "x"], .code 1 8 b5⟩
def b6 : Ss := (.cons (.set false 2 (.call 2 (.cons (.var 0) (.cons (.var 1) .nil)))) (.cons (.set false 3 (.lc [4] (.v 4) (.val (.var 2)) (.yes (.e (.prim .all (.cons (.lc [5] (.v 5) (.val (.var 2)) .no (.call 0 (.cons (.var 0) (.cons (.var 5) (.cons (.var 4) .nil))))) .nil)))) (.var 4))) (.cons (.ret (.ife (.e (.cmp .ne (.var 3) (.lst .nil))) (.idx (.var 3) (.cst (.int 0))) (.cst .none))) .nil)))
/-- meet_of: 0:order 1:lot 2:low 3:some 4:m 5:x -/
def r6 : Row := ⟨"meet_of", topS 8, ["order", "lot", "low", "some", "m", "x"], .code 2 6 b6⟩
def b7 : Ss := (.cons (.set false 2 (.call 1 (.cons (.var 0) (.cons (.var 1) .nil)))) (.cons (.set false 3 (.lc [4] (.v 4) (.val (.var 2)) (.yes (.e (.prim .all (.cons (.lc [5] (.v 5) (.val (.var 2)) .no (.call 0 (.cons (.var 0) (.cons (.var 4) (.cons (.var 5) .nil))))) .nil)))) (.var 4))) (.cons (.ret (.ife (.e (.cmp .ne (.var 3) (.lst .nil))) (.idx (.var 3) (.cst (.int 0))) (.cst .none))) .nil)))
/-- join_of: 0:order 1:lot 2:high 3:some 4:m 5:x -/
def r7 : Row := ⟨"join_of", topS 9, ["order", "lot", "high", "some", "m", "x"], .code 2 6 b7⟩
def b8_0 : Ss := (.cons (.ite (.or (.e (.cmp .is (.call 6 (.cons (.var 0) (.cons (.tup (.cons (.var 2) (.cons (.var 1) .nil))) .nil))) (.cst .none))) (.e (.cmp .is (.call 7 (.cons (.var 0) (.cons (.tup (.cons (.var 2) (.cons (.var 1) .nil))) .nil))) (.cst .none)))) (.cons (.ret (.cst (.bool false))) .nil) .nil) .nil)
def b8 : Ss := (.cons (.for_ (.v 1) (.rng .no (.idx (.var 0) (.cst (.int 0)))) (.cons (.for_ (.v 2) (.rng .no (.var 1)) b8_0) .nil)) (.cons (.ret (.cst (.bool true))) .nil))
/-- is_lattice: 0:order 1:a 2:b -/
def r8 : Row := ⟨"is_lattice", topS 10, ["order", "a", "b"], .code 1 3 b8⟩
def b9_0 : Ss := (.cons (.par [(false, 5), (false, 6)] (.cons (.idx (.var 2) (.var 3)) (.cons (.idx (.var 2) (.var 4)) .nil))) (.cons (.ite (.or (.e (.cmp .eq (.var 5) (.var 6))) (.e (.cmp .ne (.cmp .inn (.tup (.cons (.var 3) (.cons (.var 4) .nil))) (.idx (.var 0) (.cst (.int 1)))) (.cmp .inn (.tup (.cons (.var 5) (.cons (.var 6) .nil))) (.idx (.var 1) (.cst (.int 1))))))) (.cons (.ret (.cst (.bool false))) .nil) .nil) .nil))
def b9_1 : Ss := (.cons (.ite (.e (.cmp .ne (.var 3) (.var 4))) b9_0 .nil) .nil)
def b9_2 : Ss := (.cons (.for_ (.v 4) (.rng .no (.idx (.var 0) (.cst (.int 0)))) b9_1) .nil)
def b9 : Ss := (.cons (.for_ (.v 3) (.rng .no (.idx (.var 0) (.cst (.int 0)))) b9_2) (.cons (.ret (.cst (.bool true))) .nil))
/-- stands_in: 0:order 1:lattice 2:places 3:a 4:b 5:p 6:q -/
def r9 : Row := ⟨"stands_in", topS 11, ["order", "lattice", "places", "a", "b", "p", "q"], .code 3 7 b9⟩
def b10 : Ss := (.cons (.ret (.prim .tuple (.cons (.lc [3] (.v 3) (.val (.call 4 (.cons (.var 0) .nil))) .no (.call 7 (.cons (.var 1) (.cons (.prim .tuple (.cons (.sset (.lc [4] (.v 4) (.val (.var 3)) .no (.idx (.var 2) (.var 4)))) .nil)) .nil)))) .nil))) .nil)
/-- led_cuts: 0:order 1:lattice 2:places 3:lot 4:x -/
def r10 : Row := ⟨"led_cuts", topS 12, ["order", "lattice", "places", "lot", "x"], .code 3 5 b10⟩
def r11 : Row := ⟨"_law_pick", topS 15, ["source", "most", "cells", "others", "lap", "stirred"], .ext 2 semPick⟩
def r12 : Row := ⟨"_law_any_order", topS 16, ["source", "things", "others", "lap"], .ext 2 semMixed⟩
def b13_0 : Ss := (.cons (.seti 2 (.tup (.cons (.var 4) (.cons (.var 5) .nil))) (.cst (.bool true))) .nil)
def b13_1 : Ss := (.cons (.ite (.and (.e (.cmp .inn (.tup (.cons (.var 4) (.cons (.var 3) .nil))) (.var 2))) (.e (.cmp .inn (.tup (.cons (.var 3) (.cons (.var 5) .nil))) (.var 2)))) b13_0 .nil) .nil)
def b13_2 : Ss := (.cons (.for_ (.v 4) (.rng .no (.var 0)) (.cons (.for_ (.v 5) (.rng .no (.var 0)) b13_1) .nil)) .nil)
def b13_3 : Ss := (.cons (.ret (.tup (.cons (.var 0) (.cons (.prim .tuple (.cons (.prim .sorted (.cons (.prim .list (.cons (.var 2) .nil)) .nil)) .nil)) .nil)))) .nil)
def b13 : Ss := (.cons (.set true 2 (.prim .dictOf (.cons (.lc [6] (.v 6) (.val (.var 1)) .no (.tup (.cons (.var 6) (.cons (.cst (.bool true)) .nil)))) .nil))) (.cons (.for_ (.v 3) (.rng .no (.var 0)) b13_2) b13_3))
/-- _law_closed: 0:n 1:told 2:found 3:b 4:a 5:c 6:pair -/
def r13 : Row := ⟨"_law_closed", topS 17, ["n", "told", "found", "b", "a", "c", "pair"], .code 2 7 b13⟩
def b14_0 : Ss := (.cons (.set false 9 (.cmp .lt (.bin .fdiv (.var 8) (.cst (.int 2))) (.bin .fdiv (.var 3) (.cst (.int 2))))) .nil)
def b14_1 : Ss := (.cons (.set false 9 (.cmp .eq (.bin .mod (.prim .int (.cons (.var 8) .nil)) (.cst (.int 2))) (.bin .mod (.prim .int (.cons (.var 3) .nil)) (.cst (.int 2))))) .nil)
def b14_2 : Ss := (.cons (.set false 9 (.and (.cmp .lt (.var 8) (.bin .fdiv (.var 4) (.cst (.int 2)))) (.and (.cmp .ge (.var 3) (.bin .fdiv (.var 4) (.cst (.int 2)))) (.or (.cmp .ne (.bin .sub (.var 3) (.var 8)) (.bin .fdiv (.var 4) (.cst (.int 2)))) (.cmp .eq (.var 7) (.cst (.int 1))))))) .nil)
def b14_3 : Ss := (.cons (.set false 2 (.bin .add (.var 2) (.ife (.e (.var 9)) (.lst (.cons (.tup (.cons (.idx (.var 6) (.var 8)) (.cons (.idx (.var 6) (.var 3)) .nil))) .nil)) (.lst .nil)))) .nil)
def b14_4 : Ss := (.cons (.ite (.e (.cmp .eq (.var 5) (.cst (.int 3)))) b14_2 .nil) b14_3)
def b14_5 : Ss := (.cons (.ite (.e (.cmp .eq (.var 5) (.cst (.int 2)))) b14_1 .nil) b14_4)
def b14_6 : Ss := (.cons (.set false 9 (.cmp .lt (.call 11 (.cons (.var 0) (.cons (.cst (.int 6)) .nil))) (.var 7))) (.cons (.ite (.e (.cmp .eq (.var 5) (.cst (.int 1)))) b14_0 .nil) b14_5))
def b14_7 : Ss := (.cons (.ret (.call 13 (.cons (.var 4) (.cons (.var 2) .nil)))) .nil)
def b14 : Ss := (.cons (.par [(false, 4), (false, 5)] (.cons (.bin .add (.cst (.int 1)) (.call 11 (.cons (.var 0) (.cons (.var 1) .nil)))) (.cons (.call 11 (.cons (.var 0) (.cons (.cst (.int 5)) .nil))) .nil))) (.cons (.par [(false, 6), (false, 7)] (.cons (.call 12 (.cons (.var 0) (.cons (.rg false .no (.var 4)) .nil))) (.cons (.bin .add (.cst (.int 1)) (.call 11 (.cons (.var 0) (.cons (.cst (.int 5)) .nil)))) .nil))) (.cons (.set false 2 (.lst .nil)) (.cons (.for_ (.v 3) (.rng .no (.var 4)) (.cons (.for_ (.v 8) (.rng .no (.var 3)) b14_6) .nil)) b14_7))))
/-- _law_draw_order: 0:source 1:most 2:found 3:j 4:n 5:road 6:names 7:share 8:i 9:is_one -/
def r14 : Row := ⟨"_law_draw_order", topS 18, ["source", "most", "found", "j", "n", "road", "names", "share", "i", "is_one"], .code 2 10 b14⟩
def b15 : Ss := (.cons (.ret (.or (.cmp .eq (.var 1) (.var 2)) (.cmp .inn (.tup (.cons (.var 1) (.cons (.var 2) .nil))) (.idx (.var 0) (.cst (.int 1)))))) .nil)
/-- _law_leq: 0:order 1:a 2:b -/
def r15 : Row := ⟨"_law_leq", topS 19, ["order", "a", "b"], .code 3 3 b15⟩
def b16 : Ss := (.cons (.ret (.prim .tuple (.cons (.lc [2] (.v 2) (.rng .no (.idx (.var 0) (.cst (.int 0)))) (.yes (.e (.cmp .eq (.lc [3] (.v 3) (.val (.var 1)) (.yes (.not (.e (.call 15 (.cons (.var 0) (.cons (.var 3) (.cons (.var 2) .nil))))))) (.var 3)) (.lst .nil)))) (.var 2)) .nil))) .nil)
/-- _law_above: 0:order 1:lot 2:v 3:x -/
def r16 : Row := ⟨"_law_above", topS 20, ["order", "lot", "v", "x"], .code 2 4 b16⟩
def b17 : Ss := (.cons (.ret (.prim .tuple (.cons (.lc [2] (.v 2) (.rng .no (.idx (.var 0) (.cst (.int 0)))) (.yes (.e (.cmp .eq (.lc [3] (.v 3) (.val (.var 1)) (.yes (.not (.e (.call 15 (.cons (.var 0) (.cons (.var 2) (.cons (.var 3) .nil))))))) (.var 3)) (.lst .nil)))) (.var 2)) .nil))) .nil)
/-- _law_under: 0:order 1:lot 2:v 3:x -/
def r17 : Row := ⟨"_law_under", topS 21, ["order", "lot", "v", "x"], .code 2 4 b17⟩
def b18 : Ss := (.cons (.ret (.call 17 (.cons (.var 0) (.cons (.call 16 (.cons (.var 0) (.cons (.var 1) .nil))) .nil)))) .nil)
/-- _law_shut: 0:order 1:lot -/
def r18 : Row := ⟨"_law_shut", topS 22, ["order", "lot"], .code 2 2 b18⟩
def b19_0 : Ss := (.cons (.set false 1 (.bin .add (.var 1) (.lc [3] (.v 3) (.val (.var 1)) .no (.bin .add (.var 3) (.tup (.cons (.var 2) .nil)))))) .nil)
def b19 : Ss := (.cons (.set false 1 (.lst (.cons (.tup .nil) .nil))) (.cons (.for_ (.v 2) (.rng .no (.var 0)) b19_0) (.cons (.ret (.var 1)) .nil)))
/-- _law_all_lots: 0:n 1:found 2:c 3:lot -/
def r19 : Row := ⟨"_law_all_lots", topS 23, ["n", "found", "c", "lot"], .code 1 4 b19⟩
def b20 : Ss := (.cons (.set false 1 (.lc [2] (.v 2) (.val (.call 19 (.cons (.idx (.var 0) (.cst (.int 0))) .nil))) (.yes (.e (.cmp .eq (.call 18 (.cons (.var 0) (.cons (.var 2) .nil))) (.var 2)))) (.tup (.cons (.prim .len (.cons (.var 2) .nil)) (.cons (.var 2) .nil))))) (.cons (.ret (.lc [3, 2] (.tup [(.v 3), (.v 2)]) (.val (.prim .sorted (.cons (.var 1) .nil))) .no (.var 2))) .nil))
/-- _law_cuts: 0:order 1:found 2:lot 3:size -/
def r20 : Row := ⟨"_law_cuts", topS 24, ["order", "found", "lot", "size"], .code 1 4 b20⟩
def b21_0 : Ss := (.cons (.app 1 (.tup (.cons (.prim .len (.cons (.var 2) .nil)) (.cons (.var 2) .nil)))) .nil)
def b21_1 : Ss := (.cons (.ite (.e (.cmp .eq (.lc [4, 5] (.tup [(.v 4), (.v 5)]) (.val (.idx (.var 0) (.cst (.int 1)))) (.yes (.and (.e (.cmp .inn (.var 5) (.var 2))) (.e (.cmp .nin (.var 4) (.var 2))))) (.cst (.int 1))) (.lst .nil))) b21_0 .nil) .nil)
def b21_2 : Ss := (.cons (.ret (.lc [3, 2] (.tup [(.v 3), (.v 2)]) (.val (.prim .sorted (.cons (.var 1) .nil))) .no (.var 2))) .nil)
def b21 : Ss := (.cons (.set true 1 (.lst .nil)) (.cons (.for_ (.v 2) (.val (.call 19 (.cons (.idx (.var 0) (.cst (.int 0))) .nil))) b21_1) b21_2))
/-- _law_down_lots: 0:order 1:found 2:lot 3:size 4:a 5:b -/
def r21 : Row := ⟨"_law_down_lots", topS 25, ["order", "found", "lot", "size", "a", "b"], .code 1 6 b21⟩
def b22_0 : Ss := (.cons (.set false 1 (.bin .add (.var 1) (.lc [4, 5] (.tup [(.v 4), (.v 5)]) (.enum (.var 0)) (.yes (.and (.e (.cmp .ne (.var 2) (.var 4))) (.e (.prim .all (.cons (.lc [6] (.v 6) (.val (.var 3)) .no (.cmp .inn (.var 6) (.var 5))) .nil))))) (.tup (.cons (.var 2) (.cons (.var 4) .nil)))))) .nil)
def b22_1 : Ss := (.cons (.ret (.tup (.cons (.prim .len (.cons (.var 0) .nil)) (.cons (.prim .tuple (.cons (.var 1) .nil)) .nil)))) .nil)
def b22 : Ss := (.cons (.set false 1 (.lst .nil)) (.cons (.for_ (.tup [(.v 2), (.v 3)]) (.enum (.var 0)) b22_0) b22_1))
/-- _law_within: 0:some 1:pairs 2:i 3:one 4:j 5:other 6:x -/
def r22 : Row := ⟨"_law_within", topS 26, ["some", "pairs", "i", "one", "j", "other", "x"], .code 1 7 b22⟩
def b23 : Ss := (.cons (.set false 2 (.call 16 (.cons (.var 0) (.cons (.var 1) .nil)))) (.cons (.ret (.idx (.lc [3] (.v 3) (.val (.var 2)) (.yes (.e (.cmp .eq (.lc [4] (.v 4) (.val (.var 2)) (.yes (.not (.e (.call 15 (.cons (.var 0) (.cons (.var 3) (.cons (.var 4) .nil))))))) (.var 4)) (.lst .nil)))) (.var 3)) (.cst (.int 0)))) .nil))
/-- _law_join: 0:lattice 1:lot 2:some 3:m 4:x -/
def r23 : Row := ⟨"_law_join", topS 27, ["lattice", "lot", "some", "m", "x"], .code 2 5 b23⟩
def b24_0 : Ss := (.cons (.ite (.or (.e (.cmp .eq (.idx (.var 2) (.var 3)) (.idx (.var 2) (.var 4)))) (.e (.cmp .ne (.cmp .inn (.tup (.cons (.var 3) (.cons (.var 4) .nil))) (.idx (.var 0) (.cst (.int 1)))) (.cmp .inn (.tup (.cons (.idx (.var 2) (.var 3)) (.cons (.idx (.var 2) (.var 4)) .nil))) (.idx (.var 1) (.cst (.int 1))))))) (.cons (.ret (.cst (.bool false))) .nil) .nil) .nil)
def b24_1 : Ss := (.cons (.for_ (.v 4) (.val (.lc [4] (.v 4) (.rng .no (.idx (.var 0) (.cst (.int 0)))) (.yes (.e (.cmp .ne (.var 4) (.var 3)))) (.var 4))) b24_0) .nil)
def b24 : Ss := (.cons (.for_ (.v 3) (.rng .no (.idx (.var 0) (.cst (.int 0)))) b24_1) (.cons (.ret (.cst (.bool true))) .nil))
/-- _law_stands: 0:order 1:lattice 2:places 3:a 4:b -/
def r24 : Row := ⟨"_law_stands", topS 28, ["order", "lattice", "places", "a", "b"], .code 3 5 b24⟩
def b25 : Ss := (.cons (.set false 2 (.call 11 (.cons (.var 0) (.cons (.cst (.int 3)) .nil)))) (.cons (.set false 3 (.ife (.e (.cmp .eq (.var 2) (.cst (.int 0)))) (.call 21 (.cons (.var 1) .nil)) (.ife (.e (.cmp .eq (.var 2) (.cst (.int 1)))) (.call 19 (.cons (.idx (.var 1) (.cst (.int 0))) .nil)) (.call 20 (.cons (.var 1) .nil))))) (.cons (.set false 4 (.lc [8] (.v 8) (.rng .no (.idx (.var 1) (.cst (.int 0)))) .no (.meth .index (.var 3) (.cons (.call 17 (.cons (.var 1) (.cons (.tup (.cons (.var 8) .nil)) .nil))) .nil)))) (.cons (.set false 5 (.call 22 (.cons (.var 3) .nil))) (.cons (.set false 6 (.call 12 (.cons (.var 0) (.cons (.rg false .no (.idx (.var 5) (.cst (.int 0)))) .nil)))) (.cons (.set false 7 (.prim .tuple (.cons (.prim .sorted (.cons (.lc [10, 11] (.tup [(.v 10), (.v 11)]) (.val (.idx (.var 5) (.cst (.int 1)))) .no (.tup (.cons (.idx (.var 6) (.var 10)) (.cons (.idx (.var 6) (.var 11)) .nil)))) .nil)) .nil))) (.cons (.ret (.tup (.cons (.tup (.cons (.idx (.var 5) (.cst (.int 0))) (.cons (.var 7) .nil))) (.cons (.prim .tuple (.cons (.lc [9] (.v 9) (.val (.var 4)) .no (.idx (.var 6) (.var 9))) .nil)) .nil)))) .nil)))))))
/-- _law_round: 0:source 1:order 2:road 3:some 4:places 5:lattice 6:names 7:pairs 8:work 9:place 10:i 11:j -/
def r25 : Row := ⟨"_law_round", topS 29, ["source", "order", "road", "some", "places", "lattice", "names", "pairs", "work", "place", "i", "j"], .code 2 12 b25⟩
def rows : List Row := [r0, r1, r2, r3, r4, r5, r6, r7, r8, r9, r10, r11, r12, r13, r14, r15, r16, r17, r18, r19, r20, r21, r22, r23, r24, r25]
def lawN : List Str := ["script", "source", "lap", "order", "held", "told", "turn", "n", "mine", "shown", "due", "lattice", "places", "some", "work", "lot", "x"]
/-- law: 0:script 1:source 2:lap 3:order 4:held 5:told 6:turn 7:n 8:mine 9:shown 10:due 11:lattice 12:places 13:some 14:work 15:lot 16:x -/
def lawB_0 : Ss := (.cons (.set true 13 (.prim .list (.cons (.var 12) .nil))) (.cons (.seti 13 (.call 11 (.cons (.var 1) (.cons (.var 7) .nil))) (.call 11 (.cons (.var 1) (.cons (.idx (.var 11) (.cst (.int 0))) .nil)))) (.frz 13 (.cons (.ite (.e (.cmp .ne (.prim .repr (.cons (.call 9 (.cons (.var 3) (.cons (.var 11) (.cons (.prim .tuple (.cons (.var 13) .nil)) .nil)))) .nil)) (.prim .repr (.cons (.call 24 (.cons (.var 3) (.cons (.var 11) (.cons (.var 13) .nil)))) .nil)))) (.cons (.ret (.cst (.bool false))) .nil) .nil) .nil))))
def lawB_1 : Ss := (.cons (.ite (.or (.e (.cmp .ne (.prim .repr (.cons (.lst (.cons (.var 11) (.cons (.var 12) .nil))) .nil)) (.var 4))) (.e (.cmp .ne (.prim .repr (.cons (.var 3) .nil)) (.var 9)))) (.cons (.ret (.cst (.bool false))) .nil) .nil) .nil)
def lawB_2 : Ss := (.cons (.for_ (.v 6) (.rng .no (.cst (.int 4))) lawB_0) lawB_1)
def lawB_3 : Ss := (.cons (.ite (.e (.cmp .ne (.lc [14] (.v 14) (.rng .no (.var 7)) (.yes (.e (.cmp .ne (.idx (.var 5) (.meth .index (.var 8) (.cons (.call 17 (.cons (.var 3) (.cons (.tup (.cons (.var 14) .nil)) .nil))) .nil))) (.idx (.var 12) (.var 14))))) (.var 14)) (.lst .nil))) (.cons (.ret (.cst (.bool false))) .nil) .nil) lawB_2)
def lawB_4 : Ss := (.cons (.ite (.not (.e (.call 24 (.cons (.var 10) (.cons (.var 11) (.cons (.var 5) .nil)))))) (.cons (.ret (.cst (.bool false))) .nil) .nil) lawB_3)
def lawB_5 : Ss := (.cons (.set false 5 (.call 10 (.cons (.var 3) (.cons (.var 11) (.cons (.var 12) .nil))))) (.cons (.ite (.e (.cmp .ne (.prim .repr (.cons (.var 5) .nil)) (.prim .repr (.cons (.prim .tuple (.cons (.lc [15] (.v 15) (.val (.var 8)) .no (.call 23 (.cons (.var 11) (.cons (.prim .tuple (.cons (.lc [16] (.v 16) (.val (.var 15)) .no (.idx (.var 12) (.var 16))) .nil)) .nil)))) .nil)) .nil)))) (.cons (.ret (.cst (.bool false))) .nil) .nil) lawB_4))
def lawB_6 : Ss := (.cons (.asg (.tup [(.v 11), (.v 12)]) (.call 25 (.cons (.var 1) (.cons (.var 3) .nil)))) (.cons (.set false 4 (.prim .repr (.cons (.lst (.cons (.var 11) (.cons (.var 12) .nil))) .nil))) (.cons (.ite (.or (.e (.cmp .isn (.call 9 (.cons (.var 3) (.cons (.var 11) (.cons (.var 12) .nil)))) (.cst (.bool true)))) (.e (.cmp .lt (.idx (.var 11) (.cst (.int 0))) (.prim .len (.cons (.var 8) .nil))))) (.cons (.ret (.cst (.bool false))) .nil) .nil) lawB_5)))
def lawB_7 : Ss := (.cons (.set false 3 (.call 14 (.cons (.var 1) (.cons (.idx (.lst (.cons (.cst (.int 3)) (.cons (.cst (.int 4)) (.cons (.cst (.int 5)) .nil)))) (.var 2)) .nil)))) (.cons (.par [(false, 7), (false, 8)] (.cons (.idx (.var 3) (.cst (.int 0))) (.cons (.call 20 (.cons (.var 3) .nil)) .nil))) (.cons (.par [(false, 9), (false, 10)] (.cons (.prim .repr (.cons (.var 3) .nil)) (.cons (.call 22 (.cons (.var 8) .nil)) .nil))) (.cons (.ite (.or (.e (.cmp .ne (.prim .repr (.cons (.call 5 (.cons (.var 3) .nil)) .nil)) (.prim .repr (.cons (.var 10) .nil)))) (.e (.cmp .isn (.call 8 (.cons (.var 10) .nil)) (.cst (.bool true))))) (.cons (.ret (.cst (.bool false))) .nil) .nil) lawB_6))))
def lawB : Ss := (.cons (.for_ (.v 2) (.rng .no (.cst (.int 3))) lawB_7) (.cons (.ret (.cst (.bool true))) .nil))
/-- law at 30, _law_open_cells at 14 -/
theorem rows_ok : rows.all (chkRow (tabOf rows)) = true := by decide +kernel
def restOf : List PySem.Stmt → List PySem.Stmt
  | _ :: r => r
  | [] => []
theorem law_ok : (fsB lawN (lawN.take 1) (defScope (topS 30)) && chkSs lawN (tabOf rows) (defScope (topS 30)) lawB (restOf (defBody (topS 30)))) = true := by decide +kernel
section
open PySem.Spec PyProof.Rows
variable {P : Program} {w : World} {K : PySem.W.Frag} {mg : Str → Option Value} {base : Heap}
theorem pick_fn {k f : Nat} {C : Calls} {a : Addr} {fd : FuncData} (F : Fun K "_law_pick" "_law_pick" sPick a fd) (hb : ∀ x ∈ bltNames, mg x = none) (len : ∀ (vs : List V) (H : Hp) (Q : VK) (E : XK), spC C f vs H Q E → vs.length = 2) (hC : ∀ bs Q, C f bs Q → 1 ≤ k ∧ bs.length = 2 ∧ semPick bs Q) :
    FnG P w K mg base (k + 1) a fd ["source", "most"] (spC C f) :=
  (FnG.of (ok_pick (k := k) F hb)).imp (fun vs H Q h => pick_of (fun bs Q c => (hC bs Q c).2.2) vs H Q h) len
theorem mixed_fn {k f : Nat} {C : Calls} {a : Addr} {fd : FuncData} (laid : Laid K mg rows) (F : Fun K "_law_any_order" "_law_any_order" sMixed a fd) (hb : ∀ x ∈ bltNames, mg x = none) (len : ∀ (vs : List V) (H : Hp) (Q : VK) (E : XK), spC C f vs H Q E → vs.length = 2) (hC : ∀ bs Q, C f bs Q → 1 ≤ k ∧ bs.length = 2 ∧ semMixed bs Q) :
    FnG P w K mg base (k + 1) a fd ["source", "things"] (spC C f) := by
  obtain ⟨a1, fd1, F1, g1, b1⟩ := laid r11 (by simp [rows])
  cases k with
  | zero => exact ⟨len, fun A outer s H args us vs Q _ _ _ _ _ ⟨S, Z, bs, Q0, _, _, _, _, h5, _⟩ => absurd (hC _ _ h5).1 (by omega)⟩
  | succ k => exact (FnG.of (ok_mixed (k := k) F hb F1 b1 g1)).imp (fun vs H Q h => mixed_of (fun bs Q c => (hC bs Q c).2.2) vs H Q h) len
end
theorem hd0 {k : Nat} {x0 x1 x2 : B} (h0 : isRd x0 = true) (h1 : isRd x1 = true) (h2 : isRd x2 = true) : callF (progOf rows) (k + 1) 0 [x0, x1, x2] = fun Q => execs (callF (progOf rows) k) b0 [some x0, some x1, some x2] (koF Q) := cf_code (np := 3) (ns := 3) (body := b0) rfl rfl (by simp [h0, h1, h2])
theorem hd1 {k : Nat} {x0 x1 : B} (h0 : isRd x0 = true) (h1 : isRd x1 = true) : callF (progOf rows) (k + 1) 1 [x0, x1] = fun Q => execs (callF (progOf rows) k) b1 [some x0, some x1, none, none] (koF Q) := cf_code (np := 2) (ns := 4) (body := b1) rfl rfl (by simp [h0, h1])
theorem hd2 {k : Nat} {x0 x1 : B} (h0 : isRd x0 = true) (h1 : isRd x1 = true) : callF (progOf rows) (k + 1) 2 [x0, x1] = fun Q => execs (callF (progOf rows) k) b2 [some x0, some x1, none, none] (koF Q) := cf_code (np := 2) (ns := 4) (body := b2) rfl rfl (by simp [h0, h1])
theorem hd3 {k : Nat} {x0 x1 : B} (h0 : isRd x0 = true) (h1 : isRd x1 = true) : callF (progOf rows) (k + 1) 3 [x0, x1] = fun Q => execs (callF (progOf rows) k) b3 [some x0, some x1] (koF Q) := cf_code (np := 2) (ns := 2) (body := b3) rfl rfl (by simp [h0, h1])
theorem hd4 {k : Nat} {x0 : B} (h0 : isRd x0 = true) : callF (progOf rows) (k + 1) 4 [x0] = fun Q => execs (callF (progOf rows) k) b4 [some x0, none, none, none, none, none, none] (koF Q) := cf_code (np := 1) (ns := 7) (body := b4) rfl rfl (by simp [h0])
theorem hd5 {k : Nat} {x0 : B} (h0 : isRd x0 = true) : callF (progOf rows) (k + 1) 5 [x0] = fun Q => execs (callF (progOf rows) k) b5 [some x0, none, none, none, none, none, none, none] (koF Q) := cf_code (np := 1) (ns := 8) (body := b5) rfl rfl (by simp [h0])
theorem hd6 {k : Nat} {x0 x1 : B} (h0 : isRd x0 = true) (h1 : isRd x1 = true) : callF (progOf rows) (k + 1) 6 [x0, x1] = fun Q => execs (callF (progOf rows) k) b6 [some x0, some x1, none, none, none, none] (koF Q) := cf_code (np := 2) (ns := 6) (body := b6) rfl rfl (by simp [h0, h1])
theorem hd7 {k : Nat} {x0 x1 : B} (h0 : isRd x0 = true) (h1 : isRd x1 = true) : callF (progOf rows) (k + 1) 7 [x0, x1] = fun Q => execs (callF (progOf rows) k) b7 [some x0, some x1, none, none, none, none] (koF Q) := cf_code (np := 2) (ns := 6) (body := b7) rfl rfl (by simp [h0, h1])
theorem hd8 {k : Nat} {x0 : B} (h0 : isRd x0 = true) : callF (progOf rows) (k + 1) 8 [x0] = fun Q => execs (callF (progOf rows) k) b8 [some x0, none, none] (koF Q) := cf_code (np := 1) (ns := 3) (body := b8) rfl rfl (by simp [h0])
theorem hd9 {k : Nat} {x0 x1 x2 : B} (h0 : isRd x0 = true) (h1 : isRd x1 = true) (h2 : isRd x2 = true) : callF (progOf rows) (k + 1) 9 [x0, x1, x2] = fun Q => execs (callF (progOf rows) k) b9 [some x0, some x1, some x2, none, none, none, none] (koF Q) := cf_code (np := 3) (ns := 7) (body := b9) rfl rfl (by simp [h0, h1, h2])
theorem hd10 {k : Nat} {x0 x1 x2 : B} (h0 : isRd x0 = true) (h1 : isRd x1 = true) (h2 : isRd x2 = true) : callF (progOf rows) (k + 1) 10 [x0, x1, x2] = fun Q => execs (callF (progOf rows) k) b10 [some x0, some x1, some x2, none, none] (koF Q) := cf_code (np := 3) (ns := 5) (body := b10) rfl rfl (by simp [h0, h1, h2])
theorem hd13 {k : Nat} {x0 x1 : B} (h0 : isRd x0 = true) (h1 : isRd x1 = true) : callF (progOf rows) (k + 1) 13 [x0, x1] = fun Q => execs (callF (progOf rows) k) b13 [some x0, some x1, none, none, none, none, none] (koF Q) := cf_code (np := 2) (ns := 7) (body := b13) rfl rfl (by simp [h0, h1])
theorem hd14 {k : Nat} {x0 x1 : B} (h0 : isRd x0 = true) (h1 : isRd x1 = true) : callF (progOf rows) (k + 1) 14 [x0, x1] = fun Q => execs (callF (progOf rows) k) b14 [some x0, some x1, none, none, none, none, none, none, none, none] (koF Q) := cf_code (np := 2) (ns := 10) (body := b14) rfl rfl (by simp [h0, h1])
theorem hd15 {k : Nat} {x0 x1 x2 : B} (h0 : isRd x0 = true) (h1 : isRd x1 = true) (h2 : isRd x2 = true) : callF (progOf rows) (k + 1) 15 [x0, x1, x2] = fun Q => execs (callF (progOf rows) k) b15 [some x0, some x1, some x2] (koF Q) := cf_code (np := 3) (ns := 3) (body := b15) rfl rfl (by simp [h0, h1, h2])
theorem hd16 {k : Nat} {x0 x1 : B} (h0 : isRd x0 = true) (h1 : isRd x1 = true) : callF (progOf rows) (k + 1) 16 [x0, x1] = fun Q => execs (callF (progOf rows) k) b16 [some x0, some x1, none, none] (koF Q) := cf_code (np := 2) (ns := 4) (body := b16) rfl rfl (by simp [h0, h1])
theorem hd17 {k : Nat} {x0 x1 : B} (h0 : isRd x0 = true) (h1 : isRd x1 = true) : callF (progOf rows) (k + 1) 17 [x0, x1] = fun Q => execs (callF (progOf rows) k) b17 [some x0, some x1, none, none] (koF Q) := cf_code (np := 2) (ns := 4) (body := b17) rfl rfl (by simp [h0, h1])
theorem hd18 {k : Nat} {x0 x1 : B} (h0 : isRd x0 = true) (h1 : isRd x1 = true) : callF (progOf rows) (k + 1) 18 [x0, x1] = fun Q => execs (callF (progOf rows) k) b18 [some x0, some x1] (koF Q) := cf_code (np := 2) (ns := 2) (body := b18) rfl rfl (by simp [h0, h1])
theorem hd19 {k : Nat} {x0 : B} (h0 : isRd x0 = true) : callF (progOf rows) (k + 1) 19 [x0] = fun Q => execs (callF (progOf rows) k) b19 [some x0, none, none, none] (koF Q) := cf_code (np := 1) (ns := 4) (body := b19) rfl rfl (by simp [h0])
theorem hd20 {k : Nat} {x0 : B} (h0 : isRd x0 = true) : callF (progOf rows) (k + 1) 20 [x0] = fun Q => execs (callF (progOf rows) k) b20 [some x0, none, none, none] (koF Q) := cf_code (np := 1) (ns := 4) (body := b20) rfl rfl (by simp [h0])
theorem hd21 {k : Nat} {x0 : B} (h0 : isRd x0 = true) : callF (progOf rows) (k + 1) 21 [x0] = fun Q => execs (callF (progOf rows) k) b21 [some x0, none, none, none, none, none] (koF Q) := cf_code (np := 1) (ns := 6) (body := b21) rfl rfl (by simp [h0])
theorem hd22 {k : Nat} {x0 : B} (h0 : isRd x0 = true) : callF (progOf rows) (k + 1) 22 [x0] = fun Q => execs (callF (progOf rows) k) b22 [some x0, none, none, none, none, none, none] (koF Q) := cf_code (np := 1) (ns := 7) (body := b22) rfl rfl (by simp [h0])
theorem hd23 {k : Nat} {x0 x1 : B} (h0 : isRd x0 = true) (h1 : isRd x1 = true) : callF (progOf rows) (k + 1) 23 [x0, x1] = fun Q => execs (callF (progOf rows) k) b23 [some x0, some x1, none, none, none] (koF Q) := cf_code (np := 2) (ns := 5) (body := b23) rfl rfl (by simp [h0, h1])
theorem hd24 {k : Nat} {x0 x1 x2 : B} (h0 : isRd x0 = true) (h1 : isRd x1 = true) (h2 : isRd x2 = true) : callF (progOf rows) (k + 1) 24 [x0, x1, x2] = fun Q => execs (callF (progOf rows) k) b24 [some x0, some x1, some x2, none, none] (koF Q) := cf_code (np := 3) (ns := 5) (body := b24) rfl rfl (by simp [h0, h1, h2])
theorem hd25 {k : Nat} {x0 x1 : B} (h0 : isRd x0 = true) (h1 : isRd x1 = true) : callF (progOf rows) (k + 1) 25 [x0, x1] = fun Q => execs (callF (progOf rows) k) b25 [some x0, some x1, none, none, none, none, none, none, none, none, none, none] (koF Q) := cf_code (np := 2) (ns := 12) (body := b25) rfl rfl (by simp [h0, h1])
end PD
set_option maxHeartbeats 4000000
/-! K59e: above, under, shut, home: the program's and the law's. -/
namespace PD
open PySem L2
abbrev CG (k : Nat) : Calls := callF (progOf rows) k
def leqB (ps : List (Int × Int)) (a b : Int) : Bool := decide (a = b) || mb (a, b) ps
def abv (n : Nat) (ps : List (Int × Int)) (l : List Int) : List Int := (rg n).filter fun v => l.all fun x => leqB ps x v
def und (n : Nat) (ps : List (Int × Int)) (l : List Int) : List Int := (rg n).filter fun v => l.all fun x => leqB ps v x
def shu (n : Nat) (ps : List (Int × Int)) (l : List Int) : List Int := und n ps (abv n ps l)
theorem rng_ok {n : Nat} (hn : n ≤ 1000) : RgOk 0 (n : Int) := rgOk_small (by decide) (by decide) (by omega) (by omega)
theorem ixOk {n : Nat} {i : Int} (h0 : 0 ≤ i) (h : i < n) : IxOk n i := ⟨by omega, h⟩
theorem gd_ok {α : Type} {c : Prop} (h : c) (A : W α) : gd c A = A := by funext Q; exact propext ⟨fun z => z.2, fun z => ⟨h, z⟩⟩
section
variable {k n : Nat} {ps : List (Int × Int)} {Q : D → Prop}
theorem e_nb (a b : Int) : CG (k + 1) 0 [.sh (en (od n ps)), .sh (en a), .sh (en b)] = rt (en (leqB ps a b)) := by
  unfold CG; rw [hd0 rfl rfl rfl]
  unfold b0
  funext Q
  simp only [wbo_var, ar_var, bo_cst, bo_bin, bo_neg, bo_not, bo_and, bo_or, bo_cmp, bo_chain, bo_ife, bo_tup, bo_lst, bo_dnew, bo_idx, bo_slc, bo_rev, bo_call, bo_prim, bo_isi, bo_lc, bo_rg, sh_rt, sh_gd, sh_bd, ar_cst, ar_bin, ar_neg, ar_not, ar_and, ar_or, ar_cmp, ar_chain, ar_ife, ar_tup, ar_lst, ar_dnew, ar_idx, ar_slc, ar_rev, ar_call, ar_prim, ar_isi, ar_lc, ar_rg, e_var, e_cst, e_bin, e_neg, e_not, e_and, e_or, e_cmp, e_chain, e_ife, e_tup, e_lst, e_dnew, e_idx, e_slc, e_rev, e_call, e_prim, e_isi, e_lc, e_rg, wt_and, wt_or, wt_not, wt_e, vs_nil, vs_cons, vs_star, vb_nil, vb_cons, va_nil, va_cons, vo_no, vo_yes, vc_no, vc_yes, vi_val, vi_valf, vi_rng, vi_zip, vi_zipf, getD_0, getD_s, a_v, a_p, Option.bind_some, x_nil, x_cons, x_ite, exec, koF, parW, sets_n, sets_c, rt_ap, bd_ap, gd_ap, ite_ap, bd_rt, rt_bd, bd_bd, bd_gd, gd_gd, gd_true, bd_ite, ite_rt, ite_gd1, ite_gd2, lift_rt, b_and, b_and2, b_or, b_or2, ite_en, look_z, look_s, lookB_z, lookB_o, lookB_s, lookA_z, lookA_c, lookA_s, lookO_o, lookO_s, List.getElem?_cons_zero, List.getElem?_cons_succ, List.set_cons_zero, List.set_cons_succ, Bool.false_eq_true, if_false, if_true, wipeN_n, wipeN_c, free_n, free_c, nOwn_n, nOwn_s, nOwn_c, Bool.true_and, true_and, List.length_cons, List.length_nil, Nat.zero_add, Nat.reduceAdd, Nat.reduceLeDiff, sz, i_en, b_en, l_en, t_en, tl_en, p_en, l1_en, t1_en, snoc_en, app_en, isL_l, c_eq, c_ne, c_inL, c_inT, c_ninL, c_ninT, c_eqE, c_neE, c_eqU, c_neU, c_lt, c_gt, c_le, c_ge, dp_int, dp_bool, dp_unit, dp_list, dp_tu, dp_pair, Nat.max_self, tr_b, tr_i, tr_l, tr_t, o_add, o_sub, o_mul, o_div, o_mod, o_shl, o_shr, o_band, o_neg, o_addL, o_addT, mulB1, i01, x_list, x_tup, x_p0, x_p1, s_list, s_tup, r_list, lt_list, lt_tup, ls_list, q_lenL, q_lenT, q_tupL, q_tupT, q_listL, q_listT, q_all, q_any, q_sum, q_max, q_min, q_int, q_abs, g_rng, toI_en, lcW_en, lcM_all, lcM_if, lcM_gd, List.map_id', List.all_map, List.any_map, Bool.not_true, Bool.not_false, List.length_map, ii_and, ii_or, Option.getD_some, List.isEmpty_map, isEmpty_filterB, Function.comp_def, id_eq, bo_sset, ar_sset, e_sset, sset_en, ssetL_en, bo_meth, bo_disp, ar_meth, ar_disp, e_meth, e_disp, vp_nil, vp_cons, vi_enum, vi_enumf, vi_rng3, x_dct, c_inD, c_ninD, s_dct, isL_d, q_lenD, q_listD, d_int, d_tu, d_pair, enum_en, index_en, mOk_l, od_1, od_2, false_implies, Bool.and_true, and_true, implies_true, forall_const, ite_some, s_lst, x_frz, frz_o, frz_h, frz_s, Option.getD_none, Int.one_mul, forW_en, gd_ff, sz_lt, List.append_nil, List.nil_append, Bool.not_not, t0_en, l0_en]
  rfl
theorem e_leq (a b : Int) : CG (k + 1) 15 [.sh (en (od n ps)), .sh (en a), .sh (en b)] = rt (en (leqB ps a b)) := by
  unfold CG; rw [hd15 rfl rfl rfl]
  unfold b15
  funext Q
  simp only [wbo_var, ar_var, bo_cst, bo_bin, bo_neg, bo_not, bo_and, bo_or, bo_cmp, bo_chain, bo_ife, bo_tup, bo_lst, bo_dnew, bo_idx, bo_slc, bo_rev, bo_call, bo_prim, bo_isi, bo_lc, bo_rg, sh_rt, sh_gd, sh_bd, ar_cst, ar_bin, ar_neg, ar_not, ar_and, ar_or, ar_cmp, ar_chain, ar_ife, ar_tup, ar_lst, ar_dnew, ar_idx, ar_slc, ar_rev, ar_call, ar_prim, ar_isi, ar_lc, ar_rg, e_var, e_cst, e_bin, e_neg, e_not, e_and, e_or, e_cmp, e_chain, e_ife, e_tup, e_lst, e_dnew, e_idx, e_slc, e_rev, e_call, e_prim, e_isi, e_lc, e_rg, wt_and, wt_or, wt_not, wt_e, vs_nil, vs_cons, vs_star, vb_nil, vb_cons, va_nil, va_cons, vo_no, vo_yes, vc_no, vc_yes, vi_val, vi_valf, vi_rng, vi_zip, vi_zipf, getD_0, getD_s, a_v, a_p, Option.bind_some, x_nil, x_cons, x_ite, exec, koF, parW, sets_n, sets_c, rt_ap, bd_ap, gd_ap, ite_ap, bd_rt, rt_bd, bd_bd, bd_gd, gd_gd, gd_true, bd_ite, ite_rt, ite_gd1, ite_gd2, lift_rt, b_and, b_and2, b_or, b_or2, ite_en, look_z, look_s, lookB_z, lookB_o, lookB_s, lookA_z, lookA_c, lookA_s, lookO_o, lookO_s, List.getElem?_cons_zero, List.getElem?_cons_succ, List.set_cons_zero, List.set_cons_succ, Bool.false_eq_true, if_false, if_true, wipeN_n, wipeN_c, free_n, free_c, nOwn_n, nOwn_s, nOwn_c, Bool.true_and, true_and, List.length_cons, List.length_nil, Nat.zero_add, Nat.reduceAdd, Nat.reduceLeDiff, sz, i_en, b_en, l_en, t_en, tl_en, p_en, l1_en, t1_en, snoc_en, app_en, isL_l, c_eq, c_ne, c_inL, c_inT, c_ninL, c_ninT, c_eqE, c_neE, c_eqU, c_neU, c_lt, c_gt, c_le, c_ge, dp_int, dp_bool, dp_unit, dp_list, dp_tu, dp_pair, Nat.max_self, tr_b, tr_i, tr_l, tr_t, o_add, o_sub, o_mul, o_div, o_mod, o_shl, o_shr, o_band, o_neg, o_addL, o_addT, mulB1, i01, x_list, x_tup, x_p0, x_p1, s_list, s_tup, r_list, lt_list, lt_tup, ls_list, q_lenL, q_lenT, q_tupL, q_tupT, q_listL, q_listT, q_all, q_any, q_sum, q_max, q_min, q_int, q_abs, g_rng, toI_en, lcW_en, lcM_all, lcM_if, lcM_gd, List.map_id', List.all_map, List.any_map, Bool.not_true, Bool.not_false, List.length_map, ii_and, ii_or, Option.getD_some, List.isEmpty_map, isEmpty_filterB, Function.comp_def, id_eq, bo_sset, ar_sset, e_sset, sset_en, ssetL_en, bo_meth, bo_disp, ar_meth, ar_disp, e_meth, e_disp, vp_nil, vp_cons, vi_enum, vi_enumf, vi_rng3, x_dct, c_inD, c_ninD, s_dct, isL_d, q_lenD, q_listD, d_int, d_tu, d_pair, enum_en, index_en, mOk_l, od_1, od_2, false_implies, Bool.and_true, and_true, implies_true, forall_const, ite_some, s_lst, x_frz, frz_o, frz_h, frz_s, Option.getD_none, Int.one_mul, forW_en, gd_ff, sz_lt, List.append_nil, List.nil_append, Bool.not_not, t0_en, l0_en]
  rfl
theorem all_of_any {α : Type} (p : α → Bool) (xs : List α) : (!(xs.any fun x => !p x)) = xs.all p := by
  rw [List.all_eq_not_any_not]
theorem e_above (hn : n ≤ 1000) (l : List Int) : CG (k + 2) 1 [.sh (en (od n ps)), .sh (en (Tu.mk l))] = rt (en (Tu.mk (abv n ps l))) := by
  unfold CG; rw [hd1 rfl rfl]
  unfold b1
  funext Q
  have e := @e_nb k n ps
  unfold CG at e
  simp only [wbo_var, ar_var, bo_cst, bo_bin, bo_neg, bo_not, bo_and, bo_or, bo_cmp, bo_chain, bo_ife, bo_tup, bo_lst, bo_dnew, bo_idx, bo_slc, bo_rev, bo_call, bo_prim, bo_isi, bo_lc, bo_rg, sh_rt, sh_gd, sh_bd, ar_cst, ar_bin, ar_neg, ar_not, ar_and, ar_or, ar_cmp, ar_chain, ar_ife, ar_tup, ar_lst, ar_dnew, ar_idx, ar_slc, ar_rev, ar_call, ar_prim, ar_isi, ar_lc, ar_rg, e_var, e_cst, e_bin, e_neg, e_not, e_and, e_or, e_cmp, e_chain, e_ife, e_tup, e_lst, e_dnew, e_idx, e_slc, e_rev, e_call, e_prim, e_isi, e_lc, e_rg, wt_and, wt_or, wt_not, wt_e, vs_nil, vs_cons, vs_star, vb_nil, vb_cons, va_nil, va_cons, vo_no, vo_yes, vc_no, vc_yes, vi_val, vi_valf, vi_rng, vi_zip, vi_zipf, getD_0, getD_s, a_v, a_p, Option.bind_some, x_nil, x_cons, x_ite, exec, koF, parW, sets_n, sets_c, rt_ap, bd_ap, gd_ap, ite_ap, bd_rt, rt_bd, bd_bd, bd_gd, gd_gd, gd_true, bd_ite, ite_rt, ite_gd1, ite_gd2, lift_rt, b_and, b_and2, b_or, b_or2, ite_en, look_z, look_s, lookB_z, lookB_o, lookB_s, lookA_z, lookA_c, lookA_s, lookO_o, lookO_s, List.getElem?_cons_zero, List.getElem?_cons_succ, List.set_cons_zero, List.set_cons_succ, Bool.false_eq_true, if_false, if_true, wipeN_n, wipeN_c, free_n, free_c, nOwn_n, nOwn_s, nOwn_c, Bool.true_and, true_and, List.length_cons, List.length_nil, Nat.zero_add, Nat.reduceAdd, Nat.reduceLeDiff, sz, i_en, b_en, l_en, t_en, tl_en, p_en, l1_en, t1_en, snoc_en, app_en, isL_l, c_eq, c_ne, c_inL, c_inT, c_ninL, c_ninT, c_eqE, c_neE, c_eqU, c_neU, c_lt, c_gt, c_le, c_ge, dp_int, dp_bool, dp_unit, dp_list, dp_tu, dp_pair, Nat.max_self, tr_b, tr_i, tr_l, tr_t, o_add, o_sub, o_mul, o_div, o_mod, o_shl, o_shr, o_band, o_neg, o_addL, o_addT, mulB1, i01, x_list, x_tup, x_p0, x_p1, s_list, s_tup, r_list, lt_list, lt_tup, ls_list, q_lenL, q_lenT, q_tupL, q_tupT, q_listL, q_listT, q_all, q_any, q_sum, q_max, q_min, q_int, q_abs, g_rng, toI_en, lcW_en, lcM_all, lcM_if, lcM_gd, List.map_id', List.all_map, List.any_map, Bool.not_true, Bool.not_false, List.length_map, ii_and, ii_or, Option.getD_some, List.isEmpty_map, isEmpty_filterB, Function.comp_def, id_eq, bo_sset, ar_sset, e_sset, sset_en, ssetL_en, bo_meth, bo_disp, ar_meth, ar_disp, e_meth, e_disp, vp_nil, vp_cons, vi_enum, vi_enumf, vi_rng3, x_dct, c_inD, c_ninD, s_dct, isL_d, q_lenD, q_listD, d_int, d_tu, d_pair, enum_en, index_en, mOk_l, od_1, od_2, false_implies, Bool.and_true, and_true, implies_true, forall_const, ite_some, s_lst, x_frz, frz_o, frz_h, frz_s, Option.getD_none, Int.one_mul, forW_en, gd_ff, sz_lt, List.append_nil, List.nil_append, Bool.not_not, t0_en, l0_en]
  simp only [e]
  simp only [wbo_var, ar_var, bo_cst, bo_bin, bo_neg, bo_not, bo_and, bo_or, bo_cmp, bo_chain, bo_ife, bo_tup, bo_lst, bo_dnew, bo_idx, bo_slc, bo_rev, bo_call, bo_prim, bo_isi, bo_lc, bo_rg, sh_rt, sh_gd, sh_bd, ar_cst, ar_bin, ar_neg, ar_not, ar_and, ar_or, ar_cmp, ar_chain, ar_ife, ar_tup, ar_lst, ar_dnew, ar_idx, ar_slc, ar_rev, ar_call, ar_prim, ar_isi, ar_lc, ar_rg, e_var, e_cst, e_bin, e_neg, e_not, e_and, e_or, e_cmp, e_chain, e_ife, e_tup, e_lst, e_dnew, e_idx, e_slc, e_rev, e_call, e_prim, e_isi, e_lc, e_rg, wt_and, wt_or, wt_not, wt_e, vs_nil, vs_cons, vs_star, vb_nil, vb_cons, va_nil, va_cons, vo_no, vo_yes, vc_no, vc_yes, vi_val, vi_valf, vi_rng, vi_zip, vi_zipf, getD_0, getD_s, a_v, a_p, Option.bind_some, x_nil, x_cons, x_ite, exec, koF, parW, sets_n, sets_c, rt_ap, bd_ap, gd_ap, ite_ap, bd_rt, rt_bd, bd_bd, bd_gd, gd_gd, gd_true, bd_ite, ite_rt, ite_gd1, ite_gd2, lift_rt, b_and, b_and2, b_or, b_or2, ite_en, look_z, look_s, lookB_z, lookB_o, lookB_s, lookA_z, lookA_c, lookA_s, lookO_o, lookO_s, List.getElem?_cons_zero, List.getElem?_cons_succ, List.set_cons_zero, List.set_cons_succ, Bool.false_eq_true, if_false, if_true, wipeN_n, wipeN_c, free_n, free_c, nOwn_n, nOwn_s, nOwn_c, Bool.true_and, true_and, List.length_cons, List.length_nil, Nat.zero_add, Nat.reduceAdd, Nat.reduceLeDiff, sz, i_en, b_en, l_en, t_en, tl_en, p_en, l1_en, t1_en, snoc_en, app_en, isL_l, c_eq, c_ne, c_inL, c_inT, c_ninL, c_ninT, c_eqE, c_neE, c_eqU, c_neU, c_lt, c_gt, c_le, c_ge, dp_int, dp_bool, dp_unit, dp_list, dp_tu, dp_pair, Nat.max_self, tr_b, tr_i, tr_l, tr_t, o_add, o_sub, o_mul, o_div, o_mod, o_shl, o_shr, o_band, o_neg, o_addL, o_addT, mulB1, i01, x_list, x_tup, x_p0, x_p1, s_list, s_tup, r_list, lt_list, lt_tup, ls_list, q_lenL, q_lenT, q_tupL, q_tupT, q_listL, q_listT, q_all, q_any, q_sum, q_max, q_min, q_int, q_abs, g_rng, toI_en, lcW_en, lcM_all, lcM_if, lcM_gd, List.map_id', List.all_map, List.any_map, Bool.not_true, Bool.not_false, List.length_map, ii_and, ii_or, Option.getD_some, List.isEmpty_map, isEmpty_filterB, Function.comp_def, id_eq, bo_sset, ar_sset, e_sset, sset_en, ssetL_en, bo_meth, bo_disp, ar_meth, ar_disp, e_meth, e_disp, vp_nil, vp_cons, vi_enum, vi_enumf, vi_rng3, x_dct, c_inD, c_ninD, s_dct, isL_d, q_lenD, q_listD, d_int, d_tu, d_pair, enum_en, index_en, mOk_l, od_1, od_2, false_implies, Bool.and_true, and_true, implies_true, forall_const, ite_some, s_lst, x_frz, frz_o, frz_h, frz_s, Option.getD_none, Int.one_mul, forW_en, gd_ff, sz_lt, List.append_nil, List.nil_append, Bool.not_not, t0_en, l0_en]
  rw [rgI_rg]
  exact propext ⟨fun h => h.2, fun h => ⟨rng_ok hn, h⟩⟩
theorem e_under (hn : n ≤ 1000) (l : List Int) : CG (k + 2) 2 [.sh (en (od n ps)), .sh (en (Tu.mk l))] = rt (en (Tu.mk (und n ps l))) := by
  unfold CG; rw [hd2 rfl rfl]
  unfold b2
  funext Q
  have e := @e_nb k n ps
  unfold CG at e
  simp only [wbo_var, ar_var, bo_cst, bo_bin, bo_neg, bo_not, bo_and, bo_or, bo_cmp, bo_chain, bo_ife, bo_tup, bo_lst, bo_dnew, bo_idx, bo_slc, bo_rev, bo_call, bo_prim, bo_isi, bo_lc, bo_rg, sh_rt, sh_gd, sh_bd, ar_cst, ar_bin, ar_neg, ar_not, ar_and, ar_or, ar_cmp, ar_chain, ar_ife, ar_tup, ar_lst, ar_dnew, ar_idx, ar_slc, ar_rev, ar_call, ar_prim, ar_isi, ar_lc, ar_rg, e_var, e_cst, e_bin, e_neg, e_not, e_and, e_or, e_cmp, e_chain, e_ife, e_tup, e_lst, e_dnew, e_idx, e_slc, e_rev, e_call, e_prim, e_isi, e_lc, e_rg, wt_and, wt_or, wt_not, wt_e, vs_nil, vs_cons, vs_star, vb_nil, vb_cons, va_nil, va_cons, vo_no, vo_yes, vc_no, vc_yes, vi_val, vi_valf, vi_rng, vi_zip, vi_zipf, getD_0, getD_s, a_v, a_p, Option.bind_some, x_nil, x_cons, x_ite, exec, koF, parW, sets_n, sets_c, rt_ap, bd_ap, gd_ap, ite_ap, bd_rt, rt_bd, bd_bd, bd_gd, gd_gd, gd_true, bd_ite, ite_rt, ite_gd1, ite_gd2, lift_rt, b_and, b_and2, b_or, b_or2, ite_en, look_z, look_s, lookB_z, lookB_o, lookB_s, lookA_z, lookA_c, lookA_s, lookO_o, lookO_s, List.getElem?_cons_zero, List.getElem?_cons_succ, List.set_cons_zero, List.set_cons_succ, Bool.false_eq_true, if_false, if_true, wipeN_n, wipeN_c, free_n, free_c, nOwn_n, nOwn_s, nOwn_c, Bool.true_and, true_and, List.length_cons, List.length_nil, Nat.zero_add, Nat.reduceAdd, Nat.reduceLeDiff, sz, i_en, b_en, l_en, t_en, tl_en, p_en, l1_en, t1_en, snoc_en, app_en, isL_l, c_eq, c_ne, c_inL, c_inT, c_ninL, c_ninT, c_eqE, c_neE, c_eqU, c_neU, c_lt, c_gt, c_le, c_ge, dp_int, dp_bool, dp_unit, dp_list, dp_tu, dp_pair, Nat.max_self, tr_b, tr_i, tr_l, tr_t, o_add, o_sub, o_mul, o_div, o_mod, o_shl, o_shr, o_band, o_neg, o_addL, o_addT, mulB1, i01, x_list, x_tup, x_p0, x_p1, s_list, s_tup, r_list, lt_list, lt_tup, ls_list, q_lenL, q_lenT, q_tupL, q_tupT, q_listL, q_listT, q_all, q_any, q_sum, q_max, q_min, q_int, q_abs, g_rng, toI_en, lcW_en, lcM_all, lcM_if, lcM_gd, List.map_id', List.all_map, List.any_map, Bool.not_true, Bool.not_false, List.length_map, ii_and, ii_or, Option.getD_some, List.isEmpty_map, isEmpty_filterB, Function.comp_def, id_eq, bo_sset, ar_sset, e_sset, sset_en, ssetL_en, bo_meth, bo_disp, ar_meth, ar_disp, e_meth, e_disp, vp_nil, vp_cons, vi_enum, vi_enumf, vi_rng3, x_dct, c_inD, c_ninD, s_dct, isL_d, q_lenD, q_listD, d_int, d_tu, d_pair, enum_en, index_en, mOk_l, od_1, od_2, false_implies, Bool.and_true, and_true, implies_true, forall_const, ite_some, s_lst, x_frz, frz_o, frz_h, frz_s, Option.getD_none, Int.one_mul, forW_en, gd_ff, sz_lt, List.append_nil, List.nil_append, Bool.not_not, t0_en, l0_en]
  simp only [e]
  simp only [wbo_var, ar_var, bo_cst, bo_bin, bo_neg, bo_not, bo_and, bo_or, bo_cmp, bo_chain, bo_ife, bo_tup, bo_lst, bo_dnew, bo_idx, bo_slc, bo_rev, bo_call, bo_prim, bo_isi, bo_lc, bo_rg, sh_rt, sh_gd, sh_bd, ar_cst, ar_bin, ar_neg, ar_not, ar_and, ar_or, ar_cmp, ar_chain, ar_ife, ar_tup, ar_lst, ar_dnew, ar_idx, ar_slc, ar_rev, ar_call, ar_prim, ar_isi, ar_lc, ar_rg, e_var, e_cst, e_bin, e_neg, e_not, e_and, e_or, e_cmp, e_chain, e_ife, e_tup, e_lst, e_dnew, e_idx, e_slc, e_rev, e_call, e_prim, e_isi, e_lc, e_rg, wt_and, wt_or, wt_not, wt_e, vs_nil, vs_cons, vs_star, vb_nil, vb_cons, va_nil, va_cons, vo_no, vo_yes, vc_no, vc_yes, vi_val, vi_valf, vi_rng, vi_zip, vi_zipf, getD_0, getD_s, a_v, a_p, Option.bind_some, x_nil, x_cons, x_ite, exec, koF, parW, sets_n, sets_c, rt_ap, bd_ap, gd_ap, ite_ap, bd_rt, rt_bd, bd_bd, bd_gd, gd_gd, gd_true, bd_ite, ite_rt, ite_gd1, ite_gd2, lift_rt, b_and, b_and2, b_or, b_or2, ite_en, look_z, look_s, lookB_z, lookB_o, lookB_s, lookA_z, lookA_c, lookA_s, lookO_o, lookO_s, List.getElem?_cons_zero, List.getElem?_cons_succ, List.set_cons_zero, List.set_cons_succ, Bool.false_eq_true, if_false, if_true, wipeN_n, wipeN_c, free_n, free_c, nOwn_n, nOwn_s, nOwn_c, Bool.true_and, true_and, List.length_cons, List.length_nil, Nat.zero_add, Nat.reduceAdd, Nat.reduceLeDiff, sz, i_en, b_en, l_en, t_en, tl_en, p_en, l1_en, t1_en, snoc_en, app_en, isL_l, c_eq, c_ne, c_inL, c_inT, c_ninL, c_ninT, c_eqE, c_neE, c_eqU, c_neU, c_lt, c_gt, c_le, c_ge, dp_int, dp_bool, dp_unit, dp_list, dp_tu, dp_pair, Nat.max_self, tr_b, tr_i, tr_l, tr_t, o_add, o_sub, o_mul, o_div, o_mod, o_shl, o_shr, o_band, o_neg, o_addL, o_addT, mulB1, i01, x_list, x_tup, x_p0, x_p1, s_list, s_tup, r_list, lt_list, lt_tup, ls_list, q_lenL, q_lenT, q_tupL, q_tupT, q_listL, q_listT, q_all, q_any, q_sum, q_max, q_min, q_int, q_abs, g_rng, toI_en, lcW_en, lcM_all, lcM_if, lcM_gd, List.map_id', List.all_map, List.any_map, Bool.not_true, Bool.not_false, List.length_map, ii_and, ii_or, Option.getD_some, List.isEmpty_map, isEmpty_filterB, Function.comp_def, id_eq, bo_sset, ar_sset, e_sset, sset_en, ssetL_en, bo_meth, bo_disp, ar_meth, ar_disp, e_meth, e_disp, vp_nil, vp_cons, vi_enum, vi_enumf, vi_rng3, x_dct, c_inD, c_ninD, s_dct, isL_d, q_lenD, q_listD, d_int, d_tu, d_pair, enum_en, index_en, mOk_l, od_1, od_2, false_implies, Bool.and_true, and_true, implies_true, forall_const, ite_some, s_lst, x_frz, frz_o, frz_h, frz_s, Option.getD_none, Int.one_mul, forW_en, gd_ff, sz_lt, List.append_nil, List.nil_append, Bool.not_not, t0_en, l0_en]
  rw [rgI_rg]
  exact propext ⟨fun h => h.2, fun h => ⟨rng_ok hn, h⟩⟩
theorem e_home (hn : n ≤ 1000) (w : Int) : CG (k + 3) 3 [.sh (en (od n ps)), .sh (en w)] = rt (en (Tu.mk (und n ps [w]))) := by
  unfold CG; rw [hd3 rfl rfl]
  unfold b3
  funext Q
  have e2 := @e_under k n ps hn
  unfold CG at e2
  simp only [wbo_var, ar_var, bo_cst, bo_bin, bo_neg, bo_not, bo_and, bo_or, bo_cmp, bo_chain, bo_ife, bo_tup, bo_lst, bo_dnew, bo_idx, bo_slc, bo_rev, bo_call, bo_prim, bo_isi, bo_lc, bo_rg, sh_rt, sh_gd, sh_bd, ar_cst, ar_bin, ar_neg, ar_not, ar_and, ar_or, ar_cmp, ar_chain, ar_ife, ar_tup, ar_lst, ar_dnew, ar_idx, ar_slc, ar_rev, ar_call, ar_prim, ar_isi, ar_lc, ar_rg, e_var, e_cst, e_bin, e_neg, e_not, e_and, e_or, e_cmp, e_chain, e_ife, e_tup, e_lst, e_dnew, e_idx, e_slc, e_rev, e_call, e_prim, e_isi, e_lc, e_rg, wt_and, wt_or, wt_not, wt_e, vs_nil, vs_cons, vs_star, vb_nil, vb_cons, va_nil, va_cons, vo_no, vo_yes, vc_no, vc_yes, vi_val, vi_valf, vi_rng, vi_zip, vi_zipf, getD_0, getD_s, a_v, a_p, Option.bind_some, x_nil, x_cons, x_ite, exec, koF, parW, sets_n, sets_c, rt_ap, bd_ap, gd_ap, ite_ap, bd_rt, rt_bd, bd_bd, bd_gd, gd_gd, gd_true, bd_ite, ite_rt, ite_gd1, ite_gd2, lift_rt, b_and, b_and2, b_or, b_or2, ite_en, look_z, look_s, lookB_z, lookB_o, lookB_s, lookA_z, lookA_c, lookA_s, lookO_o, lookO_s, List.getElem?_cons_zero, List.getElem?_cons_succ, List.set_cons_zero, List.set_cons_succ, Bool.false_eq_true, if_false, if_true, wipeN_n, wipeN_c, free_n, free_c, nOwn_n, nOwn_s, nOwn_c, Bool.true_and, true_and, List.length_cons, List.length_nil, Nat.zero_add, Nat.reduceAdd, Nat.reduceLeDiff, sz, i_en, b_en, l_en, t_en, tl_en, p_en, l1_en, t1_en, snoc_en, app_en, isL_l, c_eq, c_ne, c_inL, c_inT, c_ninL, c_ninT, c_eqE, c_neE, c_eqU, c_neU, c_lt, c_gt, c_le, c_ge, dp_int, dp_bool, dp_unit, dp_list, dp_tu, dp_pair, Nat.max_self, tr_b, tr_i, tr_l, tr_t, o_add, o_sub, o_mul, o_div, o_mod, o_shl, o_shr, o_band, o_neg, o_addL, o_addT, mulB1, i01, x_list, x_tup, x_p0, x_p1, s_list, s_tup, r_list, lt_list, lt_tup, ls_list, q_lenL, q_lenT, q_tupL, q_tupT, q_listL, q_listT, q_all, q_any, q_sum, q_max, q_min, q_int, q_abs, g_rng, toI_en, lcW_en, lcM_all, lcM_if, lcM_gd, List.map_id', List.all_map, List.any_map, Bool.not_true, Bool.not_false, List.length_map, ii_and, ii_or, Option.getD_some, List.isEmpty_map, isEmpty_filterB, Function.comp_def, id_eq, bo_sset, ar_sset, e_sset, sset_en, ssetL_en, bo_meth, bo_disp, ar_meth, ar_disp, e_meth, e_disp, vp_nil, vp_cons, vi_enum, vi_enumf, vi_rng3, x_dct, c_inD, c_ninD, s_dct, isL_d, q_lenD, q_listD, d_int, d_tu, d_pair, enum_en, index_en, mOk_l, od_1, od_2, false_implies, Bool.and_true, and_true, implies_true, forall_const, ite_some, s_lst, x_frz, frz_o, frz_h, frz_s, Option.getD_none, Int.one_mul, forW_en, gd_ff, sz_lt, List.append_nil, List.nil_append, Bool.not_not, t0_en, l0_en]
  rw [e2]; rfl
theorem e_lawAbove (hn : n ≤ 1000) (l : List Int) : CG (k + 2) 16 [.sh (en (od n ps)), .sh (en (Tu.mk l))] = rt (en (Tu.mk (abv n ps l))) := by
  unfold CG; rw [hd16 rfl rfl]
  unfold b16
  funext Q
  have e := @e_leq k n ps
  unfold CG at e
  simp only [wbo_var, ar_var, bo_cst, bo_bin, bo_neg, bo_not, bo_and, bo_or, bo_cmp, bo_chain, bo_ife, bo_tup, bo_lst, bo_dnew, bo_idx, bo_slc, bo_rev, bo_call, bo_prim, bo_isi, bo_lc, bo_rg, sh_rt, sh_gd, sh_bd, ar_cst, ar_bin, ar_neg, ar_not, ar_and, ar_or, ar_cmp, ar_chain, ar_ife, ar_tup, ar_lst, ar_dnew, ar_idx, ar_slc, ar_rev, ar_call, ar_prim, ar_isi, ar_lc, ar_rg, e_var, e_cst, e_bin, e_neg, e_not, e_and, e_or, e_cmp, e_chain, e_ife, e_tup, e_lst, e_dnew, e_idx, e_slc, e_rev, e_call, e_prim, e_isi, e_lc, e_rg, wt_and, wt_or, wt_not, wt_e, vs_nil, vs_cons, vs_star, vb_nil, vb_cons, va_nil, va_cons, vo_no, vo_yes, vc_no, vc_yes, vi_val, vi_valf, vi_rng, vi_zip, vi_zipf, getD_0, getD_s, a_v, a_p, Option.bind_some, x_nil, x_cons, x_ite, exec, koF, parW, sets_n, sets_c, rt_ap, bd_ap, gd_ap, ite_ap, bd_rt, rt_bd, bd_bd, bd_gd, gd_gd, gd_true, bd_ite, ite_rt, ite_gd1, ite_gd2, lift_rt, b_and, b_and2, b_or, b_or2, ite_en, look_z, look_s, lookB_z, lookB_o, lookB_s, lookA_z, lookA_c, lookA_s, lookO_o, lookO_s, List.getElem?_cons_zero, List.getElem?_cons_succ, List.set_cons_zero, List.set_cons_succ, Bool.false_eq_true, if_false, if_true, wipeN_n, wipeN_c, free_n, free_c, nOwn_n, nOwn_s, nOwn_c, Bool.true_and, true_and, List.length_cons, List.length_nil, Nat.zero_add, Nat.reduceAdd, Nat.reduceLeDiff, sz, i_en, b_en, l_en, t_en, tl_en, p_en, l1_en, t1_en, snoc_en, app_en, isL_l, c_eq, c_ne, c_inL, c_inT, c_ninL, c_ninT, c_eqE, c_neE, c_eqU, c_neU, c_lt, c_gt, c_le, c_ge, dp_int, dp_bool, dp_unit, dp_list, dp_tu, dp_pair, Nat.max_self, tr_b, tr_i, tr_l, tr_t, o_add, o_sub, o_mul, o_div, o_mod, o_shl, o_shr, o_band, o_neg, o_addL, o_addT, mulB1, i01, x_list, x_tup, x_p0, x_p1, s_list, s_tup, r_list, lt_list, lt_tup, ls_list, q_lenL, q_lenT, q_tupL, q_tupT, q_listL, q_listT, q_all, q_any, q_sum, q_max, q_min, q_int, q_abs, g_rng, toI_en, lcW_en, lcM_all, lcM_if, lcM_gd, List.map_id', List.all_map, List.any_map, Bool.not_true, Bool.not_false, List.length_map, ii_and, ii_or, Option.getD_some, List.isEmpty_map, isEmpty_filterB, Function.comp_def, id_eq, bo_sset, ar_sset, e_sset, sset_en, ssetL_en, bo_meth, bo_disp, ar_meth, ar_disp, e_meth, e_disp, vp_nil, vp_cons, vi_enum, vi_enumf, vi_rng3, x_dct, c_inD, c_ninD, s_dct, isL_d, q_lenD, q_listD, d_int, d_tu, d_pair, enum_en, index_en, mOk_l, od_1, od_2, false_implies, Bool.and_true, and_true, implies_true, forall_const, ite_some, s_lst, x_frz, frz_o, frz_h, frz_s, Option.getD_none, Int.one_mul, forW_en, gd_ff, sz_lt, List.append_nil, List.nil_append, Bool.not_not, t0_en, l0_en]
  simp only [e]
  simp only [wbo_var, ar_var, bo_cst, bo_bin, bo_neg, bo_not, bo_and, bo_or, bo_cmp, bo_chain, bo_ife, bo_tup, bo_lst, bo_dnew, bo_idx, bo_slc, bo_rev, bo_call, bo_prim, bo_isi, bo_lc, bo_rg, sh_rt, sh_gd, sh_bd, ar_cst, ar_bin, ar_neg, ar_not, ar_and, ar_or, ar_cmp, ar_chain, ar_ife, ar_tup, ar_lst, ar_dnew, ar_idx, ar_slc, ar_rev, ar_call, ar_prim, ar_isi, ar_lc, ar_rg, e_var, e_cst, e_bin, e_neg, e_not, e_and, e_or, e_cmp, e_chain, e_ife, e_tup, e_lst, e_dnew, e_idx, e_slc, e_rev, e_call, e_prim, e_isi, e_lc, e_rg, wt_and, wt_or, wt_not, wt_e, vs_nil, vs_cons, vs_star, vb_nil, vb_cons, va_nil, va_cons, vo_no, vo_yes, vc_no, vc_yes, vi_val, vi_valf, vi_rng, vi_zip, vi_zipf, getD_0, getD_s, a_v, a_p, Option.bind_some, x_nil, x_cons, x_ite, exec, koF, parW, sets_n, sets_c, rt_ap, bd_ap, gd_ap, ite_ap, bd_rt, rt_bd, bd_bd, bd_gd, gd_gd, gd_true, bd_ite, ite_rt, ite_gd1, ite_gd2, lift_rt, b_and, b_and2, b_or, b_or2, ite_en, look_z, look_s, lookB_z, lookB_o, lookB_s, lookA_z, lookA_c, lookA_s, lookO_o, lookO_s, List.getElem?_cons_zero, List.getElem?_cons_succ, List.set_cons_zero, List.set_cons_succ, Bool.false_eq_true, if_false, if_true, wipeN_n, wipeN_c, free_n, free_c, nOwn_n, nOwn_s, nOwn_c, Bool.true_and, true_and, List.length_cons, List.length_nil, Nat.zero_add, Nat.reduceAdd, Nat.reduceLeDiff, sz, i_en, b_en, l_en, t_en, tl_en, p_en, l1_en, t1_en, snoc_en, app_en, isL_l, c_eq, c_ne, c_inL, c_inT, c_ninL, c_ninT, c_eqE, c_neE, c_eqU, c_neU, c_lt, c_gt, c_le, c_ge, dp_int, dp_bool, dp_unit, dp_list, dp_tu, dp_pair, Nat.max_self, tr_b, tr_i, tr_l, tr_t, o_add, o_sub, o_mul, o_div, o_mod, o_shl, o_shr, o_band, o_neg, o_addL, o_addT, mulB1, i01, x_list, x_tup, x_p0, x_p1, s_list, s_tup, r_list, lt_list, lt_tup, ls_list, q_lenL, q_lenT, q_tupL, q_tupT, q_listL, q_listT, q_all, q_any, q_sum, q_max, q_min, q_int, q_abs, g_rng, toI_en, lcW_en, lcM_all, lcM_if, lcM_gd, List.map_id', List.all_map, List.any_map, Bool.not_true, Bool.not_false, List.length_map, ii_and, ii_or, Option.getD_some, List.isEmpty_map, isEmpty_filterB, Function.comp_def, id_eq, bo_sset, ar_sset, e_sset, sset_en, ssetL_en, bo_meth, bo_disp, ar_meth, ar_disp, e_meth, e_disp, vp_nil, vp_cons, vi_enum, vi_enumf, vi_rng3, x_dct, c_inD, c_ninD, s_dct, isL_d, q_lenD, q_listD, d_int, d_tu, d_pair, enum_en, index_en, mOk_l, od_1, od_2, false_implies, Bool.and_true, and_true, implies_true, forall_const, ite_some, s_lst, x_frz, frz_o, frz_h, frz_s, Option.getD_none, Int.one_mul, forW_en, gd_ff, sz_lt, List.append_nil, List.nil_append, Bool.not_not, t0_en, l0_en]
  simp only [all_of_any]
  rw [rgI_rg]
  exact propext ⟨fun h => h.2, fun h => ⟨rng_ok hn, h⟩⟩
theorem e_lawUnder (hn : n ≤ 1000) (l : List Int) : CG (k + 2) 17 [.sh (en (od n ps)), .sh (en (Tu.mk l))] = rt (en (Tu.mk (und n ps l))) := by
  unfold CG; rw [hd17 rfl rfl]
  unfold b17
  funext Q
  have e := @e_leq k n ps
  unfold CG at e
  simp only [wbo_var, ar_var, bo_cst, bo_bin, bo_neg, bo_not, bo_and, bo_or, bo_cmp, bo_chain, bo_ife, bo_tup, bo_lst, bo_dnew, bo_idx, bo_slc, bo_rev, bo_call, bo_prim, bo_isi, bo_lc, bo_rg, sh_rt, sh_gd, sh_bd, ar_cst, ar_bin, ar_neg, ar_not, ar_and, ar_or, ar_cmp, ar_chain, ar_ife, ar_tup, ar_lst, ar_dnew, ar_idx, ar_slc, ar_rev, ar_call, ar_prim, ar_isi, ar_lc, ar_rg, e_var, e_cst, e_bin, e_neg, e_not, e_and, e_or, e_cmp, e_chain, e_ife, e_tup, e_lst, e_dnew, e_idx, e_slc, e_rev, e_call, e_prim, e_isi, e_lc, e_rg, wt_and, wt_or, wt_not, wt_e, vs_nil, vs_cons, vs_star, vb_nil, vb_cons, va_nil, va_cons, vo_no, vo_yes, vc_no, vc_yes, vi_val, vi_valf, vi_rng, vi_zip, vi_zipf, getD_0, getD_s, a_v, a_p, Option.bind_some, x_nil, x_cons, x_ite, exec, koF, parW, sets_n, sets_c, rt_ap, bd_ap, gd_ap, ite_ap, bd_rt, rt_bd, bd_bd, bd_gd, gd_gd, gd_true, bd_ite, ite_rt, ite_gd1, ite_gd2, lift_rt, b_and, b_and2, b_or, b_or2, ite_en, look_z, look_s, lookB_z, lookB_o, lookB_s, lookA_z, lookA_c, lookA_s, lookO_o, lookO_s, List.getElem?_cons_zero, List.getElem?_cons_succ, List.set_cons_zero, List.set_cons_succ, Bool.false_eq_true, if_false, if_true, wipeN_n, wipeN_c, free_n, free_c, nOwn_n, nOwn_s, nOwn_c, Bool.true_and, true_and, List.length_cons, List.length_nil, Nat.zero_add, Nat.reduceAdd, Nat.reduceLeDiff, sz, i_en, b_en, l_en, t_en, tl_en, p_en, l1_en, t1_en, snoc_en, app_en, isL_l, c_eq, c_ne, c_inL, c_inT, c_ninL, c_ninT, c_eqE, c_neE, c_eqU, c_neU, c_lt, c_gt, c_le, c_ge, dp_int, dp_bool, dp_unit, dp_list, dp_tu, dp_pair, Nat.max_self, tr_b, tr_i, tr_l, tr_t, o_add, o_sub, o_mul, o_div, o_mod, o_shl, o_shr, o_band, o_neg, o_addL, o_addT, mulB1, i01, x_list, x_tup, x_p0, x_p1, s_list, s_tup, r_list, lt_list, lt_tup, ls_list, q_lenL, q_lenT, q_tupL, q_tupT, q_listL, q_listT, q_all, q_any, q_sum, q_max, q_min, q_int, q_abs, g_rng, toI_en, lcW_en, lcM_all, lcM_if, lcM_gd, List.map_id', List.all_map, List.any_map, Bool.not_true, Bool.not_false, List.length_map, ii_and, ii_or, Option.getD_some, List.isEmpty_map, isEmpty_filterB, Function.comp_def, id_eq, bo_sset, ar_sset, e_sset, sset_en, ssetL_en, bo_meth, bo_disp, ar_meth, ar_disp, e_meth, e_disp, vp_nil, vp_cons, vi_enum, vi_enumf, vi_rng3, x_dct, c_inD, c_ninD, s_dct, isL_d, q_lenD, q_listD, d_int, d_tu, d_pair, enum_en, index_en, mOk_l, od_1, od_2, false_implies, Bool.and_true, and_true, implies_true, forall_const, ite_some, s_lst, x_frz, frz_o, frz_h, frz_s, Option.getD_none, Int.one_mul, forW_en, gd_ff, sz_lt, List.append_nil, List.nil_append, Bool.not_not, t0_en, l0_en]
  simp only [e]
  simp only [wbo_var, ar_var, bo_cst, bo_bin, bo_neg, bo_not, bo_and, bo_or, bo_cmp, bo_chain, bo_ife, bo_tup, bo_lst, bo_dnew, bo_idx, bo_slc, bo_rev, bo_call, bo_prim, bo_isi, bo_lc, bo_rg, sh_rt, sh_gd, sh_bd, ar_cst, ar_bin, ar_neg, ar_not, ar_and, ar_or, ar_cmp, ar_chain, ar_ife, ar_tup, ar_lst, ar_dnew, ar_idx, ar_slc, ar_rev, ar_call, ar_prim, ar_isi, ar_lc, ar_rg, e_var, e_cst, e_bin, e_neg, e_not, e_and, e_or, e_cmp, e_chain, e_ife, e_tup, e_lst, e_dnew, e_idx, e_slc, e_rev, e_call, e_prim, e_isi, e_lc, e_rg, wt_and, wt_or, wt_not, wt_e, vs_nil, vs_cons, vs_star, vb_nil, vb_cons, va_nil, va_cons, vo_no, vo_yes, vc_no, vc_yes, vi_val, vi_valf, vi_rng, vi_zip, vi_zipf, getD_0, getD_s, a_v, a_p, Option.bind_some, x_nil, x_cons, x_ite, exec, koF, parW, sets_n, sets_c, rt_ap, bd_ap, gd_ap, ite_ap, bd_rt, rt_bd, bd_bd, bd_gd, gd_gd, gd_true, bd_ite, ite_rt, ite_gd1, ite_gd2, lift_rt, b_and, b_and2, b_or, b_or2, ite_en, look_z, look_s, lookB_z, lookB_o, lookB_s, lookA_z, lookA_c, lookA_s, lookO_o, lookO_s, List.getElem?_cons_zero, List.getElem?_cons_succ, List.set_cons_zero, List.set_cons_succ, Bool.false_eq_true, if_false, if_true, wipeN_n, wipeN_c, free_n, free_c, nOwn_n, nOwn_s, nOwn_c, Bool.true_and, true_and, List.length_cons, List.length_nil, Nat.zero_add, Nat.reduceAdd, Nat.reduceLeDiff, sz, i_en, b_en, l_en, t_en, tl_en, p_en, l1_en, t1_en, snoc_en, app_en, isL_l, c_eq, c_ne, c_inL, c_inT, c_ninL, c_ninT, c_eqE, c_neE, c_eqU, c_neU, c_lt, c_gt, c_le, c_ge, dp_int, dp_bool, dp_unit, dp_list, dp_tu, dp_pair, Nat.max_self, tr_b, tr_i, tr_l, tr_t, o_add, o_sub, o_mul, o_div, o_mod, o_shl, o_shr, o_band, o_neg, o_addL, o_addT, mulB1, i01, x_list, x_tup, x_p0, x_p1, s_list, s_tup, r_list, lt_list, lt_tup, ls_list, q_lenL, q_lenT, q_tupL, q_tupT, q_listL, q_listT, q_all, q_any, q_sum, q_max, q_min, q_int, q_abs, g_rng, toI_en, lcW_en, lcM_all, lcM_if, lcM_gd, List.map_id', List.all_map, List.any_map, Bool.not_true, Bool.not_false, List.length_map, ii_and, ii_or, Option.getD_some, List.isEmpty_map, isEmpty_filterB, Function.comp_def, id_eq, bo_sset, ar_sset, e_sset, sset_en, ssetL_en, bo_meth, bo_disp, ar_meth, ar_disp, e_meth, e_disp, vp_nil, vp_cons, vi_enum, vi_enumf, vi_rng3, x_dct, c_inD, c_ninD, s_dct, isL_d, q_lenD, q_listD, d_int, d_tu, d_pair, enum_en, index_en, mOk_l, od_1, od_2, false_implies, Bool.and_true, and_true, implies_true, forall_const, ite_some, s_lst, x_frz, frz_o, frz_h, frz_s, Option.getD_none, Int.one_mul, forW_en, gd_ff, sz_lt, List.append_nil, List.nil_append, Bool.not_not, t0_en, l0_en]
  simp only [all_of_any]
  rw [rgI_rg]
  exact propext ⟨fun h => h.2, fun h => ⟨rng_ok hn, h⟩⟩
theorem e_lawShut (hn : n ≤ 1000) (l : List Int) : CG (k + 3) 18 [.sh (en (od n ps)), .sh (en (Tu.mk l))] = rt (en (Tu.mk (shu n ps l))) := by
  unfold CG; rw [hd18 rfl rfl]
  unfold b18
  funext Q
  have e := @e_lawAbove k n ps hn
  have e2 := @e_lawUnder k n ps hn
  unfold CG at e e2
  simp only [wbo_var, ar_var, bo_cst, bo_bin, bo_neg, bo_not, bo_and, bo_or, bo_cmp, bo_chain, bo_ife, bo_tup, bo_lst, bo_dnew, bo_idx, bo_slc, bo_rev, bo_call, bo_prim, bo_isi, bo_lc, bo_rg, sh_rt, sh_gd, sh_bd, ar_cst, ar_bin, ar_neg, ar_not, ar_and, ar_or, ar_cmp, ar_chain, ar_ife, ar_tup, ar_lst, ar_dnew, ar_idx, ar_slc, ar_rev, ar_call, ar_prim, ar_isi, ar_lc, ar_rg, e_var, e_cst, e_bin, e_neg, e_not, e_and, e_or, e_cmp, e_chain, e_ife, e_tup, e_lst, e_dnew, e_idx, e_slc, e_rev, e_call, e_prim, e_isi, e_lc, e_rg, wt_and, wt_or, wt_not, wt_e, vs_nil, vs_cons, vs_star, vb_nil, vb_cons, va_nil, va_cons, vo_no, vo_yes, vc_no, vc_yes, vi_val, vi_valf, vi_rng, vi_zip, vi_zipf, getD_0, getD_s, a_v, a_p, Option.bind_some, x_nil, x_cons, x_ite, exec, koF, parW, sets_n, sets_c, rt_ap, bd_ap, gd_ap, ite_ap, bd_rt, rt_bd, bd_bd, bd_gd, gd_gd, gd_true, bd_ite, ite_rt, ite_gd1, ite_gd2, lift_rt, b_and, b_and2, b_or, b_or2, ite_en, look_z, look_s, lookB_z, lookB_o, lookB_s, lookA_z, lookA_c, lookA_s, lookO_o, lookO_s, List.getElem?_cons_zero, List.getElem?_cons_succ, List.set_cons_zero, List.set_cons_succ, Bool.false_eq_true, if_false, if_true, wipeN_n, wipeN_c, free_n, free_c, nOwn_n, nOwn_s, nOwn_c, Bool.true_and, true_and, List.length_cons, List.length_nil, Nat.zero_add, Nat.reduceAdd, Nat.reduceLeDiff, sz, i_en, b_en, l_en, t_en, tl_en, p_en, l1_en, t1_en, snoc_en, app_en, isL_l, c_eq, c_ne, c_inL, c_inT, c_ninL, c_ninT, c_eqE, c_neE, c_eqU, c_neU, c_lt, c_gt, c_le, c_ge, dp_int, dp_bool, dp_unit, dp_list, dp_tu, dp_pair, Nat.max_self, tr_b, tr_i, tr_l, tr_t, o_add, o_sub, o_mul, o_div, o_mod, o_shl, o_shr, o_band, o_neg, o_addL, o_addT, mulB1, i01, x_list, x_tup, x_p0, x_p1, s_list, s_tup, r_list, lt_list, lt_tup, ls_list, q_lenL, q_lenT, q_tupL, q_tupT, q_listL, q_listT, q_all, q_any, q_sum, q_max, q_min, q_int, q_abs, g_rng, toI_en, lcW_en, lcM_all, lcM_if, lcM_gd, List.map_id', List.all_map, List.any_map, Bool.not_true, Bool.not_false, List.length_map, ii_and, ii_or, Option.getD_some, List.isEmpty_map, isEmpty_filterB, Function.comp_def, id_eq, bo_sset, ar_sset, e_sset, sset_en, ssetL_en, bo_meth, bo_disp, ar_meth, ar_disp, e_meth, e_disp, vp_nil, vp_cons, vi_enum, vi_enumf, vi_rng3, x_dct, c_inD, c_ninD, s_dct, isL_d, q_lenD, q_listD, d_int, d_tu, d_pair, enum_en, index_en, mOk_l, od_1, od_2, false_implies, Bool.and_true, and_true, implies_true, forall_const, ite_some, s_lst, x_frz, frz_o, frz_h, frz_s, Option.getD_none, Int.one_mul, forW_en, gd_ff, sz_lt, List.append_nil, List.nil_append, Bool.not_not, t0_en, l0_en]
  rw [e]
  simp only [wbo_var, ar_var, bo_cst, bo_bin, bo_neg, bo_not, bo_and, bo_or, bo_cmp, bo_chain, bo_ife, bo_tup, bo_lst, bo_dnew, bo_idx, bo_slc, bo_rev, bo_call, bo_prim, bo_isi, bo_lc, bo_rg, sh_rt, sh_gd, sh_bd, ar_cst, ar_bin, ar_neg, ar_not, ar_and, ar_or, ar_cmp, ar_chain, ar_ife, ar_tup, ar_lst, ar_dnew, ar_idx, ar_slc, ar_rev, ar_call, ar_prim, ar_isi, ar_lc, ar_rg, e_var, e_cst, e_bin, e_neg, e_not, e_and, e_or, e_cmp, e_chain, e_ife, e_tup, e_lst, e_dnew, e_idx, e_slc, e_rev, e_call, e_prim, e_isi, e_lc, e_rg, wt_and, wt_or, wt_not, wt_e, vs_nil, vs_cons, vs_star, vb_nil, vb_cons, va_nil, va_cons, vo_no, vo_yes, vc_no, vc_yes, vi_val, vi_valf, vi_rng, vi_zip, vi_zipf, getD_0, getD_s, a_v, a_p, Option.bind_some, x_nil, x_cons, x_ite, exec, koF, parW, sets_n, sets_c, rt_ap, bd_ap, gd_ap, ite_ap, bd_rt, rt_bd, bd_bd, bd_gd, gd_gd, gd_true, bd_ite, ite_rt, ite_gd1, ite_gd2, lift_rt, b_and, b_and2, b_or, b_or2, ite_en, look_z, look_s, lookB_z, lookB_o, lookB_s, lookA_z, lookA_c, lookA_s, lookO_o, lookO_s, List.getElem?_cons_zero, List.getElem?_cons_succ, List.set_cons_zero, List.set_cons_succ, Bool.false_eq_true, if_false, if_true, wipeN_n, wipeN_c, free_n, free_c, nOwn_n, nOwn_s, nOwn_c, Bool.true_and, true_and, List.length_cons, List.length_nil, Nat.zero_add, Nat.reduceAdd, Nat.reduceLeDiff, sz, i_en, b_en, l_en, t_en, tl_en, p_en, l1_en, t1_en, snoc_en, app_en, isL_l, c_eq, c_ne, c_inL, c_inT, c_ninL, c_ninT, c_eqE, c_neE, c_eqU, c_neU, c_lt, c_gt, c_le, c_ge, dp_int, dp_bool, dp_unit, dp_list, dp_tu, dp_pair, Nat.max_self, tr_b, tr_i, tr_l, tr_t, o_add, o_sub, o_mul, o_div, o_mod, o_shl, o_shr, o_band, o_neg, o_addL, o_addT, mulB1, i01, x_list, x_tup, x_p0, x_p1, s_list, s_tup, r_list, lt_list, lt_tup, ls_list, q_lenL, q_lenT, q_tupL, q_tupT, q_listL, q_listT, q_all, q_any, q_sum, q_max, q_min, q_int, q_abs, g_rng, toI_en, lcW_en, lcM_all, lcM_if, lcM_gd, List.map_id', List.all_map, List.any_map, Bool.not_true, Bool.not_false, List.length_map, ii_and, ii_or, Option.getD_some, List.isEmpty_map, isEmpty_filterB, Function.comp_def, id_eq, bo_sset, ar_sset, e_sset, sset_en, ssetL_en, bo_meth, bo_disp, ar_meth, ar_disp, e_meth, e_disp, vp_nil, vp_cons, vi_enum, vi_enumf, vi_rng3, x_dct, c_inD, c_ninD, s_dct, isL_d, q_lenD, q_listD, d_int, d_tu, d_pair, enum_en, index_en, mOk_l, od_1, od_2, false_implies, Bool.and_true, and_true, implies_true, forall_const, ite_some, s_lst, x_frz, frz_o, frz_h, frz_s, Option.getD_none, Int.one_mul, forW_en, gd_ff, sz_lt, List.append_nil, List.nil_append, Bool.not_not, t0_en, l0_en]
  rw [e2]; rfl
end
end PD
set_option maxHeartbeats 4000000
/-! K59f: closed pairs, drawn orders. -/
namespace PD
open PySem L2
def putsD {κ ν : Type} [DecidableEq κ] (d : Dct κ ν) (ps : List (κ × ν)) : Dct κ ν := ps.foldl (fun d p => d.put p.1 p.2) d
theorem dputs_en {κ ν : Type} [DecidableEq κ] [Enc κ] [LEnc κ] [KEnc κ] [Enc ν] : ∀ (ps : List (κ × ν)) (d : Dct κ ν), PyData.dict (dputs (d.l.map fun p => (en p.1, en p.2)) (ps.map fun p => (en p.1, en p.2))) = en (putsD d ps)
  | [], _ => rfl
  | p :: ps, d => by
    have h := dput_en d p.1 p.2
    have h2 : dput (d.l.map fun p => (en p.1, en p.2)) (en p.1) (en p.2) = (d.put p.1 p.2).l.map fun p => (en p.1, en p.2) := PyData.dict.inj h
    show PyData.dict (dputs (dput (d.l.map fun p => (en p.1, en p.2)) (en p.1) (en p.2)) (ps.map fun p => (en p.1, en p.2))) = _
    rw [h2]
    exact dputs_en ps (d.put p.1 p.2)
theorem pairsD_en {κ ν : Type} [Enc κ] [Enc ν] : ∀ ps : List (κ × ν), pairsD (ps.map en) = some (ps.map fun p => (en p.1, en p.2))
  | [] => rfl
  | p :: ps => by
    show (pairsD (ps.map en)).map _ = _
    rw [pairsD_en ps]; rfl
theorem q_dictP {ν : Type} [Enc ν] (ps : List ((Int × Int) × ν)) : primD .dictOf [en ps] = some (en (putsD ⟨[]⟩ ps)) := by
  show (pairsD (ps.map en)).bind _ = _
  rw [pairsD_en, Option.bind_some, if_pos, ← dputs_en]
  · rfl
  · rw [Bool.or_eq_true]
    right
    rw [List.all_map, List.all_eq_true]
    intro p _; rfl
/-- the keys are apart, each is right -/
structure Dky {ν : Type} (T : Int × Int → Prop) (d : Dct (Int × Int) ν) : Prop where
  nd : d.keys.Nodup
  all : ∀ q ∈ d.keys, T q
theorem Dky.put {ν : Type} {T : Int × Int → Prop} {d : Dct (Int × Int) ν} (h : Dky T d) {p : Int × Int} {x : ν} (hp : T p) : Dky T (d.put p x) := by
  refine ⟨?_, fun q hq => ?_⟩
  · rw [Dct.keys_put]
    split
    · exact h.nd
    · rename_i hn
      exact List.nodup_append.mpr ⟨h.nd, by simp, fun a ha b hb => by
        have : b = p := by simpa using hb
        subst this
        exact fun e => hn (e ▸ ha)⟩
  · rw [Dct.keys_put] at hq
    split at hq
    · exact h.all q hq
    · rcases List.mem_append.mp hq with hq | hq
      · exact h.all q hq
      · have : q = p := by simpa using hq
        rw [this]; exact hp
theorem Dky.puts {ν : Type} {T : Int × Int → Prop} : ∀ {ps : List ((Int × Int) × ν)} {d : Dct (Int × Int) ν}, Dky T d → (∀ p ∈ ps, T p.1) → Dky T (putsD d ps)
  | [], _, h, _ => h
  | p :: ps, d, h, hp => Dky.puts (ps := ps) (h.put (hp p (List.mem_cons_self ..))) fun q hq => hp q (List.mem_cons_of_mem _ hq)
def csl (n : Nat) (ps : List (Int × Int)) (d : Dct (Int × Int) Bool) (x3 x4 x5 : Option B) : Nv := [some (.sh (en (n : Int))), some (.sh (en ps)), some (.own (en d)), x3, x4, x5, none]
section
variable {k n : Nat} {Q : D → Prop}
/-- what one pivot adds -/
def Piv (old : List (Int × Int)) (b : Int) (M : Int × Int → Prop) (ks : List (Int × Int)) : Prop := ∀ p, p ∈ ks ↔ p ∈ old ∨ (M p ∧ (p.1, b) ∈ old ∧ (b, p.2) ∈ old)
theorem Piv.l {old ks : List (Int × Int)} {b : Int} {M : Int × Int → Prop} (h : Piv old b M ks) {a : Int} : (a, b) ∈ ks ↔ (a, b) ∈ old := by
  rw [h]
  exact ⟨fun z => z.elim id fun z => z.2.1, .inl⟩
theorem Piv.r {old ks : List (Int × Int)} {b : Int} {M : Int × Int → Prop} (h : Piv old b M ks) {c : Int} : (b, c) ∈ ks ↔ (b, c) ∈ old := by
  rw [h]
  exact ⟨fun z => z.elim id fun z => z.2.2, .inl⟩
theorem Piv.mono {old ks : List (Int × Int)} {b : Int} {M M' : Int × Int → Prop} (h : Piv old b M ks) (e : ∀ p, (p.1, b) ∈ old → (b, p.2) ∈ old → (M p ↔ M' p)) : Piv old b M' ks := fun p => by
  rw [h]
  exact ⟨fun z => z.elim .inl fun z => .inr ⟨(e p z.2.1 z.2.2).mp z.1, z.2⟩, fun z => z.elim .inl fun z => .inr ⟨(e p z.2.1 z.2.2).mpr z.1, z.2⟩⟩
/-- closed at some pivots -/
def Clo (done : List Int) (ks : List (Int × Int)) : Prop := ∀ a b c, b ∈ done → (a, b) ∈ ks → (b, c) ∈ ks → (a, c) ∈ ks
theorem Piv.clo {old ks : List (Int × Int)} {b : Int} {done : List Int} (h : Piv old b (fun _ => True) ks) (hc : Clo done old) : Clo (done ++ [b]) ks := by
  intro x d y hd h1 h2
  have add : ∀ x y, (x, b) ∈ old → (b, y) ∈ old → (x, y) ∈ ks := fun x y a1 a2 => (h _).mpr (.inr ⟨trivial, a1, a2⟩)
  rcases List.mem_append.mp hd with hd | hd
  · rcases (h _).mp h1 with a | ⟨_, a1, a2⟩
    · rcases (h _).mp h2 with c | ⟨_, c1, c2⟩
      · exact (h _).mpr (.inl (hc x d y hd a c))
      · exact add _ _ (hc x d b hd a c1) c2
    · rcases (h _).mp h2 with c | ⟨_, c1, c2⟩
      · exact add _ _ a1 (hc b d y hd a2 c)
      · exact add _ _ a1 c2
  · have : d = b := by simpa using hd
    subst this
    exact add _ _ (h.l.mp h1) (h.r.mp h2)
theorem keys_mem_put {κ ν : Type} [DecidableEq κ] {d : Dct κ ν} {k j : κ} {v : ν} : j ∈ (d.put k v).keys ↔ j ∈ d.keys ∨ j = k := by
  rw [Dct.keys_put]
  split
  · rename_i h
    exact ⟨.inl, fun z => z.elim id fun z => z ▸ h⟩
  · rw [List.mem_append, List.mem_singleton]
theorem s_closed {ps : List (Int × Int)} {T : Int × Int → Prop} (hn : n ≤ 10) (hT : ∀ a k b, T (a, k) → T (k, b) → T (a, b)) (hI : ∀ p, T p → InR n p) (hi : ∀ p ∈ ps, T p) (q : ∀ qs, GO n qs → (∀ p ∈ qs, T p) → (∀ a b c, (a, b) ∈ qs → (b, c) ∈ qs → (a, c) ∈ qs) → Q (en (od n qs))) : CG (k + 1) 13 [.sh (en (n : Int)), .sh (en ps)] Q := by
  unfold CG; rw [hd13 rfl rfl]
  unfold b13
  simp only [wbo_var, ar_var, bo_cst, bo_bin, bo_neg, bo_not, bo_and, bo_or, bo_cmp, bo_chain, bo_ife, bo_tup, bo_lst, bo_dnew, bo_idx, bo_slc, bo_rev, bo_call, bo_prim, bo_isi, bo_lc, bo_rg, sh_rt, sh_gd, sh_bd, ar_cst, ar_bin, ar_neg, ar_not, ar_and, ar_or, ar_cmp, ar_chain, ar_ife, ar_tup, ar_lst, ar_dnew, ar_idx, ar_slc, ar_rev, ar_call, ar_prim, ar_isi, ar_lc, ar_rg, e_var, e_cst, e_bin, e_neg, e_not, e_and, e_or, e_cmp, e_chain, e_ife, e_tup, e_lst, e_dnew, e_idx, e_slc, e_rev, e_call, e_prim, e_isi, e_lc, e_rg, wt_and, wt_or, wt_not, wt_e, vs_nil, vs_cons, vs_star, vb_nil, vb_cons, va_nil, va_cons, vo_no, vo_yes, vc_no, vc_yes, vi_val, vi_valf, vi_rng, vi_zip, vi_zipf, getD_0, getD_s, a_v, a_p, Option.bind_some, x_nil, x_cons, x_ite, exec, koF, parW, sets_n, sets_c, rt_ap, bd_ap, gd_ap, ite_ap, bd_rt, rt_bd, bd_bd, bd_gd, gd_gd, gd_true, bd_ite, ite_rt, ite_gd1, ite_gd2, lift_rt, b_and, b_and2, b_or, b_or2, ite_en, look_z, look_s, lookB_z, lookB_o, lookB_s, lookA_z, lookA_c, lookA_s, lookO_o, lookO_s, List.getElem?_cons_zero, List.getElem?_cons_succ, List.set_cons_zero, List.set_cons_succ, Bool.false_eq_true, if_false, if_true, wipeN_n, wipeN_c, free_n, free_c, nOwn_n, nOwn_s, nOwn_c, Bool.true_and, true_and, List.length_cons, List.length_nil, Nat.zero_add, Nat.reduceAdd, Nat.reduceLeDiff, sz, i_en, b_en, l_en, t_en, tl_en, p_en, l1_en, t1_en, snoc_en, app_en, isL_l, c_eq, c_ne, c_inL, c_inT, c_ninL, c_ninT, c_eqE, c_neE, c_eqU, c_neU, c_lt, c_gt, c_le, c_ge, dp_int, dp_bool, dp_unit, dp_list, dp_tu, dp_pair, Nat.max_self, tr_b, tr_i, tr_l, tr_t, o_add, o_sub, o_mul, o_div, o_mod, o_shl, o_shr, o_band, o_neg, o_addL, o_addT, mulB1, i01, x_list, x_tup, x_p0, x_p1, s_list, s_tup, r_list, lt_list, lt_tup, ls_list, q_lenL, q_lenT, q_tupL, q_tupT, q_listL, q_listT, q_all, q_any, q_sum, q_max, q_min, q_int, q_abs, g_rng, toI_en, lcW_en, lcM_all, lcM_if, lcM_gd, List.map_id', List.all_map, List.any_map, Bool.not_true, Bool.not_false, List.length_map, ii_and, ii_or, Option.getD_some, List.isEmpty_map, isEmpty_filterB, Function.comp_def, id_eq, bo_sset, ar_sset, e_sset, sset_en, ssetL_en, bo_meth, bo_disp, ar_meth, ar_disp, e_meth, e_disp, vp_nil, vp_cons, vi_enum, vi_enumf, vi_rng3, x_dct, c_inD, c_ninD, s_dct, isL_d, q_lenD, q_listD, d_int, d_tu, d_pair, enum_en, index_en, mOk_l, od_1, od_2, false_implies, Bool.and_true, and_true, implies_true, forall_const, ite_some, s_lst, x_frz, frz_o, frz_h, frz_s, Option.getD_none, Int.one_mul, forW_en, gd_ff, sz_lt, List.append_nil, List.nil_append, Bool.not_not, t0_en, l0_en]
  rw [q_dictP]
  simp only [wbo_var, ar_var, bo_cst, bo_bin, bo_neg, bo_not, bo_and, bo_or, bo_cmp, bo_chain, bo_ife, bo_tup, bo_lst, bo_dnew, bo_idx, bo_slc, bo_rev, bo_call, bo_prim, bo_isi, bo_lc, bo_rg, sh_rt, sh_gd, sh_bd, ar_cst, ar_bin, ar_neg, ar_not, ar_and, ar_or, ar_cmp, ar_chain, ar_ife, ar_tup, ar_lst, ar_dnew, ar_idx, ar_slc, ar_rev, ar_call, ar_prim, ar_isi, ar_lc, ar_rg, e_var, e_cst, e_bin, e_neg, e_not, e_and, e_or, e_cmp, e_chain, e_ife, e_tup, e_lst, e_dnew, e_idx, e_slc, e_rev, e_call, e_prim, e_isi, e_lc, e_rg, wt_and, wt_or, wt_not, wt_e, vs_nil, vs_cons, vs_star, vb_nil, vb_cons, va_nil, va_cons, vo_no, vo_yes, vc_no, vc_yes, vi_val, vi_valf, vi_rng, vi_zip, vi_zipf, getD_0, getD_s, a_v, a_p, Option.bind_some, x_nil, x_cons, x_ite, exec, koF, parW, sets_n, sets_c, rt_ap, bd_ap, gd_ap, ite_ap, bd_rt, rt_bd, bd_bd, bd_gd, gd_gd, gd_true, bd_ite, ite_rt, ite_gd1, ite_gd2, lift_rt, b_and, b_and2, b_or, b_or2, ite_en, look_z, look_s, lookB_z, lookB_o, lookB_s, lookA_z, lookA_c, lookA_s, lookO_o, lookO_s, List.getElem?_cons_zero, List.getElem?_cons_succ, List.set_cons_zero, List.set_cons_succ, Bool.false_eq_true, if_false, if_true, wipeN_n, wipeN_c, free_n, free_c, nOwn_n, nOwn_s, nOwn_c, Bool.true_and, true_and, List.length_cons, List.length_nil, Nat.zero_add, Nat.reduceAdd, Nat.reduceLeDiff, sz, i_en, b_en, l_en, t_en, tl_en, p_en, l1_en, t1_en, snoc_en, app_en, isL_l, c_eq, c_ne, c_inL, c_inT, c_ninL, c_ninT, c_eqE, c_neE, c_eqU, c_neU, c_lt, c_gt, c_le, c_ge, dp_int, dp_bool, dp_unit, dp_list, dp_tu, dp_pair, Nat.max_self, tr_b, tr_i, tr_l, tr_t, o_add, o_sub, o_mul, o_div, o_mod, o_shl, o_shr, o_band, o_neg, o_addL, o_addT, mulB1, i01, x_list, x_tup, x_p0, x_p1, s_list, s_tup, r_list, lt_list, lt_tup, ls_list, q_lenL, q_lenT, q_tupL, q_tupT, q_listL, q_listT, q_all, q_any, q_sum, q_max, q_min, q_int, q_abs, g_rng, toI_en, lcW_en, lcM_all, lcM_if, lcM_gd, List.map_id', List.all_map, List.any_map, Bool.not_true, Bool.not_false, List.length_map, ii_and, ii_or, Option.getD_some, List.isEmpty_map, isEmpty_filterB, Function.comp_def, id_eq, bo_sset, ar_sset, e_sset, sset_en, ssetL_en, bo_meth, bo_disp, ar_meth, ar_disp, e_meth, e_disp, vp_nil, vp_cons, vi_enum, vi_enumf, vi_rng3, x_dct, c_inD, c_ninD, s_dct, isL_d, q_lenD, q_listD, d_int, d_tu, d_pair, enum_en, index_en, mOk_l, od_1, od_2, false_implies, Bool.and_true, and_true, implies_true, forall_const, ite_some, s_lst, x_frz, frz_o, frz_h, frz_s, Option.getD_none, Int.one_mul, forW_en, gd_ff, sz_lt, List.append_nil, List.nil_append, Bool.not_not, t0_en, l0_en]
  have hd : Dky T (putsD ⟨[]⟩ (ps.map fun a => (a, true))) := Dky.puts ⟨List.nodup_nil, fun q hq => nomatch hq⟩ fun p hp => by
    obtain ⟨a, ha, rfl⟩ := List.mem_map.mp hp
    exact hi a ha
  refine ⟨rng_ok (by omega), ?_⟩
  rw [rgI_rg]
  refine forL_inv (fun done ρ => ∃ d x3 x4 x5, ρ = csl n ps d x3 x4 x5 ∧ Dky T d ∧ Clo done d.keys) (done := []) ⟨_, none, none, none, rfl, hd, fun a b c h => nomatch h⟩ ?_ ?_
  · rintro done b _ ρ _ ⟨d, x3, x4, x5, rfl, hd, hc⟩ K hK
    unfold csl b13_2
    simp only [wbo_var, ar_var, bo_cst, bo_bin, bo_neg, bo_not, bo_and, bo_or, bo_cmp, bo_chain, bo_ife, bo_tup, bo_lst, bo_dnew, bo_idx, bo_slc, bo_rev, bo_call, bo_prim, bo_isi, bo_lc, bo_rg, sh_rt, sh_gd, sh_bd, ar_cst, ar_bin, ar_neg, ar_not, ar_and, ar_or, ar_cmp, ar_chain, ar_ife, ar_tup, ar_lst, ar_dnew, ar_idx, ar_slc, ar_rev, ar_call, ar_prim, ar_isi, ar_lc, ar_rg, e_var, e_cst, e_bin, e_neg, e_not, e_and, e_or, e_cmp, e_chain, e_ife, e_tup, e_lst, e_dnew, e_idx, e_slc, e_rev, e_call, e_prim, e_isi, e_lc, e_rg, wt_and, wt_or, wt_not, wt_e, vs_nil, vs_cons, vs_star, vb_nil, vb_cons, va_nil, va_cons, vo_no, vo_yes, vc_no, vc_yes, vi_val, vi_valf, vi_rng, vi_zip, vi_zipf, getD_0, getD_s, a_v, a_p, Option.bind_some, x_nil, x_cons, x_ite, exec, koF, parW, sets_n, sets_c, rt_ap, bd_ap, gd_ap, ite_ap, bd_rt, rt_bd, bd_bd, bd_gd, gd_gd, gd_true, bd_ite, ite_rt, ite_gd1, ite_gd2, lift_rt, b_and, b_and2, b_or, b_or2, ite_en, look_z, look_s, lookB_z, lookB_o, lookB_s, lookA_z, lookA_c, lookA_s, lookO_o, lookO_s, List.getElem?_cons_zero, List.getElem?_cons_succ, List.set_cons_zero, List.set_cons_succ, Bool.false_eq_true, if_false, if_true, wipeN_n, wipeN_c, free_n, free_c, nOwn_n, nOwn_s, nOwn_c, Bool.true_and, true_and, List.length_cons, List.length_nil, Nat.zero_add, Nat.reduceAdd, Nat.reduceLeDiff, sz, i_en, b_en, l_en, t_en, tl_en, p_en, l1_en, t1_en, snoc_en, app_en, isL_l, c_eq, c_ne, c_inL, c_inT, c_ninL, c_ninT, c_eqE, c_neE, c_eqU, c_neU, c_lt, c_gt, c_le, c_ge, dp_int, dp_bool, dp_unit, dp_list, dp_tu, dp_pair, Nat.max_self, tr_b, tr_i, tr_l, tr_t, o_add, o_sub, o_mul, o_div, o_mod, o_shl, o_shr, o_band, o_neg, o_addL, o_addT, mulB1, i01, x_list, x_tup, x_p0, x_p1, s_list, s_tup, r_list, lt_list, lt_tup, ls_list, q_lenL, q_lenT, q_tupL, q_tupT, q_listL, q_listT, q_all, q_any, q_sum, q_max, q_min, q_int, q_abs, g_rng, toI_en, lcW_en, lcM_all, lcM_if, lcM_gd, List.map_id', List.all_map, List.any_map, Bool.not_true, Bool.not_false, List.length_map, ii_and, ii_or, Option.getD_some, List.isEmpty_map, isEmpty_filterB, Function.comp_def, id_eq, bo_sset, ar_sset, e_sset, sset_en, ssetL_en, bo_meth, bo_disp, ar_meth, ar_disp, e_meth, e_disp, vp_nil, vp_cons, vi_enum, vi_enumf, vi_rng3, x_dct, c_inD, c_ninD, s_dct, isL_d, q_lenD, q_listD, d_int, d_tu, d_pair, enum_en, index_en, mOk_l, od_1, od_2, false_implies, Bool.and_true, and_true, implies_true, forall_const, ite_some, s_lst, x_frz, frz_o, frz_h, frz_s, Option.getD_none, Int.one_mul, forW_en, gd_ff, sz_lt, List.append_nil, List.nil_append, Bool.not_not, t0_en, l0_en]
    refine ⟨rng_ok (by omega), ?_⟩
    rw [rgI_rg]
    refine forL_inv (fun da ρ => ∃ d' x4 x5, ρ = csl n ps d' (some (.sh (en b))) x4 x5 ∧ Dky T d' ∧ Piv d.keys b (fun p => p.1 ∈ da) d'.keys) (done := []) ⟨d, x4, x5, rfl, hd, fun p => ⟨.inl, fun z => z.elim id fun z => nomatch z.1⟩⟩ ?_ ?_
    · rintro da a _ ρ _ ⟨d1, x4, x5, rfl, hd1, hp1⟩ K2 hK2
      unfold csl
      simp only [wbo_var, ar_var, bo_cst, bo_bin, bo_neg, bo_not, bo_and, bo_or, bo_cmp, bo_chain, bo_ife, bo_tup, bo_lst, bo_dnew, bo_idx, bo_slc, bo_rev, bo_call, bo_prim, bo_isi, bo_lc, bo_rg, sh_rt, sh_gd, sh_bd, ar_cst, ar_bin, ar_neg, ar_not, ar_and, ar_or, ar_cmp, ar_chain, ar_ife, ar_tup, ar_lst, ar_dnew, ar_idx, ar_slc, ar_rev, ar_call, ar_prim, ar_isi, ar_lc, ar_rg, e_var, e_cst, e_bin, e_neg, e_not, e_and, e_or, e_cmp, e_chain, e_ife, e_tup, e_lst, e_dnew, e_idx, e_slc, e_rev, e_call, e_prim, e_isi, e_lc, e_rg, wt_and, wt_or, wt_not, wt_e, vs_nil, vs_cons, vs_star, vb_nil, vb_cons, va_nil, va_cons, vo_no, vo_yes, vc_no, vc_yes, vi_val, vi_valf, vi_rng, vi_zip, vi_zipf, getD_0, getD_s, a_v, a_p, Option.bind_some, x_nil, x_cons, x_ite, exec, koF, parW, sets_n, sets_c, rt_ap, bd_ap, gd_ap, ite_ap, bd_rt, rt_bd, bd_bd, bd_gd, gd_gd, gd_true, bd_ite, ite_rt, ite_gd1, ite_gd2, lift_rt, b_and, b_and2, b_or, b_or2, ite_en, look_z, look_s, lookB_z, lookB_o, lookB_s, lookA_z, lookA_c, lookA_s, lookO_o, lookO_s, List.getElem?_cons_zero, List.getElem?_cons_succ, List.set_cons_zero, List.set_cons_succ, Bool.false_eq_true, if_false, if_true, wipeN_n, wipeN_c, free_n, free_c, nOwn_n, nOwn_s, nOwn_c, Bool.true_and, true_and, List.length_cons, List.length_nil, Nat.zero_add, Nat.reduceAdd, Nat.reduceLeDiff, sz, i_en, b_en, l_en, t_en, tl_en, p_en, l1_en, t1_en, snoc_en, app_en, isL_l, c_eq, c_ne, c_inL, c_inT, c_ninL, c_ninT, c_eqE, c_neE, c_eqU, c_neU, c_lt, c_gt, c_le, c_ge, dp_int, dp_bool, dp_unit, dp_list, dp_tu, dp_pair, Nat.max_self, tr_b, tr_i, tr_l, tr_t, o_add, o_sub, o_mul, o_div, o_mod, o_shl, o_shr, o_band, o_neg, o_addL, o_addT, mulB1, i01, x_list, x_tup, x_p0, x_p1, s_list, s_tup, r_list, lt_list, lt_tup, ls_list, q_lenL, q_lenT, q_tupL, q_tupT, q_listL, q_listT, q_all, q_any, q_sum, q_max, q_min, q_int, q_abs, g_rng, toI_en, lcW_en, lcM_all, lcM_if, lcM_gd, List.map_id', List.all_map, List.any_map, Bool.not_true, Bool.not_false, List.length_map, ii_and, ii_or, Option.getD_some, List.isEmpty_map, isEmpty_filterB, Function.comp_def, id_eq, bo_sset, ar_sset, e_sset, sset_en, ssetL_en, bo_meth, bo_disp, ar_meth, ar_disp, e_meth, e_disp, vp_nil, vp_cons, vi_enum, vi_enumf, vi_rng3, x_dct, c_inD, c_ninD, s_dct, isL_d, q_lenD, q_listD, d_int, d_tu, d_pair, enum_en, index_en, mOk_l, od_1, od_2, false_implies, Bool.and_true, and_true, implies_true, forall_const, ite_some, s_lst, x_frz, frz_o, frz_h, frz_s, Option.getD_none, Int.one_mul, forW_en, gd_ff, sz_lt, List.append_nil, List.nil_append, Bool.not_not, t0_en, l0_en]
      refine ⟨rng_ok (by omega), ?_⟩
      rw [rgI_rg]
      refine forL_inv (fun dc ρ => ∃ d' x5, ρ = csl n ps d' (some (.sh (en b))) (some (.sh (en a))) x5 ∧ Dky T d' ∧ Piv d.keys b (fun p => p.1 ∈ da ∨ (p.1 = a ∧ p.2 ∈ dc)) d'.keys) (done := []) ⟨_, x5, rfl, hd1, hp1.mono fun p _ _ => ⟨.inl, fun z => z.elim id fun z => nomatch z.2⟩⟩ ?_ ?_
      · rintro dc c _ ρ _ ⟨d2, x5, rfl, hd2, hp2⟩ K3 hK3
        unfold csl b13_1 b13_0
        simp only [wbo_var, ar_var, bo_cst, bo_bin, bo_neg, bo_not, bo_and, bo_or, bo_cmp, bo_chain, bo_ife, bo_tup, bo_lst, bo_dnew, bo_idx, bo_slc, bo_rev, bo_call, bo_prim, bo_isi, bo_lc, bo_rg, sh_rt, sh_gd, sh_bd, ar_cst, ar_bin, ar_neg, ar_not, ar_and, ar_or, ar_cmp, ar_chain, ar_ife, ar_tup, ar_lst, ar_dnew, ar_idx, ar_slc, ar_rev, ar_call, ar_prim, ar_isi, ar_lc, ar_rg, e_var, e_cst, e_bin, e_neg, e_not, e_and, e_or, e_cmp, e_chain, e_ife, e_tup, e_lst, e_dnew, e_idx, e_slc, e_rev, e_call, e_prim, e_isi, e_lc, e_rg, wt_and, wt_or, wt_not, wt_e, vs_nil, vs_cons, vs_star, vb_nil, vb_cons, va_nil, va_cons, vo_no, vo_yes, vc_no, vc_yes, vi_val, vi_valf, vi_rng, vi_zip, vi_zipf, getD_0, getD_s, a_v, a_p, Option.bind_some, x_nil, x_cons, x_ite, exec, koF, parW, sets_n, sets_c, rt_ap, bd_ap, gd_ap, ite_ap, bd_rt, rt_bd, bd_bd, bd_gd, gd_gd, gd_true, bd_ite, ite_rt, ite_gd1, ite_gd2, lift_rt, b_and, b_and2, b_or, b_or2, ite_en, look_z, look_s, lookB_z, lookB_o, lookB_s, lookA_z, lookA_c, lookA_s, lookO_o, lookO_s, List.getElem?_cons_zero, List.getElem?_cons_succ, List.set_cons_zero, List.set_cons_succ, Bool.false_eq_true, if_false, if_true, wipeN_n, wipeN_c, free_n, free_c, nOwn_n, nOwn_s, nOwn_c, Bool.true_and, true_and, List.length_cons, List.length_nil, Nat.zero_add, Nat.reduceAdd, Nat.reduceLeDiff, sz, i_en, b_en, l_en, t_en, tl_en, p_en, l1_en, t1_en, snoc_en, app_en, isL_l, c_eq, c_ne, c_inL, c_inT, c_ninL, c_ninT, c_eqE, c_neE, c_eqU, c_neU, c_lt, c_gt, c_le, c_ge, dp_int, dp_bool, dp_unit, dp_list, dp_tu, dp_pair, Nat.max_self, tr_b, tr_i, tr_l, tr_t, o_add, o_sub, o_mul, o_div, o_mod, o_shl, o_shr, o_band, o_neg, o_addL, o_addT, mulB1, i01, x_list, x_tup, x_p0, x_p1, s_list, s_tup, r_list, lt_list, lt_tup, ls_list, q_lenL, q_lenT, q_tupL, q_tupT, q_listL, q_listT, q_all, q_any, q_sum, q_max, q_min, q_int, q_abs, g_rng, toI_en, lcW_en, lcM_all, lcM_if, lcM_gd, List.map_id', List.all_map, List.any_map, Bool.not_true, Bool.not_false, List.length_map, ii_and, ii_or, Option.getD_some, List.isEmpty_map, isEmpty_filterB, Function.comp_def, id_eq, bo_sset, ar_sset, e_sset, sset_en, ssetL_en, bo_meth, bo_disp, ar_meth, ar_disp, e_meth, e_disp, vp_nil, vp_cons, vi_enum, vi_enumf, vi_rng3, x_dct, c_inD, c_ninD, s_dct, isL_d, q_lenD, q_listD, d_int, d_tu, d_pair, enum_en, index_en, mOk_l, od_1, od_2, false_implies, Bool.and_true, and_true, implies_true, forall_const, ite_some, s_lst, x_frz, frz_o, frz_h, frz_s, Option.getD_none, Int.one_mul, forW_en, gd_ff, sz_lt, List.append_nil, List.nil_append, Bool.not_not, t0_en, l0_en]
        split
        · rename_i h
          rw [Bool.and_eq_true, Dct.has_iff, Dct.has_iff] at h
          have t := hT _ _ _ (hd2.all _ h.1) (hd2.all _ h.2)
          have hl := len_inr10 hd2.nd (fun q hq => hI q (hd2.all q hq)) hn
          have hl2 : d2.l.length ≤ 100 := by unfold Dct.keys at hl; simpa using hl
          refine ⟨szl (by omega), hK3 _ ⟨_, _, rfl, hd2.put t, fun p => ?_⟩⟩
          rw [keys_mem_put, hp2]
          have o1 := hp2.l.mp h.1
          have o2 := hp2.r.mp h.2
          constructor
          · rintro ((z | ⟨z1, z2⟩) | rfl)
            · exact .inl z
            · exact .inr ⟨z1.imp id fun z => ⟨z.1, List.mem_append_left _ z.2⟩, z2⟩
            · exact .inr ⟨.inr ⟨rfl, by simp⟩, o1, o2⟩
          · rintro (z | ⟨z1 | ⟨z1, z2⟩, z3⟩)
            · exact .inl (.inl z)
            · exact .inl (.inr ⟨.inl z1, z3⟩)
            · rcases List.mem_append.mp z2 with z2 | z2
              · exact .inl (.inr ⟨.inr ⟨z1, z2⟩, z3⟩)
              · exact .inr (Prod.ext z1 (by simpa using z2))
        · rename_i h
          rw [Bool.and_eq_true, Dct.has_iff, Dct.has_iff] at h
          refine hK3 _ ⟨_, _, rfl, hd2, hp2.mono fun p z1 z2 => ⟨fun z => z.imp id fun z => ⟨z.1, List.mem_append_left _ z.2⟩, fun z => z.imp id fun z => ⟨z.1, ?_⟩⟩⟩
          rcases List.mem_append.mp z.2 with z3 | z3
          · exact z3
          · have e : p.2 = c := by simpa using z3
            exact absurd ⟨hp2.l.mpr (z.1 ▸ z1), hp2.r.mpr (e ▸ z2)⟩ h
      · rintro ρ ⟨d2, x5, rfl, hd2, hp2⟩
        refine hK2 _ ⟨_, _, _, rfl, hd2, hp2.mono fun p z1 z2 => ?_⟩
        have := hI _ (hd.all _ z2)
        rw [List.nil_append, List.mem_append, List.mem_singleton]
        exact ⟨fun z => z.imp id fun z => z.1, fun z => z.imp id fun z => ⟨z, mem_rg.mpr ⟨this.2.2.1, this.2.2.2⟩⟩⟩
    · rintro ρ ⟨d1, x4, x5, rfl, hd1, hp1⟩
      refine hK _ ⟨_, _, _, _, rfl, hd1, Piv.clo (old := d.keys) (hp1.mono fun p z1 z2 => ?_) hc⟩
      have := hI _ (hd.all _ z1)
      exact ⟨fun _ => trivial, fun _ => mem_rg.mpr ⟨this.1, this.2.1⟩⟩
  · rintro ρ ⟨d, x3, x4, x5, rfl, hd, hc⟩
    unfold csl b13_3
    simp only [wbo_var, ar_var, bo_cst, bo_bin, bo_neg, bo_not, bo_and, bo_or, bo_cmp, bo_chain, bo_ife, bo_tup, bo_lst, bo_dnew, bo_idx, bo_slc, bo_rev, bo_call, bo_prim, bo_isi, bo_lc, bo_rg, sh_rt, sh_gd, sh_bd, ar_cst, ar_bin, ar_neg, ar_not, ar_and, ar_or, ar_cmp, ar_chain, ar_ife, ar_tup, ar_lst, ar_dnew, ar_idx, ar_slc, ar_rev, ar_call, ar_prim, ar_isi, ar_lc, ar_rg, e_var, e_cst, e_bin, e_neg, e_not, e_and, e_or, e_cmp, e_chain, e_ife, e_tup, e_lst, e_dnew, e_idx, e_slc, e_rev, e_call, e_prim, e_isi, e_lc, e_rg, wt_and, wt_or, wt_not, wt_e, vs_nil, vs_cons, vs_star, vb_nil, vb_cons, va_nil, va_cons, vo_no, vo_yes, vc_no, vc_yes, vi_val, vi_valf, vi_rng, vi_zip, vi_zipf, getD_0, getD_s, a_v, a_p, Option.bind_some, x_nil, x_cons, x_ite, exec, koF, parW, sets_n, sets_c, rt_ap, bd_ap, gd_ap, ite_ap, bd_rt, rt_bd, bd_bd, bd_gd, gd_gd, gd_true, bd_ite, ite_rt, ite_gd1, ite_gd2, lift_rt, b_and, b_and2, b_or, b_or2, ite_en, look_z, look_s, lookB_z, lookB_o, lookB_s, lookA_z, lookA_c, lookA_s, lookO_o, lookO_s, List.getElem?_cons_zero, List.getElem?_cons_succ, List.set_cons_zero, List.set_cons_succ, Bool.false_eq_true, if_false, if_true, wipeN_n, wipeN_c, free_n, free_c, nOwn_n, nOwn_s, nOwn_c, Bool.true_and, true_and, List.length_cons, List.length_nil, Nat.zero_add, Nat.reduceAdd, Nat.reduceLeDiff, sz, i_en, b_en, l_en, t_en, tl_en, p_en, l1_en, t1_en, snoc_en, app_en, isL_l, c_eq, c_ne, c_inL, c_inT, c_ninL, c_ninT, c_eqE, c_neE, c_eqU, c_neU, c_lt, c_gt, c_le, c_ge, dp_int, dp_bool, dp_unit, dp_list, dp_tu, dp_pair, Nat.max_self, tr_b, tr_i, tr_l, tr_t, o_add, o_sub, o_mul, o_div, o_mod, o_shl, o_shr, o_band, o_neg, o_addL, o_addT, mulB1, i01, x_list, x_tup, x_p0, x_p1, s_list, s_tup, r_list, lt_list, lt_tup, ls_list, q_lenL, q_lenT, q_tupL, q_tupT, q_listL, q_listT, q_all, q_any, q_sum, q_max, q_min, q_int, q_abs, g_rng, toI_en, lcW_en, lcM_all, lcM_if, lcM_gd, List.map_id', List.all_map, List.any_map, Bool.not_true, Bool.not_false, List.length_map, ii_and, ii_or, Option.getD_some, List.isEmpty_map, isEmpty_filterB, Function.comp_def, id_eq, bo_sset, ar_sset, e_sset, sset_en, ssetL_en, bo_meth, bo_disp, ar_meth, ar_disp, e_meth, e_disp, vp_nil, vp_cons, vi_enum, vi_enumf, vi_rng3, x_dct, c_inD, c_ninD, s_dct, isL_d, q_lenD, q_listD, d_int, d_tu, d_pair, enum_en, index_en, mOk_l, od_1, od_2, false_implies, Bool.and_true, and_true, implies_true, forall_const, ite_some, s_lst, x_frz, frz_o, frz_h, frz_s, Option.getD_none, Int.one_mul, forW_en, gd_ff, sz_lt, List.append_nil, List.nil_append, Bool.not_not, t0_en, l0_en]
    rw [q_sortP]
    simp only [wbo_var, ar_var, bo_cst, bo_bin, bo_neg, bo_not, bo_and, bo_or, bo_cmp, bo_chain, bo_ife, bo_tup, bo_lst, bo_dnew, bo_idx, bo_slc, bo_rev, bo_call, bo_prim, bo_isi, bo_lc, bo_rg, sh_rt, sh_gd, sh_bd, ar_cst, ar_bin, ar_neg, ar_not, ar_and, ar_or, ar_cmp, ar_chain, ar_ife, ar_tup, ar_lst, ar_dnew, ar_idx, ar_slc, ar_rev, ar_call, ar_prim, ar_isi, ar_lc, ar_rg, e_var, e_cst, e_bin, e_neg, e_not, e_and, e_or, e_cmp, e_chain, e_ife, e_tup, e_lst, e_dnew, e_idx, e_slc, e_rev, e_call, e_prim, e_isi, e_lc, e_rg, wt_and, wt_or, wt_not, wt_e, vs_nil, vs_cons, vs_star, vb_nil, vb_cons, va_nil, va_cons, vo_no, vo_yes, vc_no, vc_yes, vi_val, vi_valf, vi_rng, vi_zip, vi_zipf, getD_0, getD_s, a_v, a_p, Option.bind_some, x_nil, x_cons, x_ite, exec, koF, parW, sets_n, sets_c, rt_ap, bd_ap, gd_ap, ite_ap, bd_rt, rt_bd, bd_bd, bd_gd, gd_gd, gd_true, bd_ite, ite_rt, ite_gd1, ite_gd2, lift_rt, b_and, b_and2, b_or, b_or2, ite_en, look_z, look_s, lookB_z, lookB_o, lookB_s, lookA_z, lookA_c, lookA_s, lookO_o, lookO_s, List.getElem?_cons_zero, List.getElem?_cons_succ, List.set_cons_zero, List.set_cons_succ, Bool.false_eq_true, if_false, if_true, wipeN_n, wipeN_c, free_n, free_c, nOwn_n, nOwn_s, nOwn_c, Bool.true_and, true_and, List.length_cons, List.length_nil, Nat.zero_add, Nat.reduceAdd, Nat.reduceLeDiff, sz, i_en, b_en, l_en, t_en, tl_en, p_en, l1_en, t1_en, snoc_en, app_en, isL_l, c_eq, c_ne, c_inL, c_inT, c_ninL, c_ninT, c_eqE, c_neE, c_eqU, c_neU, c_lt, c_gt, c_le, c_ge, dp_int, dp_bool, dp_unit, dp_list, dp_tu, dp_pair, Nat.max_self, tr_b, tr_i, tr_l, tr_t, o_add, o_sub, o_mul, o_div, o_mod, o_shl, o_shr, o_band, o_neg, o_addL, o_addT, mulB1, i01, x_list, x_tup, x_p0, x_p1, s_list, s_tup, r_list, lt_list, lt_tup, ls_list, q_lenL, q_lenT, q_tupL, q_tupT, q_listL, q_listT, q_all, q_any, q_sum, q_max, q_min, q_int, q_abs, g_rng, toI_en, lcW_en, lcM_all, lcM_if, lcM_gd, List.map_id', List.all_map, List.any_map, Bool.not_true, Bool.not_false, List.length_map, ii_and, ii_or, Option.getD_some, List.isEmpty_map, isEmpty_filterB, Function.comp_def, id_eq, bo_sset, ar_sset, e_sset, sset_en, ssetL_en, bo_meth, bo_disp, ar_meth, ar_disp, e_meth, e_disp, vp_nil, vp_cons, vi_enum, vi_enumf, vi_rng3, x_dct, c_inD, c_ninD, s_dct, isL_d, q_lenD, q_listD, d_int, d_tu, d_pair, enum_en, index_en, mOk_l, od_1, od_2, false_implies, Bool.and_true, and_true, implies_true, forall_const, ite_some, s_lst, x_frz, frz_o, frz_h, frz_s, Option.getD_none, Int.one_mul, forW_en, gd_ff, sz_lt, List.append_nil, List.nil_append, Bool.not_not, t0_en, l0_en]
    have hm : ∀ p, p ∈ d.keys.mergeSort leP ↔ p ∈ d.keys := fun p => (List.mergeSort_perm d.keys leP).mem_iff
    refine q _ (sorted_go hd.nd fun q hq => hI q (hd.all q hq)) (fun p hp => hd.all p ((hm p).mp hp)) fun a b c h1 h2 => ?_
    rw [hm] at h1 h2 ⊢
    have := hI _ (hd.all _ h1)
    exact hc a b c (mem_rg.mpr ⟨this.2.2.1, this.2.2.2⟩) h1 h2
theorem s_pick {m : Int} (hm : m < 1073741824) (q : ∀ j : Int, 0 ≤ j → j < max 1 m → Q (en j)) : CG (k + 2) 11 [.src, .sh (en m)] Q := ⟨rfl, by omega, m, rfl, hm, q⟩
theorem s_mixed {xs : List Int} (hl : xs.length ≤ 1000) (q : ∀ ys : List Int, ys.Perm xs → Q (en ys)) : CG (k + 2) 12 [.src, .sh (en xs)] Q :=
  ⟨rfl, by omega, _, rfl, by rw [List.length_map]; exact hl, fun es pe => by
    obtain ⟨ys, rfl, p⟩ := perm_of_map pe rfl
    exact q ys p⟩
/-- slots of the draw -/
def dsl (most : Int) (ps : List (Int × Int)) (j : Option B) (n : Nat) (road : Int) (names : List Int) (share : Int) (i : Option B) (x9 : Option B) : Nv := [some .src, some (.sh (en most)), some (.sh (en ps)), j, some (.sh (en (n : Int))), some (.sh (en road)), some (.sh (en names)), some (.sh (en share)), i, x9]
theorem pix_of {names : List Int} {i : Nat} {a : Int} (h : names[i]? = some a) : pix names (i : Int) = a := by
  unfold pix
  rw [if_neg (by omega), Int.toNat_natCast]
  simp [List.getD, h]
variable {most road share : Int} {names : List Int} {ps : List (Int × Int)} {i j : Nat} {K : Ko}
theorem d_3 {one : Bool} (hi : i < names.length) (hj : j < names.length) (hl : ps.length ≤ 5000) (h : ∀ x9, K.nx (dsl most (if one = true then ps ++ [(pix names i, pix names j)] else ps) (some (.sh (en (j : Int)))) n road names share (some (.sh (en (i : Int)))) x9)) : execs (CG (k + 2)) b14_3 (dsl most ps (some (.sh (en (j : Int)))) n road names share (some (.sh (en (i : Int)))) (some (.sh (en one)))) K := by
  unfold b14_3 dsl
  simp only [wbo_var, ar_var, bo_cst, bo_bin, bo_neg, bo_not, bo_and, bo_or, bo_cmp, bo_chain, bo_ife, bo_tup, bo_lst, bo_dnew, bo_idx, bo_slc, bo_rev, bo_call, bo_prim, bo_isi, bo_lc, bo_rg, sh_rt, sh_gd, sh_bd, ar_cst, ar_bin, ar_neg, ar_not, ar_and, ar_or, ar_cmp, ar_chain, ar_ife, ar_tup, ar_lst, ar_dnew, ar_idx, ar_slc, ar_rev, ar_call, ar_prim, ar_isi, ar_lc, ar_rg, e_var, e_cst, e_bin, e_neg, e_not, e_and, e_or, e_cmp, e_chain, e_ife, e_tup, e_lst, e_dnew, e_idx, e_slc, e_rev, e_call, e_prim, e_isi, e_lc, e_rg, wt_and, wt_or, wt_not, wt_e, vs_nil, vs_cons, vs_star, vb_nil, vb_cons, va_nil, va_cons, vo_no, vo_yes, vc_no, vc_yes, vi_val, vi_valf, vi_rng, vi_zip, vi_zipf, getD_0, getD_s, a_v, a_p, Option.bind_some, x_nil, x_cons, x_ite, exec, koF, parW, sets_n, sets_c, rt_ap, bd_ap, gd_ap, ite_ap, bd_rt, rt_bd, bd_bd, bd_gd, gd_gd, gd_true, bd_ite, ite_rt, ite_gd1, ite_gd2, lift_rt, b_and, b_and2, b_or, b_or2, ite_en, look_z, look_s, lookB_z, lookB_o, lookB_s, lookA_z, lookA_c, lookA_s, lookO_o, lookO_s, List.getElem?_cons_zero, List.getElem?_cons_succ, List.set_cons_zero, List.set_cons_succ, Bool.false_eq_true, if_false, if_true, wipeN_n, wipeN_c, free_n, free_c, nOwn_n, nOwn_s, nOwn_c, Bool.true_and, true_and, List.length_cons, List.length_nil, Nat.zero_add, Nat.reduceAdd, Nat.reduceLeDiff, sz, i_en, b_en, l_en, t_en, tl_en, p_en, l1_en, t1_en, snoc_en, app_en, isL_l, c_eq, c_ne, c_inL, c_inT, c_ninL, c_ninT, c_eqE, c_neE, c_eqU, c_neU, c_lt, c_gt, c_le, c_ge, dp_int, dp_bool, dp_unit, dp_list, dp_tu, dp_pair, Nat.max_self, tr_b, tr_i, tr_l, tr_t, o_add, o_sub, o_mul, o_div, o_mod, o_shl, o_shr, o_band, o_neg, o_addL, o_addT, mulB1, i01, x_list, x_tup, x_p0, x_p1, s_list, s_tup, r_list, lt_list, lt_tup, ls_list, q_lenL, q_lenT, q_tupL, q_tupT, q_listL, q_listT, q_all, q_any, q_sum, q_max, q_min, q_int, q_abs, g_rng, toI_en, lcW_en, lcM_all, lcM_if, lcM_gd, List.map_id', List.all_map, List.any_map, Bool.not_true, Bool.not_false, List.length_map, ii_and, ii_or, Option.getD_some, List.isEmpty_map, isEmpty_filterB, Function.comp_def, id_eq, bo_sset, ar_sset, e_sset, sset_en, ssetL_en, bo_meth, bo_disp, ar_meth, ar_disp, e_meth, e_disp, vp_nil, vp_cons, vi_enum, vi_enumf, vi_rng3, x_dct, c_inD, c_ninD, s_dct, isL_d, q_lenD, q_listD, d_int, d_tu, d_pair, enum_en, index_en, mOk_l, od_1, od_2, false_implies, Bool.and_true, and_true, implies_true, forall_const, ite_some, s_lst, x_frz, frz_o, frz_h, frz_s, Option.getD_none, Int.one_mul, forW_en, gd_ff, sz_lt, List.append_nil, List.nil_append, Bool.not_not, t0_en, l0_en]
  have := h (some (.sh (en one)))
  unfold dsl at this
  cases one
  · simp only [wbo_var, ar_var, bo_cst, bo_bin, bo_neg, bo_not, bo_and, bo_or, bo_cmp, bo_chain, bo_ife, bo_tup, bo_lst, bo_dnew, bo_idx, bo_slc, bo_rev, bo_call, bo_prim, bo_isi, bo_lc, bo_rg, sh_rt, sh_gd, sh_bd, ar_cst, ar_bin, ar_neg, ar_not, ar_and, ar_or, ar_cmp, ar_chain, ar_ife, ar_tup, ar_lst, ar_dnew, ar_idx, ar_slc, ar_rev, ar_call, ar_prim, ar_isi, ar_lc, ar_rg, e_var, e_cst, e_bin, e_neg, e_not, e_and, e_or, e_cmp, e_chain, e_ife, e_tup, e_lst, e_dnew, e_idx, e_slc, e_rev, e_call, e_prim, e_isi, e_lc, e_rg, wt_and, wt_or, wt_not, wt_e, vs_nil, vs_cons, vs_star, vb_nil, vb_cons, va_nil, va_cons, vo_no, vo_yes, vc_no, vc_yes, vi_val, vi_valf, vi_rng, vi_zip, vi_zipf, getD_0, getD_s, a_v, a_p, Option.bind_some, x_nil, x_cons, x_ite, exec, koF, parW, sets_n, sets_c, rt_ap, bd_ap, gd_ap, ite_ap, bd_rt, rt_bd, bd_bd, bd_gd, gd_gd, gd_true, bd_ite, ite_rt, ite_gd1, ite_gd2, lift_rt, b_and, b_and2, b_or, b_or2, ite_en, look_z, look_s, lookB_z, lookB_o, lookB_s, lookA_z, lookA_c, lookA_s, lookO_o, lookO_s, List.getElem?_cons_zero, List.getElem?_cons_succ, List.set_cons_zero, List.set_cons_succ, Bool.false_eq_true, if_false, if_true, wipeN_n, wipeN_c, free_n, free_c, nOwn_n, nOwn_s, nOwn_c, Bool.true_and, true_and, List.length_cons, List.length_nil, Nat.zero_add, Nat.reduceAdd, Nat.reduceLeDiff, sz, i_en, b_en, l_en, t_en, tl_en, p_en, l1_en, t1_en, snoc_en, app_en, isL_l, c_eq, c_ne, c_inL, c_inT, c_ninL, c_ninT, c_eqE, c_neE, c_eqU, c_neU, c_lt, c_gt, c_le, c_ge, dp_int, dp_bool, dp_unit, dp_list, dp_tu, dp_pair, Nat.max_self, tr_b, tr_i, tr_l, tr_t, o_add, o_sub, o_mul, o_div, o_mod, o_shl, o_shr, o_band, o_neg, o_addL, o_addT, mulB1, i01, x_list, x_tup, x_p0, x_p1, s_list, s_tup, r_list, lt_list, lt_tup, ls_list, q_lenL, q_lenT, q_tupL, q_tupT, q_listL, q_listT, q_all, q_any, q_sum, q_max, q_min, q_int, q_abs, g_rng, toI_en, lcW_en, lcM_all, lcM_if, lcM_gd, List.map_id', List.all_map, List.any_map, Bool.not_true, Bool.not_false, List.length_map, ii_and, ii_or, Option.getD_some, List.isEmpty_map, isEmpty_filterB, Function.comp_def, id_eq, bo_sset, ar_sset, e_sset, sset_en, ssetL_en, bo_meth, bo_disp, ar_meth, ar_disp, e_meth, e_disp, vp_nil, vp_cons, vi_enum, vi_enumf, vi_rng3, x_dct, c_inD, c_ninD, s_dct, isL_d, q_lenD, q_listD, d_int, d_tu, d_pair, enum_en, index_en, mOk_l, od_1, od_2, false_implies, Bool.and_true, and_true, implies_true, forall_const, ite_some, s_lst, x_frz, frz_o, frz_h, frz_s, Option.getD_none, Int.one_mul, forW_en, gd_ff, sz_lt, List.append_nil, List.nil_append, Bool.not_not, t0_en, l0_en]
    rw [mtE (α := Int × Int)]
    simp only [wbo_var, ar_var, bo_cst, bo_bin, bo_neg, bo_not, bo_and, bo_or, bo_cmp, bo_chain, bo_ife, bo_tup, bo_lst, bo_dnew, bo_idx, bo_slc, bo_rev, bo_call, bo_prim, bo_isi, bo_lc, bo_rg, sh_rt, sh_gd, sh_bd, ar_cst, ar_bin, ar_neg, ar_not, ar_and, ar_or, ar_cmp, ar_chain, ar_ife, ar_tup, ar_lst, ar_dnew, ar_idx, ar_slc, ar_rev, ar_call, ar_prim, ar_isi, ar_lc, ar_rg, e_var, e_cst, e_bin, e_neg, e_not, e_and, e_or, e_cmp, e_chain, e_ife, e_tup, e_lst, e_dnew, e_idx, e_slc, e_rev, e_call, e_prim, e_isi, e_lc, e_rg, wt_and, wt_or, wt_not, wt_e, vs_nil, vs_cons, vs_star, vb_nil, vb_cons, va_nil, va_cons, vo_no, vo_yes, vc_no, vc_yes, vi_val, vi_valf, vi_rng, vi_zip, vi_zipf, getD_0, getD_s, a_v, a_p, Option.bind_some, x_nil, x_cons, x_ite, exec, koF, parW, sets_n, sets_c, rt_ap, bd_ap, gd_ap, ite_ap, bd_rt, rt_bd, bd_bd, bd_gd, gd_gd, gd_true, bd_ite, ite_rt, ite_gd1, ite_gd2, lift_rt, b_and, b_and2, b_or, b_or2, ite_en, look_z, look_s, lookB_z, lookB_o, lookB_s, lookA_z, lookA_c, lookA_s, lookO_o, lookO_s, List.getElem?_cons_zero, List.getElem?_cons_succ, List.set_cons_zero, List.set_cons_succ, Bool.false_eq_true, if_false, if_true, wipeN_n, wipeN_c, free_n, free_c, nOwn_n, nOwn_s, nOwn_c, Bool.true_and, true_and, List.length_cons, List.length_nil, Nat.zero_add, Nat.reduceAdd, Nat.reduceLeDiff, sz, i_en, b_en, l_en, t_en, tl_en, p_en, l1_en, t1_en, snoc_en, app_en, isL_l, c_eq, c_ne, c_inL, c_inT, c_ninL, c_ninT, c_eqE, c_neE, c_eqU, c_neU, c_lt, c_gt, c_le, c_ge, dp_int, dp_bool, dp_unit, dp_list, dp_tu, dp_pair, Nat.max_self, tr_b, tr_i, tr_l, tr_t, o_add, o_sub, o_mul, o_div, o_mod, o_shl, o_shr, o_band, o_neg, o_addL, o_addT, mulB1, i01, x_list, x_tup, x_p0, x_p1, s_list, s_tup, r_list, lt_list, lt_tup, ls_list, q_lenL, q_lenT, q_tupL, q_tupT, q_listL, q_listT, q_all, q_any, q_sum, q_max, q_min, q_int, q_abs, g_rng, toI_en, lcW_en, lcM_all, lcM_if, lcM_gd, List.map_id', List.all_map, List.any_map, Bool.not_true, Bool.not_false, List.length_map, ii_and, ii_or, Option.getD_some, List.isEmpty_map, isEmpty_filterB, Function.comp_def, id_eq, bo_sset, ar_sset, e_sset, sset_en, ssetL_en, bo_meth, bo_disp, ar_meth, ar_disp, e_meth, e_disp, vp_nil, vp_cons, vi_enum, vi_enumf, vi_rng3, x_dct, c_inD, c_ninD, s_dct, isL_d, q_lenD, q_listD, d_int, d_tu, d_pair, enum_en, index_en, mOk_l, od_1, od_2, false_implies, Bool.and_true, and_true, implies_true, forall_const, ite_some, s_lst, x_frz, frz_o, frz_h, frz_s, Option.getD_none, Int.one_mul, forW_en, gd_ff, sz_lt, List.append_nil, List.nil_append, Bool.not_not, t0_en, l0_en]
    exact ⟨szl (by omega), by simpa using this⟩
  · simp only [wbo_var, ar_var, bo_cst, bo_bin, bo_neg, bo_not, bo_and, bo_or, bo_cmp, bo_chain, bo_ife, bo_tup, bo_lst, bo_dnew, bo_idx, bo_slc, bo_rev, bo_call, bo_prim, bo_isi, bo_lc, bo_rg, sh_rt, sh_gd, sh_bd, ar_cst, ar_bin, ar_neg, ar_not, ar_and, ar_or, ar_cmp, ar_chain, ar_ife, ar_tup, ar_lst, ar_dnew, ar_idx, ar_slc, ar_rev, ar_call, ar_prim, ar_isi, ar_lc, ar_rg, e_var, e_cst, e_bin, e_neg, e_not, e_and, e_or, e_cmp, e_chain, e_ife, e_tup, e_lst, e_dnew, e_idx, e_slc, e_rev, e_call, e_prim, e_isi, e_lc, e_rg, wt_and, wt_or, wt_not, wt_e, vs_nil, vs_cons, vs_star, vb_nil, vb_cons, va_nil, va_cons, vo_no, vo_yes, vc_no, vc_yes, vi_val, vi_valf, vi_rng, vi_zip, vi_zipf, getD_0, getD_s, a_v, a_p, Option.bind_some, x_nil, x_cons, x_ite, exec, koF, parW, sets_n, sets_c, rt_ap, bd_ap, gd_ap, ite_ap, bd_rt, rt_bd, bd_bd, bd_gd, gd_gd, gd_true, bd_ite, ite_rt, ite_gd1, ite_gd2, lift_rt, b_and, b_and2, b_or, b_or2, ite_en, look_z, look_s, lookB_z, lookB_o, lookB_s, lookA_z, lookA_c, lookA_s, lookO_o, lookO_s, List.getElem?_cons_zero, List.getElem?_cons_succ, List.set_cons_zero, List.set_cons_succ, Bool.false_eq_true, if_false, if_true, wipeN_n, wipeN_c, free_n, free_c, nOwn_n, nOwn_s, nOwn_c, Bool.true_and, true_and, List.length_cons, List.length_nil, Nat.zero_add, Nat.reduceAdd, Nat.reduceLeDiff, sz, i_en, b_en, l_en, t_en, tl_en, p_en, l1_en, t1_en, snoc_en, app_en, isL_l, c_eq, c_ne, c_inL, c_inT, c_ninL, c_ninT, c_eqE, c_neE, c_eqU, c_neU, c_lt, c_gt, c_le, c_ge, dp_int, dp_bool, dp_unit, dp_list, dp_tu, dp_pair, Nat.max_self, tr_b, tr_i, tr_l, tr_t, o_add, o_sub, o_mul, o_div, o_mod, o_shl, o_shr, o_band, o_neg, o_addL, o_addT, mulB1, i01, x_list, x_tup, x_p0, x_p1, s_list, s_tup, r_list, lt_list, lt_tup, ls_list, q_lenL, q_lenT, q_tupL, q_tupT, q_listL, q_listT, q_all, q_any, q_sum, q_max, q_min, q_int, q_abs, g_rng, toI_en, lcW_en, lcM_all, lcM_if, lcM_gd, List.map_id', List.all_map, List.any_map, Bool.not_true, Bool.not_false, List.length_map, ii_and, ii_or, Option.getD_some, List.isEmpty_map, isEmpty_filterB, Function.comp_def, id_eq, bo_sset, ar_sset, e_sset, sset_en, ssetL_en, bo_meth, bo_disp, ar_meth, ar_disp, e_meth, e_disp, vp_nil, vp_cons, vi_enum, vi_enumf, vi_rng3, x_dct, c_inD, c_ninD, s_dct, isL_d, q_lenD, q_listD, d_int, d_tu, d_pair, enum_en, index_en, mOk_l, od_1, od_2, false_implies, Bool.and_true, and_true, implies_true, forall_const, ite_some, s_lst, x_frz, frz_o, frz_h, frz_s, Option.getD_none, Int.one_mul, forW_en, gd_ff, sz_lt, List.append_nil, List.nil_append, Bool.not_not, t0_en, l0_en]
    exact ⟨⟨ixOk (by omega) (by omega), ixOk (by omega) (by omega)⟩, szl (by omega), by simpa using this⟩
theorem d_6 {x9 : Option B} (hn : 1 ≤ n) (hn2 : n ≤ 10) (hi : i < names.length) (hj : j < names.length) (hil : i ≤ 10) (hjl : j ≤ 10) (hl : ps.length ≤ 5000) (h : ∀ (one : Bool) x9, K.nx (dsl most (if one = true then ps ++ [(pix names i, pix names j)] else ps) (some (.sh (en (j : Int)))) n road names share (some (.sh (en (i : Int)))) x9)) : execs (CG (k + 2)) b14_6 (dsl most ps (some (.sh (en (j : Int)))) n road names share (some (.sh (en (i : Int)))) x9) K := by
  have e3 : ∀ one : Bool, execs (CG (k + 2)) b14_3 (dsl most ps (some (.sh (en (j : Int)))) n road names share (some (.sh (en (i : Int)))) (some (.sh (en one)))) K := fun one => d_3 hi hj hl (h one)
  have e4 : ∀ one : Bool, execs (CG (k + 2)) b14_4 (dsl most ps (some (.sh (en (j : Int)))) n road names share (some (.sh (en (i : Int)))) (some (.sh (en one)))) K := fun one => by
    unfold b14_4 b14_2
    unfold dsl at e3 ⊢
    simp only [wbo_var, ar_var, bo_cst, bo_bin, bo_neg, bo_not, bo_and, bo_or, bo_cmp, bo_chain, bo_ife, bo_tup, bo_lst, bo_dnew, bo_idx, bo_slc, bo_rev, bo_call, bo_prim, bo_isi, bo_lc, bo_rg, sh_rt, sh_gd, sh_bd, ar_cst, ar_bin, ar_neg, ar_not, ar_and, ar_or, ar_cmp, ar_chain, ar_ife, ar_tup, ar_lst, ar_dnew, ar_idx, ar_slc, ar_rev, ar_call, ar_prim, ar_isi, ar_lc, ar_rg, e_var, e_cst, e_bin, e_neg, e_not, e_and, e_or, e_cmp, e_chain, e_ife, e_tup, e_lst, e_dnew, e_idx, e_slc, e_rev, e_call, e_prim, e_isi, e_lc, e_rg, wt_and, wt_or, wt_not, wt_e, vs_nil, vs_cons, vs_star, vb_nil, vb_cons, va_nil, va_cons, vo_no, vo_yes, vc_no, vc_yes, vi_val, vi_valf, vi_rng, vi_zip, vi_zipf, getD_0, getD_s, a_v, a_p, Option.bind_some, x_nil, x_cons, x_ite, exec, koF, parW, sets_n, sets_c, rt_ap, bd_ap, gd_ap, ite_ap, bd_rt, rt_bd, bd_bd, bd_gd, gd_gd, gd_true, bd_ite, ite_rt, ite_gd1, ite_gd2, lift_rt, b_and, b_and2, b_or, b_or2, ite_en, look_z, look_s, lookB_z, lookB_o, lookB_s, lookA_z, lookA_c, lookA_s, lookO_o, lookO_s, List.getElem?_cons_zero, List.getElem?_cons_succ, List.set_cons_zero, List.set_cons_succ, Bool.false_eq_true, if_false, if_true, wipeN_n, wipeN_c, free_n, free_c, nOwn_n, nOwn_s, nOwn_c, Bool.true_and, true_and, List.length_cons, List.length_nil, Nat.zero_add, Nat.reduceAdd, Nat.reduceLeDiff, sz, i_en, b_en, l_en, t_en, tl_en, p_en, l1_en, t1_en, snoc_en, app_en, isL_l, c_eq, c_ne, c_inL, c_inT, c_ninL, c_ninT, c_eqE, c_neE, c_eqU, c_neU, c_lt, c_gt, c_le, c_ge, dp_int, dp_bool, dp_unit, dp_list, dp_tu, dp_pair, Nat.max_self, tr_b, tr_i, tr_l, tr_t, o_add, o_sub, o_mul, o_div, o_mod, o_shl, o_shr, o_band, o_neg, o_addL, o_addT, mulB1, i01, x_list, x_tup, x_p0, x_p1, s_list, s_tup, r_list, lt_list, lt_tup, ls_list, q_lenL, q_lenT, q_tupL, q_tupT, q_listL, q_listT, q_all, q_any, q_sum, q_max, q_min, q_int, q_abs, g_rng, toI_en, lcW_en, lcM_all, lcM_if, lcM_gd, List.map_id', List.all_map, List.any_map, Bool.not_true, Bool.not_false, List.length_map, ii_and, ii_or, Option.getD_some, List.isEmpty_map, isEmpty_filterB, Function.comp_def, id_eq, bo_sset, ar_sset, e_sset, sset_en, ssetL_en, bo_meth, bo_disp, ar_meth, ar_disp, e_meth, e_disp, vp_nil, vp_cons, vi_enum, vi_enumf, vi_rng3, x_dct, c_inD, c_ninD, s_dct, isL_d, q_lenD, q_listD, d_int, d_tu, d_pair, enum_en, index_en, mOk_l, od_1, od_2, false_implies, Bool.and_true, and_true, implies_true, forall_const, ite_some, s_lst, x_frz, frz_o, frz_h, frz_s, Option.getD_none, Int.one_mul, forW_en, gd_ff, sz_lt, List.append_nil, List.nil_append, Bool.not_not, t0_en, l0_en]
    split
    · exact ⟨⟨by omega, by omega⟩, fun _ => ⟨⟨by omega, by omega⟩, fun _ => ⟨by omega, by omega⟩⟩, e3 _⟩
    · exact e3 one
  have e5 : ∀ one : Bool, execs (CG (k + 2)) b14_5 (dsl most ps (some (.sh (en (j : Int)))) n road names share (some (.sh (en (i : Int)))) (some (.sh (en one)))) K := fun one => by
    unfold b14_5 b14_1
    unfold dsl at e4 ⊢
    simp only [wbo_var, ar_var, bo_cst, bo_bin, bo_neg, bo_not, bo_and, bo_or, bo_cmp, bo_chain, bo_ife, bo_tup, bo_lst, bo_dnew, bo_idx, bo_slc, bo_rev, bo_call, bo_prim, bo_isi, bo_lc, bo_rg, sh_rt, sh_gd, sh_bd, ar_cst, ar_bin, ar_neg, ar_not, ar_and, ar_or, ar_cmp, ar_chain, ar_ife, ar_tup, ar_lst, ar_dnew, ar_idx, ar_slc, ar_rev, ar_call, ar_prim, ar_isi, ar_lc, ar_rg, e_var, e_cst, e_bin, e_neg, e_not, e_and, e_or, e_cmp, e_chain, e_ife, e_tup, e_lst, e_dnew, e_idx, e_slc, e_rev, e_call, e_prim, e_isi, e_lc, e_rg, wt_and, wt_or, wt_not, wt_e, vs_nil, vs_cons, vs_star, vb_nil, vb_cons, va_nil, va_cons, vo_no, vo_yes, vc_no, vc_yes, vi_val, vi_valf, vi_rng, vi_zip, vi_zipf, getD_0, getD_s, a_v, a_p, Option.bind_some, x_nil, x_cons, x_ite, exec, koF, parW, sets_n, sets_c, rt_ap, bd_ap, gd_ap, ite_ap, bd_rt, rt_bd, bd_bd, bd_gd, gd_gd, gd_true, bd_ite, ite_rt, ite_gd1, ite_gd2, lift_rt, b_and, b_and2, b_or, b_or2, ite_en, look_z, look_s, lookB_z, lookB_o, lookB_s, lookA_z, lookA_c, lookA_s, lookO_o, lookO_s, List.getElem?_cons_zero, List.getElem?_cons_succ, List.set_cons_zero, List.set_cons_succ, Bool.false_eq_true, if_false, if_true, wipeN_n, wipeN_c, free_n, free_c, nOwn_n, nOwn_s, nOwn_c, Bool.true_and, true_and, List.length_cons, List.length_nil, Nat.zero_add, Nat.reduceAdd, Nat.reduceLeDiff, sz, i_en, b_en, l_en, t_en, tl_en, p_en, l1_en, t1_en, snoc_en, app_en, isL_l, c_eq, c_ne, c_inL, c_inT, c_ninL, c_ninT, c_eqE, c_neE, c_eqU, c_neU, c_lt, c_gt, c_le, c_ge, dp_int, dp_bool, dp_unit, dp_list, dp_tu, dp_pair, Nat.max_self, tr_b, tr_i, tr_l, tr_t, o_add, o_sub, o_mul, o_div, o_mod, o_shl, o_shr, o_band, o_neg, o_addL, o_addT, mulB1, i01, x_list, x_tup, x_p0, x_p1, s_list, s_tup, r_list, lt_list, lt_tup, ls_list, q_lenL, q_lenT, q_tupL, q_tupT, q_listL, q_listT, q_all, q_any, q_sum, q_max, q_min, q_int, q_abs, g_rng, toI_en, lcW_en, lcM_all, lcM_if, lcM_gd, List.map_id', List.all_map, List.any_map, Bool.not_true, Bool.not_false, List.length_map, ii_and, ii_or, Option.getD_some, List.isEmpty_map, isEmpty_filterB, Function.comp_def, id_eq, bo_sset, ar_sset, e_sset, sset_en, ssetL_en, bo_meth, bo_disp, ar_meth, ar_disp, e_meth, e_disp, vp_nil, vp_cons, vi_enum, vi_enumf, vi_rng3, x_dct, c_inD, c_ninD, s_dct, isL_d, q_lenD, q_listD, d_int, d_tu, d_pair, enum_en, index_en, mOk_l, od_1, od_2, false_implies, Bool.and_true, and_true, implies_true, forall_const, ite_some, s_lst, x_frz, frz_o, frz_h, frz_s, Option.getD_none, Int.one_mul, forW_en, gd_ff, sz_lt, List.append_nil, List.nil_append, Bool.not_not, t0_en, l0_en]
    split
    · exact ⟨by omega, by omega, e4 _⟩
    · exact e4 one
  unfold b14_6 b14_0
  unfold dsl at e5 ⊢
  simp only [wbo_var, ar_var, bo_cst, bo_bin, bo_neg, bo_not, bo_and, bo_or, bo_cmp, bo_chain, bo_ife, bo_tup, bo_lst, bo_dnew, bo_idx, bo_slc, bo_rev, bo_call, bo_prim, bo_isi, bo_lc, bo_rg, sh_rt, sh_gd, sh_bd, ar_cst, ar_bin, ar_neg, ar_not, ar_and, ar_or, ar_cmp, ar_chain, ar_ife, ar_tup, ar_lst, ar_dnew, ar_idx, ar_slc, ar_rev, ar_call, ar_prim, ar_isi, ar_lc, ar_rg, e_var, e_cst, e_bin, e_neg, e_not, e_and, e_or, e_cmp, e_chain, e_ife, e_tup, e_lst, e_dnew, e_idx, e_slc, e_rev, e_call, e_prim, e_isi, e_lc, e_rg, wt_and, wt_or, wt_not, wt_e, vs_nil, vs_cons, vs_star, vb_nil, vb_cons, va_nil, va_cons, vo_no, vo_yes, vc_no, vc_yes, vi_val, vi_valf, vi_rng, vi_zip, vi_zipf, getD_0, getD_s, a_v, a_p, Option.bind_some, x_nil, x_cons, x_ite, exec, koF, parW, sets_n, sets_c, rt_ap, bd_ap, gd_ap, ite_ap, bd_rt, rt_bd, bd_bd, bd_gd, gd_gd, gd_true, bd_ite, ite_rt, ite_gd1, ite_gd2, lift_rt, b_and, b_and2, b_or, b_or2, ite_en, look_z, look_s, lookB_z, lookB_o, lookB_s, lookA_z, lookA_c, lookA_s, lookO_o, lookO_s, List.getElem?_cons_zero, List.getElem?_cons_succ, List.set_cons_zero, List.set_cons_succ, Bool.false_eq_true, if_false, if_true, wipeN_n, wipeN_c, free_n, free_c, nOwn_n, nOwn_s, nOwn_c, Bool.true_and, true_and, List.length_cons, List.length_nil, Nat.zero_add, Nat.reduceAdd, Nat.reduceLeDiff, sz, i_en, b_en, l_en, t_en, tl_en, p_en, l1_en, t1_en, snoc_en, app_en, isL_l, c_eq, c_ne, c_inL, c_inT, c_ninL, c_ninT, c_eqE, c_neE, c_eqU, c_neU, c_lt, c_gt, c_le, c_ge, dp_int, dp_bool, dp_unit, dp_list, dp_tu, dp_pair, Nat.max_self, tr_b, tr_i, tr_l, tr_t, o_add, o_sub, o_mul, o_div, o_mod, o_shl, o_shr, o_band, o_neg, o_addL, o_addT, mulB1, i01, x_list, x_tup, x_p0, x_p1, s_list, s_tup, r_list, lt_list, lt_tup, ls_list, q_lenL, q_lenT, q_tupL, q_tupT, q_listL, q_listT, q_all, q_any, q_sum, q_max, q_min, q_int, q_abs, g_rng, toI_en, lcW_en, lcM_all, lcM_if, lcM_gd, List.map_id', List.all_map, List.any_map, Bool.not_true, Bool.not_false, List.length_map, ii_and, ii_or, Option.getD_some, List.isEmpty_map, isEmpty_filterB, Function.comp_def, id_eq, bo_sset, ar_sset, e_sset, sset_en, ssetL_en, bo_meth, bo_disp, ar_meth, ar_disp, e_meth, e_disp, vp_nil, vp_cons, vi_enum, vi_enumf, vi_rng3, x_dct, c_inD, c_ninD, s_dct, isL_d, q_lenD, q_listD, d_int, d_tu, d_pair, enum_en, index_en, mOk_l, od_1, od_2, false_implies, Bool.and_true, and_true, implies_true, forall_const, ite_some, s_lst, x_frz, frz_o, frz_h, frz_s, Option.getD_none, Int.one_mul, forW_en, gd_ff, sz_lt, List.append_nil, List.nil_append, Bool.not_not, t0_en, l0_en]
  refine s_pick (by omega) fun y _ _ => ?_
  simp only [wbo_var, ar_var, bo_cst, bo_bin, bo_neg, bo_not, bo_and, bo_or, bo_cmp, bo_chain, bo_ife, bo_tup, bo_lst, bo_dnew, bo_idx, bo_slc, bo_rev, bo_call, bo_prim, bo_isi, bo_lc, bo_rg, sh_rt, sh_gd, sh_bd, ar_cst, ar_bin, ar_neg, ar_not, ar_and, ar_or, ar_cmp, ar_chain, ar_ife, ar_tup, ar_lst, ar_dnew, ar_idx, ar_slc, ar_rev, ar_call, ar_prim, ar_isi, ar_lc, ar_rg, e_var, e_cst, e_bin, e_neg, e_not, e_and, e_or, e_cmp, e_chain, e_ife, e_tup, e_lst, e_dnew, e_idx, e_slc, e_rev, e_call, e_prim, e_isi, e_lc, e_rg, wt_and, wt_or, wt_not, wt_e, vs_nil, vs_cons, vs_star, vb_nil, vb_cons, va_nil, va_cons, vo_no, vo_yes, vc_no, vc_yes, vi_val, vi_valf, vi_rng, vi_zip, vi_zipf, getD_0, getD_s, a_v, a_p, Option.bind_some, x_nil, x_cons, x_ite, exec, koF, parW, sets_n, sets_c, rt_ap, bd_ap, gd_ap, ite_ap, bd_rt, rt_bd, bd_bd, bd_gd, gd_gd, gd_true, bd_ite, ite_rt, ite_gd1, ite_gd2, lift_rt, b_and, b_and2, b_or, b_or2, ite_en, look_z, look_s, lookB_z, lookB_o, lookB_s, lookA_z, lookA_c, lookA_s, lookO_o, lookO_s, List.getElem?_cons_zero, List.getElem?_cons_succ, List.set_cons_zero, List.set_cons_succ, Bool.false_eq_true, if_false, if_true, wipeN_n, wipeN_c, free_n, free_c, nOwn_n, nOwn_s, nOwn_c, Bool.true_and, true_and, List.length_cons, List.length_nil, Nat.zero_add, Nat.reduceAdd, Nat.reduceLeDiff, sz, i_en, b_en, l_en, t_en, tl_en, p_en, l1_en, t1_en, snoc_en, app_en, isL_l, c_eq, c_ne, c_inL, c_inT, c_ninL, c_ninT, c_eqE, c_neE, c_eqU, c_neU, c_lt, c_gt, c_le, c_ge, dp_int, dp_bool, dp_unit, dp_list, dp_tu, dp_pair, Nat.max_self, tr_b, tr_i, tr_l, tr_t, o_add, o_sub, o_mul, o_div, o_mod, o_shl, o_shr, o_band, o_neg, o_addL, o_addT, mulB1, i01, x_list, x_tup, x_p0, x_p1, s_list, s_tup, r_list, lt_list, lt_tup, ls_list, q_lenL, q_lenT, q_tupL, q_tupT, q_listL, q_listT, q_all, q_any, q_sum, q_max, q_min, q_int, q_abs, g_rng, toI_en, lcW_en, lcM_all, lcM_if, lcM_gd, List.map_id', List.all_map, List.any_map, Bool.not_true, Bool.not_false, List.length_map, ii_and, ii_or, Option.getD_some, List.isEmpty_map, isEmpty_filterB, Function.comp_def, id_eq, bo_sset, ar_sset, e_sset, sset_en, ssetL_en, bo_meth, bo_disp, ar_meth, ar_disp, e_meth, e_disp, vp_nil, vp_cons, vi_enum, vi_enumf, vi_rng3, x_dct, c_inD, c_ninD, s_dct, isL_d, q_lenD, q_listD, d_int, d_tu, d_pair, enum_en, index_en, mOk_l, od_1, od_2, false_implies, Bool.and_true, and_true, implies_true, forall_const, ite_some, s_lst, x_frz, frz_o, frz_h, frz_s, Option.getD_none, Int.one_mul, forW_en, gd_ff, sz_lt, List.append_nil, List.nil_append, Bool.not_not, t0_en, l0_en]
  split
  · exact ⟨⟨by omega, by omega⟩, ⟨by omega, by omega⟩, e5 _⟩
  · exact e5 _
theorem s_order (hm : 1 ≤ most) (hm2 : most ≤ 7) (q : ∀ (n : Nat) (ps : List (Int × Int)), 1 ≤ n → (n : Int) ≤ most → GO n ps → (∀ a b, (a, b) ∈ ps → (b, a) ∉ ps) → (∀ a b c, (a, b) ∈ ps → (b, c) ∈ ps → (a, c) ∈ ps) → Q (en (od n ps))) : CG (k + 4) 14 [.src, .sh (en most)] Q := by
  unfold CG; rw [hd14 rfl rfl]
  unfold b14
  simp only [wbo_var, ar_var, bo_cst, bo_bin, bo_neg, bo_not, bo_and, bo_or, bo_cmp, bo_chain, bo_ife, bo_tup, bo_lst, bo_dnew, bo_idx, bo_slc, bo_rev, bo_call, bo_prim, bo_isi, bo_lc, bo_rg, sh_rt, sh_gd, sh_bd, ar_cst, ar_bin, ar_neg, ar_not, ar_and, ar_or, ar_cmp, ar_chain, ar_ife, ar_tup, ar_lst, ar_dnew, ar_idx, ar_slc, ar_rev, ar_call, ar_prim, ar_isi, ar_lc, ar_rg, e_var, e_cst, e_bin, e_neg, e_not, e_and, e_or, e_cmp, e_chain, e_ife, e_tup, e_lst, e_dnew, e_idx, e_slc, e_rev, e_call, e_prim, e_isi, e_lc, e_rg, wt_and, wt_or, wt_not, wt_e, vs_nil, vs_cons, vs_star, vb_nil, vb_cons, va_nil, va_cons, vo_no, vo_yes, vc_no, vc_yes, vi_val, vi_valf, vi_rng, vi_zip, vi_zipf, getD_0, getD_s, a_v, a_p, Option.bind_some, x_nil, x_cons, x_ite, exec, koF, parW, sets_n, sets_c, rt_ap, bd_ap, gd_ap, ite_ap, bd_rt, rt_bd, bd_bd, bd_gd, gd_gd, gd_true, bd_ite, ite_rt, ite_gd1, ite_gd2, lift_rt, b_and, b_and2, b_or, b_or2, ite_en, look_z, look_s, lookB_z, lookB_o, lookB_s, lookA_z, lookA_c, lookA_s, lookO_o, lookO_s, List.getElem?_cons_zero, List.getElem?_cons_succ, List.set_cons_zero, List.set_cons_succ, Bool.false_eq_true, if_false, if_true, wipeN_n, wipeN_c, free_n, free_c, nOwn_n, nOwn_s, nOwn_c, Bool.true_and, true_and, List.length_cons, List.length_nil, Nat.zero_add, Nat.reduceAdd, Nat.reduceLeDiff, sz, i_en, b_en, l_en, t_en, tl_en, p_en, l1_en, t1_en, snoc_en, app_en, isL_l, c_eq, c_ne, c_inL, c_inT, c_ninL, c_ninT, c_eqE, c_neE, c_eqU, c_neU, c_lt, c_gt, c_le, c_ge, dp_int, dp_bool, dp_unit, dp_list, dp_tu, dp_pair, Nat.max_self, tr_b, tr_i, tr_l, tr_t, o_add, o_sub, o_mul, o_div, o_mod, o_shl, o_shr, o_band, o_neg, o_addL, o_addT, mulB1, i01, x_list, x_tup, x_p0, x_p1, s_list, s_tup, r_list, lt_list, lt_tup, ls_list, q_lenL, q_lenT, q_tupL, q_tupT, q_listL, q_listT, q_all, q_any, q_sum, q_max, q_min, q_int, q_abs, g_rng, toI_en, lcW_en, lcM_all, lcM_if, lcM_gd, List.map_id', List.all_map, List.any_map, Bool.not_true, Bool.not_false, List.length_map, ii_and, ii_or, Option.getD_some, List.isEmpty_map, isEmpty_filterB, Function.comp_def, id_eq, bo_sset, ar_sset, e_sset, sset_en, ssetL_en, bo_meth, bo_disp, ar_meth, ar_disp, e_meth, e_disp, vp_nil, vp_cons, vi_enum, vi_enumf, vi_rng3, x_dct, c_inD, c_ninD, s_dct, isL_d, q_lenD, q_listD, d_int, d_tu, d_pair, enum_en, index_en, mOk_l, od_1, od_2, false_implies, Bool.and_true, and_true, implies_true, forall_const, ite_some, s_lst, x_frz, frz_o, frz_h, frz_s, Option.getD_none, Int.one_mul, forW_en, gd_ff, sz_lt, List.append_nil, List.nil_append, Bool.not_not, t0_en, l0_en]
  refine s_pick (by omega) fun j1 j1a j1b => ?_
  obtain ⟨n, hn⟩ : ∃ n : Nat, 1 + j1 = n := ⟨(1 + j1).toNat, by omega⟩
  have hn1 : 1 ≤ n := by omega
  have hn7 : n ≤ 7 := by omega
  simp only [wbo_var, ar_var, bo_cst, bo_bin, bo_neg, bo_not, bo_and, bo_or, bo_cmp, bo_chain, bo_ife, bo_tup, bo_lst, bo_dnew, bo_idx, bo_slc, bo_rev, bo_call, bo_prim, bo_isi, bo_lc, bo_rg, sh_rt, sh_gd, sh_bd, ar_cst, ar_bin, ar_neg, ar_not, ar_and, ar_or, ar_cmp, ar_chain, ar_ife, ar_tup, ar_lst, ar_dnew, ar_idx, ar_slc, ar_rev, ar_call, ar_prim, ar_isi, ar_lc, ar_rg, e_var, e_cst, e_bin, e_neg, e_not, e_and, e_or, e_cmp, e_chain, e_ife, e_tup, e_lst, e_dnew, e_idx, e_slc, e_rev, e_call, e_prim, e_isi, e_lc, e_rg, wt_and, wt_or, wt_not, wt_e, vs_nil, vs_cons, vs_star, vb_nil, vb_cons, va_nil, va_cons, vo_no, vo_yes, vc_no, vc_yes, vi_val, vi_valf, vi_rng, vi_zip, vi_zipf, getD_0, getD_s, a_v, a_p, Option.bind_some, x_nil, x_cons, x_ite, exec, koF, parW, sets_n, sets_c, rt_ap, bd_ap, gd_ap, ite_ap, bd_rt, rt_bd, bd_bd, bd_gd, gd_gd, gd_true, bd_ite, ite_rt, ite_gd1, ite_gd2, lift_rt, b_and, b_and2, b_or, b_or2, ite_en, look_z, look_s, lookB_z, lookB_o, lookB_s, lookA_z, lookA_c, lookA_s, lookO_o, lookO_s, List.getElem?_cons_zero, List.getElem?_cons_succ, List.set_cons_zero, List.set_cons_succ, Bool.false_eq_true, if_false, if_true, wipeN_n, wipeN_c, free_n, free_c, nOwn_n, nOwn_s, nOwn_c, Bool.true_and, true_and, List.length_cons, List.length_nil, Nat.zero_add, Nat.reduceAdd, Nat.reduceLeDiff, sz, i_en, b_en, l_en, t_en, tl_en, p_en, l1_en, t1_en, snoc_en, app_en, isL_l, c_eq, c_ne, c_inL, c_inT, c_ninL, c_ninT, c_eqE, c_neE, c_eqU, c_neU, c_lt, c_gt, c_le, c_ge, dp_int, dp_bool, dp_unit, dp_list, dp_tu, dp_pair, Nat.max_self, tr_b, tr_i, tr_l, tr_t, o_add, o_sub, o_mul, o_div, o_mod, o_shl, o_shr, o_band, o_neg, o_addL, o_addT, mulB1, i01, x_list, x_tup, x_p0, x_p1, s_list, s_tup, r_list, lt_list, lt_tup, ls_list, q_lenL, q_lenT, q_tupL, q_tupT, q_listL, q_listT, q_all, q_any, q_sum, q_max, q_min, q_int, q_abs, g_rng, toI_en, lcW_en, lcM_all, lcM_if, lcM_gd, List.map_id', List.all_map, List.any_map, Bool.not_true, Bool.not_false, List.length_map, ii_and, ii_or, Option.getD_some, List.isEmpty_map, isEmpty_filterB, Function.comp_def, id_eq, bo_sset, ar_sset, e_sset, sset_en, ssetL_en, bo_meth, bo_disp, ar_meth, ar_disp, e_meth, e_disp, vp_nil, vp_cons, vi_enum, vi_enumf, vi_rng3, x_dct, c_inD, c_ninD, s_dct, isL_d, q_lenD, q_listD, d_int, d_tu, d_pair, enum_en, index_en, mOk_l, od_1, od_2, false_implies, Bool.and_true, and_true, implies_true, forall_const, ite_some, s_lst, x_frz, frz_o, frz_h, frz_s, Option.getD_none, Int.one_mul, forW_en, gd_ff, sz_lt, List.append_nil, List.nil_append, Bool.not_not, t0_en, l0_en]
  rw [hn]
  refine s_pick (by decide) fun road r1 r2 => ?_
  refine ⟨rng_ok (by omega), ?_⟩
  rw [rgI_rg]
  refine s_mixed (by rw [rg_len]; omega) fun names hp => ?_
  have nl : names.length = n := by rw [hp.length_eq, rg_len]
  have nd : names.Nodup := hp.nodup_iff.mpr (rg_nodup n)
  have fin : ∀ ps : List (Int × Int), (∀ p ∈ ps, Ahead names p) → CG (k + 3) 13 [.sh (en (n : Int)), .sh (en ps)] Q := fun ps hA =>
    s_closed (T := Ahead names) (by omega) (fun a k b h1 h2 => h1.trans nd h2) (fun p h => h.inr hp) hA fun qs g hT hC =>
      q n qs hn1 (by omega) g (fun a b h1 h2 => ((hT _ h1).trans nd (hT _ h2)).ne nd rfl) hC
  refine s_pick (by decide) fun sh s1 s2 => ?_
  simp only [wbo_var, ar_var, bo_cst, bo_bin, bo_neg, bo_not, bo_and, bo_or, bo_cmp, bo_chain, bo_ife, bo_tup, bo_lst, bo_dnew, bo_idx, bo_slc, bo_rev, bo_call, bo_prim, bo_isi, bo_lc, bo_rg, sh_rt, sh_gd, sh_bd, ar_cst, ar_bin, ar_neg, ar_not, ar_and, ar_or, ar_cmp, ar_chain, ar_ife, ar_tup, ar_lst, ar_dnew, ar_idx, ar_slc, ar_rev, ar_call, ar_prim, ar_isi, ar_lc, ar_rg, e_var, e_cst, e_bin, e_neg, e_not, e_and, e_or, e_cmp, e_chain, e_ife, e_tup, e_lst, e_dnew, e_idx, e_slc, e_rev, e_call, e_prim, e_isi, e_lc, e_rg, wt_and, wt_or, wt_not, wt_e, vs_nil, vs_cons, vs_star, vb_nil, vb_cons, va_nil, va_cons, vo_no, vo_yes, vc_no, vc_yes, vi_val, vi_valf, vi_rng, vi_zip, vi_zipf, getD_0, getD_s, a_v, a_p, Option.bind_some, x_nil, x_cons, x_ite, exec, koF, parW, sets_n, sets_c, rt_ap, bd_ap, gd_ap, ite_ap, bd_rt, rt_bd, bd_bd, bd_gd, gd_gd, gd_true, bd_ite, ite_rt, ite_gd1, ite_gd2, lift_rt, b_and, b_and2, b_or, b_or2, ite_en, look_z, look_s, lookB_z, lookB_o, lookB_s, lookA_z, lookA_c, lookA_s, lookO_o, lookO_s, List.getElem?_cons_zero, List.getElem?_cons_succ, List.set_cons_zero, List.set_cons_succ, Bool.false_eq_true, if_false, if_true, wipeN_n, wipeN_c, free_n, free_c, nOwn_n, nOwn_s, nOwn_c, Bool.true_and, true_and, List.length_cons, List.length_nil, Nat.zero_add, Nat.reduceAdd, Nat.reduceLeDiff, sz, i_en, b_en, l_en, t_en, tl_en, p_en, l1_en, t1_en, snoc_en, app_en, isL_l, c_eq, c_ne, c_inL, c_inT, c_ninL, c_ninT, c_eqE, c_neE, c_eqU, c_neU, c_lt, c_gt, c_le, c_ge, dp_int, dp_bool, dp_unit, dp_list, dp_tu, dp_pair, Nat.max_self, tr_b, tr_i, tr_l, tr_t, o_add, o_sub, o_mul, o_div, o_mod, o_shl, o_shr, o_band, o_neg, o_addL, o_addT, mulB1, i01, x_list, x_tup, x_p0, x_p1, s_list, s_tup, r_list, lt_list, lt_tup, ls_list, q_lenL, q_lenT, q_tupL, q_tupT, q_listL, q_listT, q_all, q_any, q_sum, q_max, q_min, q_int, q_abs, g_rng, toI_en, lcW_en, lcM_all, lcM_if, lcM_gd, List.map_id', List.all_map, List.any_map, Bool.not_true, Bool.not_false, List.length_map, ii_and, ii_or, Option.getD_some, List.isEmpty_map, isEmpty_filterB, Function.comp_def, id_eq, bo_sset, ar_sset, e_sset, sset_en, ssetL_en, bo_meth, bo_disp, ar_meth, ar_disp, e_meth, e_disp, vp_nil, vp_cons, vi_enum, vi_enumf, vi_rng3, x_dct, c_inD, c_ninD, s_dct, isL_d, q_lenD, q_listD, d_int, d_tu, d_pair, enum_en, index_en, mOk_l, od_1, od_2, false_implies, Bool.and_true, and_true, implies_true, forall_const, ite_some, s_lst, x_frz, frz_o, frz_h, frz_s, Option.getD_none, Int.one_mul, forW_en, gd_ff, sz_lt, List.append_nil, List.nil_append, Bool.not_not, t0_en, l0_en]
  refine ⟨rng_ok (by omega), ?_⟩
  refine forL_inv (fun done ρ => ∃ (ps : List (Int × Int)) (x3 x8 x9 : Option B), ρ = dsl most ps x3 n road names (1 + sh) x8 x9 ∧ ps.length ≤ 8 * done.length ∧ ∀ p ∈ ps, Ahead names p) (done := []) ⟨[], none, none, none, rfl, by simp, by simp⟩ ?_ ?_
  · rintro done a r ρ e ⟨ps, x3, x8, x9, rfl, hl, hA⟩ K2 hK2
    have ha : a ∈ rg n := by rw [show rg n = done ++ a :: r from e]; simp
    have har := mem_rg.mp ha
    obtain ⟨j, rfl⟩ := Int.eq_ofNat_of_zero_le har.1
    have hjn : j < n := by omega
    have hdl : done.length < n := by
      have := congrArg List.length (show rg n = done ++ (j : Int) :: r from e)
      rw [rg_len, List.length_append, List.length_cons] at this; omega
    unfold dsl
    simp only [wbo_var, ar_var, bo_cst, bo_bin, bo_neg, bo_not, bo_and, bo_or, bo_cmp, bo_chain, bo_ife, bo_tup, bo_lst, bo_dnew, bo_idx, bo_slc, bo_rev, bo_call, bo_prim, bo_isi, bo_lc, bo_rg, sh_rt, sh_gd, sh_bd, ar_cst, ar_bin, ar_neg, ar_not, ar_and, ar_or, ar_cmp, ar_chain, ar_ife, ar_tup, ar_lst, ar_dnew, ar_idx, ar_slc, ar_rev, ar_call, ar_prim, ar_isi, ar_lc, ar_rg, e_var, e_cst, e_bin, e_neg, e_not, e_and, e_or, e_cmp, e_chain, e_ife, e_tup, e_lst, e_dnew, e_idx, e_slc, e_rev, e_call, e_prim, e_isi, e_lc, e_rg, wt_and, wt_or, wt_not, wt_e, vs_nil, vs_cons, vs_star, vb_nil, vb_cons, va_nil, va_cons, vo_no, vo_yes, vc_no, vc_yes, vi_val, vi_valf, vi_rng, vi_zip, vi_zipf, getD_0, getD_s, a_v, a_p, Option.bind_some, x_nil, x_cons, x_ite, exec, koF, parW, sets_n, sets_c, rt_ap, bd_ap, gd_ap, ite_ap, bd_rt, rt_bd, bd_bd, bd_gd, gd_gd, gd_true, bd_ite, ite_rt, ite_gd1, ite_gd2, lift_rt, b_and, b_and2, b_or, b_or2, ite_en, look_z, look_s, lookB_z, lookB_o, lookB_s, lookA_z, lookA_c, lookA_s, lookO_o, lookO_s, List.getElem?_cons_zero, List.getElem?_cons_succ, List.set_cons_zero, List.set_cons_succ, Bool.false_eq_true, if_false, if_true, wipeN_n, wipeN_c, free_n, free_c, nOwn_n, nOwn_s, nOwn_c, Bool.true_and, true_and, List.length_cons, List.length_nil, Nat.zero_add, Nat.reduceAdd, Nat.reduceLeDiff, sz, i_en, b_en, l_en, t_en, tl_en, p_en, l1_en, t1_en, snoc_en, app_en, isL_l, c_eq, c_ne, c_inL, c_inT, c_ninL, c_ninT, c_eqE, c_neE, c_eqU, c_neU, c_lt, c_gt, c_le, c_ge, dp_int, dp_bool, dp_unit, dp_list, dp_tu, dp_pair, Nat.max_self, tr_b, tr_i, tr_l, tr_t, o_add, o_sub, o_mul, o_div, o_mod, o_shl, o_shr, o_band, o_neg, o_addL, o_addT, mulB1, i01, x_list, x_tup, x_p0, x_p1, s_list, s_tup, r_list, lt_list, lt_tup, ls_list, q_lenL, q_lenT, q_tupL, q_tupT, q_listL, q_listT, q_all, q_any, q_sum, q_max, q_min, q_int, q_abs, g_rng, toI_en, lcW_en, lcM_all, lcM_if, lcM_gd, List.map_id', List.all_map, List.any_map, Bool.not_true, Bool.not_false, List.length_map, ii_and, ii_or, Option.getD_some, List.isEmpty_map, isEmpty_filterB, Function.comp_def, id_eq, bo_sset, ar_sset, e_sset, sset_en, ssetL_en, bo_meth, bo_disp, ar_meth, ar_disp, e_meth, e_disp, vp_nil, vp_cons, vi_enum, vi_enumf, vi_rng3, x_dct, c_inD, c_ninD, s_dct, isL_d, q_lenD, q_listD, d_int, d_tu, d_pair, enum_en, index_en, mOk_l, od_1, od_2, false_implies, Bool.and_true, and_true, implies_true, forall_const, ite_some, s_lst, x_frz, frz_o, frz_h, frz_s, Option.getD_none, Int.one_mul, forW_en, gd_ff, sz_lt, List.append_nil, List.nil_append, Bool.not_not, t0_en, l0_en]
    refine ⟨rng_ok (by omega), ?_⟩
    rw [rgI_rg]
    refine forL_inv (fun d ρ => ∃ (ps : List (Int × Int)) (x8 x9 : Option B), ρ = dsl most ps (some (.sh (en (j : Int)))) n road names (1 + sh) x8 x9 ∧ ps.length ≤ 8 * done.length + d.length ∧ ∀ p ∈ ps, Ahead names p) (done := []) ⟨ps, x8, x9, rfl, by simpa using hl, hA⟩ ?_ ?_
    · rintro d b r' ρ e' ⟨ps, x8, x9, rfl, hl, hA⟩ K3 hK3
      have hb : b ∈ rg j := by rw [show rg j = d ++ b :: r' from e']; simp
      have hbr := mem_rg.mp hb
      obtain ⟨i, rfl⟩ := Int.eq_ofNat_of_zero_le hbr.1
      have hij : i < j := by omega
      have hdl2 : d.length < j := by
        have := congrArg List.length (show rg j = d ++ (i : Int) :: r' from e')
        rw [rg_len, List.length_append, List.length_cons] at this; omega
      unfold dsl
      simp only [wbo_var, ar_var, bo_cst, bo_bin, bo_neg, bo_not, bo_and, bo_or, bo_cmp, bo_chain, bo_ife, bo_tup, bo_lst, bo_dnew, bo_idx, bo_slc, bo_rev, bo_call, bo_prim, bo_isi, bo_lc, bo_rg, sh_rt, sh_gd, sh_bd, ar_cst, ar_bin, ar_neg, ar_not, ar_and, ar_or, ar_cmp, ar_chain, ar_ife, ar_tup, ar_lst, ar_dnew, ar_idx, ar_slc, ar_rev, ar_call, ar_prim, ar_isi, ar_lc, ar_rg, e_var, e_cst, e_bin, e_neg, e_not, e_and, e_or, e_cmp, e_chain, e_ife, e_tup, e_lst, e_dnew, e_idx, e_slc, e_rev, e_call, e_prim, e_isi, e_lc, e_rg, wt_and, wt_or, wt_not, wt_e, vs_nil, vs_cons, vs_star, vb_nil, vb_cons, va_nil, va_cons, vo_no, vo_yes, vc_no, vc_yes, vi_val, vi_valf, vi_rng, vi_zip, vi_zipf, getD_0, getD_s, a_v, a_p, Option.bind_some, x_nil, x_cons, x_ite, exec, koF, parW, sets_n, sets_c, rt_ap, bd_ap, gd_ap, ite_ap, bd_rt, rt_bd, bd_bd, bd_gd, gd_gd, gd_true, bd_ite, ite_rt, ite_gd1, ite_gd2, lift_rt, b_and, b_and2, b_or, b_or2, ite_en, look_z, look_s, lookB_z, lookB_o, lookB_s, lookA_z, lookA_c, lookA_s, lookO_o, lookO_s, List.getElem?_cons_zero, List.getElem?_cons_succ, List.set_cons_zero, List.set_cons_succ, Bool.false_eq_true, if_false, if_true, wipeN_n, wipeN_c, free_n, free_c, nOwn_n, nOwn_s, nOwn_c, Bool.true_and, true_and, List.length_cons, List.length_nil, Nat.zero_add, Nat.reduceAdd, Nat.reduceLeDiff, sz, i_en, b_en, l_en, t_en, tl_en, p_en, l1_en, t1_en, snoc_en, app_en, isL_l, c_eq, c_ne, c_inL, c_inT, c_ninL, c_ninT, c_eqE, c_neE, c_eqU, c_neU, c_lt, c_gt, c_le, c_ge, dp_int, dp_bool, dp_unit, dp_list, dp_tu, dp_pair, Nat.max_self, tr_b, tr_i, tr_l, tr_t, o_add, o_sub, o_mul, o_div, o_mod, o_shl, o_shr, o_band, o_neg, o_addL, o_addT, mulB1, i01, x_list, x_tup, x_p0, x_p1, s_list, s_tup, r_list, lt_list, lt_tup, ls_list, q_lenL, q_lenT, q_tupL, q_tupT, q_listL, q_listT, q_all, q_any, q_sum, q_max, q_min, q_int, q_abs, g_rng, toI_en, lcW_en, lcM_all, lcM_if, lcM_gd, List.map_id', List.all_map, List.any_map, Bool.not_true, Bool.not_false, List.length_map, ii_and, ii_or, Option.getD_some, List.isEmpty_map, isEmpty_filterB, Function.comp_def, id_eq, bo_sset, ar_sset, e_sset, sset_en, ssetL_en, bo_meth, bo_disp, ar_meth, ar_disp, e_meth, e_disp, vp_nil, vp_cons, vi_enum, vi_enumf, vi_rng3, x_dct, c_inD, c_ninD, s_dct, isL_d, q_lenD, q_listD, d_int, d_tu, d_pair, enum_en, index_en, mOk_l, od_1, od_2, false_implies, Bool.and_true, and_true, implies_true, forall_const, ite_some, s_lst, x_frz, frz_o, frz_h, frz_s, Option.getD_none, Int.one_mul, forW_en, gd_ff, sz_lt, List.append_nil, List.nil_append, Bool.not_not, t0_en, l0_en]
      refine d_6 (most := most) (road := road) (share := 1 + sh) (i := i) (j := j) (x9 := x9) (n := n) hn1 (by omega) (by omega) (by omega) (by omega) (by omega) (by omega) fun one x9' => ?_
      refine hK3 _ ⟨if one = true then ps ++ [(pix names i, pix names j)] else ps, _, x9', rfl, ?_, ?_⟩
      · cases one <;> simp <;> omega
      · intro p hp'
        cases one
        · exact hA p (by simpa using hp')
        · rcases List.mem_append.mp (show p ∈ ps ++ [(pix names i, pix names j)] from by simpa using hp') with h | h
          · exact hA p h
          · have : p = (pix names i, pix names j) := by simpa using h
            rw [this, pix_of (List.getElem?_eq_getElem (show i < names.length by omega)), pix_of (List.getElem?_eq_getElem (show j < names.length by omega))]
            exact ⟨i, j, hij, List.getElem?_eq_getElem _, List.getElem?_eq_getElem _⟩
    · rintro ρ ⟨ps, x8, x9, rfl, hl, hA⟩
      rw [List.nil_append, rg_len] at hl
      refine hK2 _ ⟨ps, _, _, _, rfl, ?_, hA⟩
      rw [List.length_append, List.length_cons, List.length_nil]
      omega
  · rintro ρ ⟨ps, x3, x8, x9, rfl, hl, hA⟩
    unfold dsl b14_7
    simp only [wbo_var, ar_var, bo_cst, bo_bin, bo_neg, bo_not, bo_and, bo_or, bo_cmp, bo_chain, bo_ife, bo_tup, bo_lst, bo_dnew, bo_idx, bo_slc, bo_rev, bo_call, bo_prim, bo_isi, bo_lc, bo_rg, sh_rt, sh_gd, sh_bd, ar_cst, ar_bin, ar_neg, ar_not, ar_and, ar_or, ar_cmp, ar_chain, ar_ife, ar_tup, ar_lst, ar_dnew, ar_idx, ar_slc, ar_rev, ar_call, ar_prim, ar_isi, ar_lc, ar_rg, e_var, e_cst, e_bin, e_neg, e_not, e_and, e_or, e_cmp, e_chain, e_ife, e_tup, e_lst, e_dnew, e_idx, e_slc, e_rev, e_call, e_prim, e_isi, e_lc, e_rg, wt_and, wt_or, wt_not, wt_e, vs_nil, vs_cons, vs_star, vb_nil, vb_cons, va_nil, va_cons, vo_no, vo_yes, vc_no, vc_yes, vi_val, vi_valf, vi_rng, vi_zip, vi_zipf, getD_0, getD_s, a_v, a_p, Option.bind_some, x_nil, x_cons, x_ite, exec, koF, parW, sets_n, sets_c, rt_ap, bd_ap, gd_ap, ite_ap, bd_rt, rt_bd, bd_bd, bd_gd, gd_gd, gd_true, bd_ite, ite_rt, ite_gd1, ite_gd2, lift_rt, b_and, b_and2, b_or, b_or2, ite_en, look_z, look_s, lookB_z, lookB_o, lookB_s, lookA_z, lookA_c, lookA_s, lookO_o, lookO_s, List.getElem?_cons_zero, List.getElem?_cons_succ, List.set_cons_zero, List.set_cons_succ, Bool.false_eq_true, if_false, if_true, wipeN_n, wipeN_c, free_n, free_c, nOwn_n, nOwn_s, nOwn_c, Bool.true_and, true_and, List.length_cons, List.length_nil, Nat.zero_add, Nat.reduceAdd, Nat.reduceLeDiff, sz, i_en, b_en, l_en, t_en, tl_en, p_en, l1_en, t1_en, snoc_en, app_en, isL_l, c_eq, c_ne, c_inL, c_inT, c_ninL, c_ninT, c_eqE, c_neE, c_eqU, c_neU, c_lt, c_gt, c_le, c_ge, dp_int, dp_bool, dp_unit, dp_list, dp_tu, dp_pair, Nat.max_self, tr_b, tr_i, tr_l, tr_t, o_add, o_sub, o_mul, o_div, o_mod, o_shl, o_shr, o_band, o_neg, o_addL, o_addT, mulB1, i01, x_list, x_tup, x_p0, x_p1, s_list, s_tup, r_list, lt_list, lt_tup, ls_list, q_lenL, q_lenT, q_tupL, q_tupT, q_listL, q_listT, q_all, q_any, q_sum, q_max, q_min, q_int, q_abs, g_rng, toI_en, lcW_en, lcM_all, lcM_if, lcM_gd, List.map_id', List.all_map, List.any_map, Bool.not_true, Bool.not_false, List.length_map, ii_and, ii_or, Option.getD_some, List.isEmpty_map, isEmpty_filterB, Function.comp_def, id_eq, bo_sset, ar_sset, e_sset, sset_en, ssetL_en, bo_meth, bo_disp, ar_meth, ar_disp, e_meth, e_disp, vp_nil, vp_cons, vi_enum, vi_enumf, vi_rng3, x_dct, c_inD, c_ninD, s_dct, isL_d, q_lenD, q_listD, d_int, d_tu, d_pair, enum_en, index_en, mOk_l, od_1, od_2, false_implies, Bool.and_true, and_true, implies_true, forall_const, ite_some, s_lst, x_frz, frz_o, frz_h, frz_s, Option.getD_none, Int.one_mul, forW_en, gd_ff, sz_lt, List.append_nil, List.nil_append, Bool.not_not, t0_en, l0_en]
    exact fin ps hA
end
end PD
set_option maxHeartbeats 4000000
/-! K59g: all lots, all cuts: the program's and the law's. -/
namespace PD
open PySem L2
section
variable {k n : Nat} {ps : List (Int × Int)} {Q : D → Prop}
theorem s_lots (hn : n ≤ 10) (q : Q (en (lotsL (rg n)))) : CG (k + 1) 19 [.sh (en (n : Int))] Q := by
  unfold CG; rw [hd19 rfl]
  unfold b19
  simp only [wbo_var, ar_var, bo_cst, bo_bin, bo_neg, bo_not, bo_and, bo_or, bo_cmp, bo_chain, bo_ife, bo_tup, bo_lst, bo_dnew, bo_idx, bo_slc, bo_rev, bo_call, bo_prim, bo_isi, bo_lc, bo_rg, sh_rt, sh_gd, sh_bd, ar_cst, ar_bin, ar_neg, ar_not, ar_and, ar_or, ar_cmp, ar_chain, ar_ife, ar_tup, ar_lst, ar_dnew, ar_idx, ar_slc, ar_rev, ar_call, ar_prim, ar_isi, ar_lc, ar_rg, e_var, e_cst, e_bin, e_neg, e_not, e_and, e_or, e_cmp, e_chain, e_ife, e_tup, e_lst, e_dnew, e_idx, e_slc, e_rev, e_call, e_prim, e_isi, e_lc, e_rg, wt_and, wt_or, wt_not, wt_e, vs_nil, vs_cons, vs_star, vb_nil, vb_cons, va_nil, va_cons, vo_no, vo_yes, vc_no, vc_yes, vi_val, vi_valf, vi_rng, vi_zip, vi_zipf, getD_0, getD_s, a_v, a_p, Option.bind_some, x_nil, x_cons, x_ite, exec, koF, parW, sets_n, sets_c, rt_ap, bd_ap, gd_ap, ite_ap, bd_rt, rt_bd, bd_bd, bd_gd, gd_gd, gd_true, bd_ite, ite_rt, ite_gd1, ite_gd2, lift_rt, b_and, b_and2, b_or, b_or2, ite_en, look_z, look_s, lookB_z, lookB_o, lookB_s, lookA_z, lookA_c, lookA_s, lookO_o, lookO_s, List.getElem?_cons_zero, List.getElem?_cons_succ, List.set_cons_zero, List.set_cons_succ, Bool.false_eq_true, if_false, if_true, wipeN_n, wipeN_c, free_n, free_c, nOwn_n, nOwn_s, nOwn_c, Bool.true_and, true_and, List.length_cons, List.length_nil, Nat.zero_add, Nat.reduceAdd, Nat.reduceLeDiff, sz, i_en, b_en, l_en, t_en, tl_en, p_en, l1_en, t1_en, snoc_en, app_en, isL_l, c_eq, c_ne, c_inL, c_inT, c_ninL, c_ninT, c_eqE, c_neE, c_eqU, c_neU, c_lt, c_gt, c_le, c_ge, dp_int, dp_bool, dp_unit, dp_list, dp_tu, dp_pair, Nat.max_self, tr_b, tr_i, tr_l, tr_t, o_add, o_sub, o_mul, o_div, o_mod, o_shl, o_shr, o_band, o_neg, o_addL, o_addT, mulB1, i01, x_list, x_tup, x_p0, x_p1, s_list, s_tup, r_list, lt_list, lt_tup, ls_list, q_lenL, q_lenT, q_tupL, q_tupT, q_listL, q_listT, q_all, q_any, q_sum, q_max, q_min, q_int, q_abs, g_rng, toI_en, lcW_en, lcM_all, lcM_if, lcM_gd, List.map_id', List.all_map, List.any_map, Bool.not_true, Bool.not_false, List.length_map, ii_and, ii_or, Option.getD_some, List.isEmpty_map, isEmpty_filterB, Function.comp_def, id_eq, bo_sset, ar_sset, e_sset, sset_en, ssetL_en, bo_meth, bo_disp, ar_meth, ar_disp, e_meth, e_disp, vp_nil, vp_cons, vi_enum, vi_enumf, vi_rng3, x_dct, c_inD, c_ninD, s_dct, isL_d, q_lenD, q_listD, d_int, d_tu, d_pair, enum_en, index_en, mOk_l, od_1, od_2, false_implies, Bool.and_true, and_true, implies_true, forall_const, ite_some, s_lst, x_frz, frz_o, frz_h, frz_s, Option.getD_none, Int.one_mul, forW_en, gd_ff, sz_lt, List.append_nil, List.nil_append, Bool.not_not, t0_en, l0_en]
  rw [mtU (α := Int)]
  simp only [wbo_var, ar_var, bo_cst, bo_bin, bo_neg, bo_not, bo_and, bo_or, bo_cmp, bo_chain, bo_ife, bo_tup, bo_lst, bo_dnew, bo_idx, bo_slc, bo_rev, bo_call, bo_prim, bo_isi, bo_lc, bo_rg, sh_rt, sh_gd, sh_bd, ar_cst, ar_bin, ar_neg, ar_not, ar_and, ar_or, ar_cmp, ar_chain, ar_ife, ar_tup, ar_lst, ar_dnew, ar_idx, ar_slc, ar_rev, ar_call, ar_prim, ar_isi, ar_lc, ar_rg, e_var, e_cst, e_bin, e_neg, e_not, e_and, e_or, e_cmp, e_chain, e_ife, e_tup, e_lst, e_dnew, e_idx, e_slc, e_rev, e_call, e_prim, e_isi, e_lc, e_rg, wt_and, wt_or, wt_not, wt_e, vs_nil, vs_cons, vs_star, vb_nil, vb_cons, va_nil, va_cons, vo_no, vo_yes, vc_no, vc_yes, vi_val, vi_valf, vi_rng, vi_zip, vi_zipf, getD_0, getD_s, a_v, a_p, Option.bind_some, x_nil, x_cons, x_ite, exec, koF, parW, sets_n, sets_c, rt_ap, bd_ap, gd_ap, ite_ap, bd_rt, rt_bd, bd_bd, bd_gd, gd_gd, gd_true, bd_ite, ite_rt, ite_gd1, ite_gd2, lift_rt, b_and, b_and2, b_or, b_or2, ite_en, look_z, look_s, lookB_z, lookB_o, lookB_s, lookA_z, lookA_c, lookA_s, lookO_o, lookO_s, List.getElem?_cons_zero, List.getElem?_cons_succ, List.set_cons_zero, List.set_cons_succ, Bool.false_eq_true, if_false, if_true, wipeN_n, wipeN_c, free_n, free_c, nOwn_n, nOwn_s, nOwn_c, Bool.true_and, true_and, List.length_cons, List.length_nil, Nat.zero_add, Nat.reduceAdd, Nat.reduceLeDiff, sz, i_en, b_en, l_en, t_en, tl_en, p_en, l1_en, t1_en, snoc_en, app_en, isL_l, c_eq, c_ne, c_inL, c_inT, c_ninL, c_ninT, c_eqE, c_neE, c_eqU, c_neU, c_lt, c_gt, c_le, c_ge, dp_int, dp_bool, dp_unit, dp_list, dp_tu, dp_pair, Nat.max_self, tr_b, tr_i, tr_l, tr_t, o_add, o_sub, o_mul, o_div, o_mod, o_shl, o_shr, o_band, o_neg, o_addL, o_addT, mulB1, i01, x_list, x_tup, x_p0, x_p1, s_list, s_tup, r_list, lt_list, lt_tup, ls_list, q_lenL, q_lenT, q_tupL, q_tupT, q_listL, q_listT, q_all, q_any, q_sum, q_max, q_min, q_int, q_abs, g_rng, toI_en, lcW_en, lcM_all, lcM_if, lcM_gd, List.map_id', List.all_map, List.any_map, Bool.not_true, Bool.not_false, List.length_map, ii_and, ii_or, Option.getD_some, List.isEmpty_map, isEmpty_filterB, Function.comp_def, id_eq, bo_sset, ar_sset, e_sset, sset_en, ssetL_en, bo_meth, bo_disp, ar_meth, ar_disp, e_meth, e_disp, vp_nil, vp_cons, vi_enum, vi_enumf, vi_rng3, x_dct, c_inD, c_ninD, s_dct, isL_d, q_lenD, q_listD, d_int, d_tu, d_pair, enum_en, index_en, mOk_l, od_1, od_2, false_implies, Bool.and_true, and_true, implies_true, forall_const, ite_some, s_lst, x_frz, frz_o, frz_h, frz_s, Option.getD_none, Int.one_mul, forW_en, gd_ff, sz_lt, List.append_nil, List.nil_append, Bool.not_not, t0_en, l0_en]
  refine ⟨rng_ok (by omega), ?_⟩
  rw [rgI_rg]
  refine forL_inv (fun done ρ => ∃ (x2 : Option B), ρ = [some (.sh (en (n : Int))), some (.sh (en (lotsL done))), x2, none]) (done := []) ⟨none, rfl⟩ ?_ ?_
  · rintro done c r ρ e ⟨x2, rfl⟩ K hK
    have hdl : done.length < n := by
      have := congrArg List.length (show rg n = done ++ c :: r from e)
      rw [rg_len, List.length_append, List.length_cons] at this; omega
    unfold b19_0
    simp only [wbo_var, ar_var, bo_cst, bo_bin, bo_neg, bo_not, bo_and, bo_or, bo_cmp, bo_chain, bo_ife, bo_tup, bo_lst, bo_dnew, bo_idx, bo_slc, bo_rev, bo_call, bo_prim, bo_isi, bo_lc, bo_rg, sh_rt, sh_gd, sh_bd, ar_cst, ar_bin, ar_neg, ar_not, ar_and, ar_or, ar_cmp, ar_chain, ar_ife, ar_tup, ar_lst, ar_dnew, ar_idx, ar_slc, ar_rev, ar_call, ar_prim, ar_isi, ar_lc, ar_rg, e_var, e_cst, e_bin, e_neg, e_not, e_and, e_or, e_cmp, e_chain, e_ife, e_tup, e_lst, e_dnew, e_idx, e_slc, e_rev, e_call, e_prim, e_isi, e_lc, e_rg, wt_and, wt_or, wt_not, wt_e, vs_nil, vs_cons, vs_star, vb_nil, vb_cons, va_nil, va_cons, vo_no, vo_yes, vc_no, vc_yes, vi_val, vi_valf, vi_rng, vi_zip, vi_zipf, getD_0, getD_s, a_v, a_p, Option.bind_some, x_nil, x_cons, x_ite, exec, koF, parW, sets_n, sets_c, rt_ap, bd_ap, gd_ap, ite_ap, bd_rt, rt_bd, bd_bd, bd_gd, gd_gd, gd_true, bd_ite, ite_rt, ite_gd1, ite_gd2, lift_rt, b_and, b_and2, b_or, b_or2, ite_en, look_z, look_s, lookB_z, lookB_o, lookB_s, lookA_z, lookA_c, lookA_s, lookO_o, lookO_s, List.getElem?_cons_zero, List.getElem?_cons_succ, List.set_cons_zero, List.set_cons_succ, Bool.false_eq_true, if_false, if_true, wipeN_n, wipeN_c, free_n, free_c, nOwn_n, nOwn_s, nOwn_c, Bool.true_and, true_and, List.length_cons, List.length_nil, Nat.zero_add, Nat.reduceAdd, Nat.reduceLeDiff, sz, i_en, b_en, l_en, t_en, tl_en, p_en, l1_en, t1_en, snoc_en, app_en, isL_l, c_eq, c_ne, c_inL, c_inT, c_ninL, c_ninT, c_eqE, c_neE, c_eqU, c_neU, c_lt, c_gt, c_le, c_ge, dp_int, dp_bool, dp_unit, dp_list, dp_tu, dp_pair, Nat.max_self, tr_b, tr_i, tr_l, tr_t, o_add, o_sub, o_mul, o_div, o_mod, o_shl, o_shr, o_band, o_neg, o_addL, o_addT, mulB1, i01, x_list, x_tup, x_p0, x_p1, s_list, s_tup, r_list, lt_list, lt_tup, ls_list, q_lenL, q_lenT, q_tupL, q_tupT, q_listL, q_listT, q_all, q_any, q_sum, q_max, q_min, q_int, q_abs, g_rng, toI_en, lcW_en, lcM_all, lcM_if, lcM_gd, List.map_id', List.all_map, List.any_map, Bool.not_true, Bool.not_false, List.length_map, ii_and, ii_or, Option.getD_some, List.isEmpty_map, isEmpty_filterB, Function.comp_def, id_eq, bo_sset, ar_sset, e_sset, sset_en, ssetL_en, bo_meth, bo_disp, ar_meth, ar_disp, e_meth, e_disp, vp_nil, vp_cons, vi_enum, vi_enumf, vi_rng3, x_dct, c_inD, c_ninD, s_dct, isL_d, q_lenD, q_listD, d_int, d_tu, d_pair, enum_en, index_en, mOk_l, od_1, od_2, false_implies, Bool.and_true, and_true, implies_true, forall_const, ite_some, s_lst, x_frz, frz_o, frz_h, frz_s, Option.getD_none, Int.one_mul, forW_en, gd_ff, sz_lt, List.append_nil, List.nil_append, Bool.not_not, t0_en, l0_en]
    have hl : (lotsL done).length ≤ 1024 := by
      rw [lotsL_len]
      exact Nat.pow_le_pow_right (by decide) (show done.length ≤ 10 by omega)
    have hs : ∀ l ∈ lotsL done, l.l.length ≤ 10 := fun l h => by
      have := (lotsL_sub done l h).length_le
      omega
    refine ⟨fun l h => szl (by have := hs l h; omega), szl (by omega), ?_⟩
    rw [← lotsL_snoc]
    exact hK _ ⟨_, rfl⟩
  · rintro ρ ⟨x2, rfl⟩
    simp only [wbo_var, ar_var, bo_cst, bo_bin, bo_neg, bo_not, bo_and, bo_or, bo_cmp, bo_chain, bo_ife, bo_tup, bo_lst, bo_dnew, bo_idx, bo_slc, bo_rev, bo_call, bo_prim, bo_isi, bo_lc, bo_rg, sh_rt, sh_gd, sh_bd, ar_cst, ar_bin, ar_neg, ar_not, ar_and, ar_or, ar_cmp, ar_chain, ar_ife, ar_tup, ar_lst, ar_dnew, ar_idx, ar_slc, ar_rev, ar_call, ar_prim, ar_isi, ar_lc, ar_rg, e_var, e_cst, e_bin, e_neg, e_not, e_and, e_or, e_cmp, e_chain, e_ife, e_tup, e_lst, e_dnew, e_idx, e_slc, e_rev, e_call, e_prim, e_isi, e_lc, e_rg, wt_and, wt_or, wt_not, wt_e, vs_nil, vs_cons, vs_star, vb_nil, vb_cons, va_nil, va_cons, vo_no, vo_yes, vc_no, vc_yes, vi_val, vi_valf, vi_rng, vi_zip, vi_zipf, getD_0, getD_s, a_v, a_p, Option.bind_some, x_nil, x_cons, x_ite, exec, koF, parW, sets_n, sets_c, rt_ap, bd_ap, gd_ap, ite_ap, bd_rt, rt_bd, bd_bd, bd_gd, gd_gd, gd_true, bd_ite, ite_rt, ite_gd1, ite_gd2, lift_rt, b_and, b_and2, b_or, b_or2, ite_en, look_z, look_s, lookB_z, lookB_o, lookB_s, lookA_z, lookA_c, lookA_s, lookO_o, lookO_s, List.getElem?_cons_zero, List.getElem?_cons_succ, List.set_cons_zero, List.set_cons_succ, Bool.false_eq_true, if_false, if_true, wipeN_n, wipeN_c, free_n, free_c, nOwn_n, nOwn_s, nOwn_c, Bool.true_and, true_and, List.length_cons, List.length_nil, Nat.zero_add, Nat.reduceAdd, Nat.reduceLeDiff, sz, i_en, b_en, l_en, t_en, tl_en, p_en, l1_en, t1_en, snoc_en, app_en, isL_l, c_eq, c_ne, c_inL, c_inT, c_ninL, c_ninT, c_eqE, c_neE, c_eqU, c_neU, c_lt, c_gt, c_le, c_ge, dp_int, dp_bool, dp_unit, dp_list, dp_tu, dp_pair, Nat.max_self, tr_b, tr_i, tr_l, tr_t, o_add, o_sub, o_mul, o_div, o_mod, o_shl, o_shr, o_band, o_neg, o_addL, o_addT, mulB1, i01, x_list, x_tup, x_p0, x_p1, s_list, s_tup, r_list, lt_list, lt_tup, ls_list, q_lenL, q_lenT, q_tupL, q_tupT, q_listL, q_listT, q_all, q_any, q_sum, q_max, q_min, q_int, q_abs, g_rng, toI_en, lcW_en, lcM_all, lcM_if, lcM_gd, List.map_id', List.all_map, List.any_map, Bool.not_true, Bool.not_false, List.length_map, ii_and, ii_or, Option.getD_some, List.isEmpty_map, isEmpty_filterB, Function.comp_def, id_eq, bo_sset, ar_sset, e_sset, sset_en, ssetL_en, bo_meth, bo_disp, ar_meth, ar_disp, e_meth, e_disp, vp_nil, vp_cons, vi_enum, vi_enumf, vi_rng3, x_dct, c_inD, c_ninD, s_dct, isL_d, q_lenD, q_listD, d_int, d_tu, d_pair, enum_en, index_en, mOk_l, od_1, od_2, false_implies, Bool.and_true, and_true, implies_true, forall_const, ite_some, s_lst, x_frz, frz_o, frz_h, frz_s, Option.getD_none, Int.one_mul, forW_en, gd_ff, sz_lt, List.append_nil, List.nil_append, Bool.not_not, t0_en, l0_en]
    exact q
def cutsL (n : Nat) (ps : List (Int × Int)) : List (Tu Int) := srtL ((lotsL (rg n)).filter fun l => decide (shu n ps l.l = l.l))
theorem s_lawCuts (hn : n ≤ 10) (q : Q (en (cutsL n ps))) : CG (k + 4) 20 [.sh (en (od n ps))] Q := by
  unfold CG; rw [hd20 rfl]
  unfold b20
  have e2 := @e_lawShut k n ps (by omega)
  unfold CG at e2
  simp only [wbo_var, ar_var, bo_cst, bo_bin, bo_neg, bo_not, bo_and, bo_or, bo_cmp, bo_chain, bo_ife, bo_tup, bo_lst, bo_dnew, bo_idx, bo_slc, bo_rev, bo_call, bo_prim, bo_isi, bo_lc, bo_rg, sh_rt, sh_gd, sh_bd, ar_cst, ar_bin, ar_neg, ar_not, ar_and, ar_or, ar_cmp, ar_chain, ar_ife, ar_tup, ar_lst, ar_dnew, ar_idx, ar_slc, ar_rev, ar_call, ar_prim, ar_isi, ar_lc, ar_rg, e_var, e_cst, e_bin, e_neg, e_not, e_and, e_or, e_cmp, e_chain, e_ife, e_tup, e_lst, e_dnew, e_idx, e_slc, e_rev, e_call, e_prim, e_isi, e_lc, e_rg, wt_and, wt_or, wt_not, wt_e, vs_nil, vs_cons, vs_star, vb_nil, vb_cons, va_nil, va_cons, vo_no, vo_yes, vc_no, vc_yes, vi_val, vi_valf, vi_rng, vi_zip, vi_zipf, getD_0, getD_s, a_v, a_p, Option.bind_some, x_nil, x_cons, x_ite, exec, koF, parW, sets_n, sets_c, rt_ap, bd_ap, gd_ap, ite_ap, bd_rt, rt_bd, bd_bd, bd_gd, gd_gd, gd_true, bd_ite, ite_rt, ite_gd1, ite_gd2, lift_rt, b_and, b_and2, b_or, b_or2, ite_en, look_z, look_s, lookB_z, lookB_o, lookB_s, lookA_z, lookA_c, lookA_s, lookO_o, lookO_s, List.getElem?_cons_zero, List.getElem?_cons_succ, List.set_cons_zero, List.set_cons_succ, Bool.false_eq_true, if_false, if_true, wipeN_n, wipeN_c, free_n, free_c, nOwn_n, nOwn_s, nOwn_c, Bool.true_and, true_and, List.length_cons, List.length_nil, Nat.zero_add, Nat.reduceAdd, Nat.reduceLeDiff, sz, i_en, b_en, l_en, t_en, tl_en, p_en, l1_en, t1_en, snoc_en, app_en, isL_l, c_eq, c_ne, c_inL, c_inT, c_ninL, c_ninT, c_eqE, c_neE, c_eqU, c_neU, c_lt, c_gt, c_le, c_ge, dp_int, dp_bool, dp_unit, dp_list, dp_tu, dp_pair, Nat.max_self, tr_b, tr_i, tr_l, tr_t, o_add, o_sub, o_mul, o_div, o_mod, o_shl, o_shr, o_band, o_neg, o_addL, o_addT, mulB1, i01, x_list, x_tup, x_p0, x_p1, s_list, s_tup, r_list, lt_list, lt_tup, ls_list, q_lenL, q_lenT, q_tupL, q_tupT, q_listL, q_listT, q_all, q_any, q_sum, q_max, q_min, q_int, q_abs, g_rng, toI_en, lcW_en, lcM_all, lcM_if, lcM_gd, List.map_id', List.all_map, List.any_map, Bool.not_true, Bool.not_false, List.length_map, ii_and, ii_or, Option.getD_some, List.isEmpty_map, isEmpty_filterB, Function.comp_def, id_eq, bo_sset, ar_sset, e_sset, sset_en, ssetL_en, bo_meth, bo_disp, ar_meth, ar_disp, e_meth, e_disp, vp_nil, vp_cons, vi_enum, vi_enumf, vi_rng3, x_dct, c_inD, c_ninD, s_dct, isL_d, q_lenD, q_listD, d_int, d_tu, d_pair, enum_en, index_en, mOk_l, od_1, od_2, false_implies, Bool.and_true, and_true, implies_true, forall_const, ite_some, s_lst, x_frz, frz_o, frz_h, frz_s, Option.getD_none, Int.one_mul, forW_en, gd_ff, sz_lt, List.append_nil, List.nil_append, Bool.not_not, t0_en, l0_en]
  refine s_lots hn ?_
  simp only [wbo_var, ar_var, bo_cst, bo_bin, bo_neg, bo_not, bo_and, bo_or, bo_cmp, bo_chain, bo_ife, bo_tup, bo_lst, bo_dnew, bo_idx, bo_slc, bo_rev, bo_call, bo_prim, bo_isi, bo_lc, bo_rg, sh_rt, sh_gd, sh_bd, ar_cst, ar_bin, ar_neg, ar_not, ar_and, ar_or, ar_cmp, ar_chain, ar_ife, ar_tup, ar_lst, ar_dnew, ar_idx, ar_slc, ar_rev, ar_call, ar_prim, ar_isi, ar_lc, ar_rg, e_var, e_cst, e_bin, e_neg, e_not, e_and, e_or, e_cmp, e_chain, e_ife, e_tup, e_lst, e_dnew, e_idx, e_slc, e_rev, e_call, e_prim, e_isi, e_lc, e_rg, wt_and, wt_or, wt_not, wt_e, vs_nil, vs_cons, vs_star, vb_nil, vb_cons, va_nil, va_cons, vo_no, vo_yes, vc_no, vc_yes, vi_val, vi_valf, vi_rng, vi_zip, vi_zipf, getD_0, getD_s, a_v, a_p, Option.bind_some, x_nil, x_cons, x_ite, exec, koF, parW, sets_n, sets_c, rt_ap, bd_ap, gd_ap, ite_ap, bd_rt, rt_bd, bd_bd, bd_gd, gd_gd, gd_true, bd_ite, ite_rt, ite_gd1, ite_gd2, lift_rt, b_and, b_and2, b_or, b_or2, ite_en, look_z, look_s, lookB_z, lookB_o, lookB_s, lookA_z, lookA_c, lookA_s, lookO_o, lookO_s, List.getElem?_cons_zero, List.getElem?_cons_succ, List.set_cons_zero, List.set_cons_succ, Bool.false_eq_true, if_false, if_true, wipeN_n, wipeN_c, free_n, free_c, nOwn_n, nOwn_s, nOwn_c, Bool.true_and, true_and, List.length_cons, List.length_nil, Nat.zero_add, Nat.reduceAdd, Nat.reduceLeDiff, sz, i_en, b_en, l_en, t_en, tl_en, p_en, l1_en, t1_en, snoc_en, app_en, isL_l, c_eq, c_ne, c_inL, c_inT, c_ninL, c_ninT, c_eqE, c_neE, c_eqU, c_neU, c_lt, c_gt, c_le, c_ge, dp_int, dp_bool, dp_unit, dp_list, dp_tu, dp_pair, Nat.max_self, tr_b, tr_i, tr_l, tr_t, o_add, o_sub, o_mul, o_div, o_mod, o_shl, o_shr, o_band, o_neg, o_addL, o_addT, mulB1, i01, x_list, x_tup, x_p0, x_p1, s_list, s_tup, r_list, lt_list, lt_tup, ls_list, q_lenL, q_lenT, q_tupL, q_tupT, q_listL, q_listT, q_all, q_any, q_sum, q_max, q_min, q_int, q_abs, g_rng, toI_en, lcW_en, lcM_all, lcM_if, lcM_gd, List.map_id', List.all_map, List.any_map, Bool.not_true, Bool.not_false, List.length_map, ii_and, ii_or, Option.getD_some, List.isEmpty_map, isEmpty_filterB, Function.comp_def, id_eq, bo_sset, ar_sset, e_sset, sset_en, ssetL_en, bo_meth, bo_disp, ar_meth, ar_disp, e_meth, e_disp, vp_nil, vp_cons, vi_enum, vi_enumf, vi_rng3, x_dct, c_inD, c_ninD, s_dct, isL_d, q_lenD, q_listD, d_int, d_tu, d_pair, enum_en, index_en, mOk_l, od_1, od_2, false_implies, Bool.and_true, and_true, implies_true, forall_const, ite_some, s_lst, x_frz, frz_o, frz_h, frz_s, Option.getD_none, Int.one_mul, forW_en, gd_ff, sz_lt, List.append_nil, List.nil_append, Bool.not_not, t0_en, l0_en]
  simp only [e2]
  simp only [wbo_var, ar_var, bo_cst, bo_bin, bo_neg, bo_not, bo_and, bo_or, bo_cmp, bo_chain, bo_ife, bo_tup, bo_lst, bo_dnew, bo_idx, bo_slc, bo_rev, bo_call, bo_prim, bo_isi, bo_lc, bo_rg, sh_rt, sh_gd, sh_bd, ar_cst, ar_bin, ar_neg, ar_not, ar_and, ar_or, ar_cmp, ar_chain, ar_ife, ar_tup, ar_lst, ar_dnew, ar_idx, ar_slc, ar_rev, ar_call, ar_prim, ar_isi, ar_lc, ar_rg, e_var, e_cst, e_bin, e_neg, e_not, e_and, e_or, e_cmp, e_chain, e_ife, e_tup, e_lst, e_dnew, e_idx, e_slc, e_rev, e_call, e_prim, e_isi, e_lc, e_rg, wt_and, wt_or, wt_not, wt_e, vs_nil, vs_cons, vs_star, vb_nil, vb_cons, va_nil, va_cons, vo_no, vo_yes, vc_no, vc_yes, vi_val, vi_valf, vi_rng, vi_zip, vi_zipf, getD_0, getD_s, a_v, a_p, Option.bind_some, x_nil, x_cons, x_ite, exec, koF, parW, sets_n, sets_c, rt_ap, bd_ap, gd_ap, ite_ap, bd_rt, rt_bd, bd_bd, bd_gd, gd_gd, gd_true, bd_ite, ite_rt, ite_gd1, ite_gd2, lift_rt, b_and, b_and2, b_or, b_or2, ite_en, look_z, look_s, lookB_z, lookB_o, lookB_s, lookA_z, lookA_c, lookA_s, lookO_o, lookO_s, List.getElem?_cons_zero, List.getElem?_cons_succ, List.set_cons_zero, List.set_cons_succ, Bool.false_eq_true, if_false, if_true, wipeN_n, wipeN_c, free_n, free_c, nOwn_n, nOwn_s, nOwn_c, Bool.true_and, true_and, List.length_cons, List.length_nil, Nat.zero_add, Nat.reduceAdd, Nat.reduceLeDiff, sz, i_en, b_en, l_en, t_en, tl_en, p_en, l1_en, t1_en, snoc_en, app_en, isL_l, c_eq, c_ne, c_inL, c_inT, c_ninL, c_ninT, c_eqE, c_neE, c_eqU, c_neU, c_lt, c_gt, c_le, c_ge, dp_int, dp_bool, dp_unit, dp_list, dp_tu, dp_pair, Nat.max_self, tr_b, tr_i, tr_l, tr_t, o_add, o_sub, o_mul, o_div, o_mod, o_shl, o_shr, o_band, o_neg, o_addL, o_addT, mulB1, i01, x_list, x_tup, x_p0, x_p1, s_list, s_tup, r_list, lt_list, lt_tup, ls_list, q_lenL, q_lenT, q_tupL, q_tupT, q_listL, q_listT, q_all, q_any, q_sum, q_max, q_min, q_int, q_abs, g_rng, toI_en, lcW_en, lcM_all, lcM_if, lcM_gd, List.map_id', List.all_map, List.any_map, Bool.not_true, Bool.not_false, List.length_map, ii_and, ii_or, Option.getD_some, List.isEmpty_map, isEmpty_filterB, Function.comp_def, id_eq, bo_sset, ar_sset, e_sset, sset_en, ssetL_en, bo_meth, bo_disp, ar_meth, ar_disp, e_meth, e_disp, vp_nil, vp_cons, vi_enum, vi_enumf, vi_rng3, x_dct, c_inD, c_ninD, s_dct, isL_d, q_lenD, q_listD, d_int, d_tu, d_pair, enum_en, index_en, mOk_l, od_1, od_2, false_implies, Bool.and_true, and_true, implies_true, forall_const, ite_some, s_lst, x_frz, frz_o, frz_h, frz_s, Option.getD_none, Int.one_mul, forW_en, gd_ff, sz_lt, List.append_nil, List.nil_append, Bool.not_not, t0_en, l0_en]
  rw [q_sortS _ fun x _ => dep_szd x]
  simp only [wbo_var, ar_var, bo_cst, bo_bin, bo_neg, bo_not, bo_and, bo_or, bo_cmp, bo_chain, bo_ife, bo_tup, bo_lst, bo_dnew, bo_idx, bo_slc, bo_rev, bo_call, bo_prim, bo_isi, bo_lc, bo_rg, sh_rt, sh_gd, sh_bd, ar_cst, ar_bin, ar_neg, ar_not, ar_and, ar_or, ar_cmp, ar_chain, ar_ife, ar_tup, ar_lst, ar_dnew, ar_idx, ar_slc, ar_rev, ar_call, ar_prim, ar_isi, ar_lc, ar_rg, e_var, e_cst, e_bin, e_neg, e_not, e_and, e_or, e_cmp, e_chain, e_ife, e_tup, e_lst, e_dnew, e_idx, e_slc, e_rev, e_call, e_prim, e_isi, e_lc, e_rg, wt_and, wt_or, wt_not, wt_e, vs_nil, vs_cons, vs_star, vb_nil, vb_cons, va_nil, va_cons, vo_no, vo_yes, vc_no, vc_yes, vi_val, vi_valf, vi_rng, vi_zip, vi_zipf, getD_0, getD_s, a_v, a_p, Option.bind_some, x_nil, x_cons, x_ite, exec, koF, parW, sets_n, sets_c, rt_ap, bd_ap, gd_ap, ite_ap, bd_rt, rt_bd, bd_bd, bd_gd, gd_gd, gd_true, bd_ite, ite_rt, ite_gd1, ite_gd2, lift_rt, b_and, b_and2, b_or, b_or2, ite_en, look_z, look_s, lookB_z, lookB_o, lookB_s, lookA_z, lookA_c, lookA_s, lookO_o, lookO_s, List.getElem?_cons_zero, List.getElem?_cons_succ, List.set_cons_zero, List.set_cons_succ, Bool.false_eq_true, if_false, if_true, wipeN_n, wipeN_c, free_n, free_c, nOwn_n, nOwn_s, nOwn_c, Bool.true_and, true_and, List.length_cons, List.length_nil, Nat.zero_add, Nat.reduceAdd, Nat.reduceLeDiff, sz, i_en, b_en, l_en, t_en, tl_en, p_en, l1_en, t1_en, snoc_en, app_en, isL_l, c_eq, c_ne, c_inL, c_inT, c_ninL, c_ninT, c_eqE, c_neE, c_eqU, c_neU, c_lt, c_gt, c_le, c_ge, dp_int, dp_bool, dp_unit, dp_list, dp_tu, dp_pair, Nat.max_self, tr_b, tr_i, tr_l, tr_t, o_add, o_sub, o_mul, o_div, o_mod, o_shl, o_shr, o_band, o_neg, o_addL, o_addT, mulB1, i01, x_list, x_tup, x_p0, x_p1, s_list, s_tup, r_list, lt_list, lt_tup, ls_list, q_lenL, q_lenT, q_tupL, q_tupT, q_listL, q_listT, q_all, q_any, q_sum, q_max, q_min, q_int, q_abs, g_rng, toI_en, lcW_en, lcM_all, lcM_if, lcM_gd, List.map_id', List.all_map, List.any_map, Bool.not_true, Bool.not_false, List.length_map, ii_and, ii_or, Option.getD_some, List.isEmpty_map, isEmpty_filterB, Function.comp_def, id_eq, bo_sset, ar_sset, e_sset, sset_en, ssetL_en, bo_meth, bo_disp, ar_meth, ar_disp, e_meth, e_disp, vp_nil, vp_cons, vi_enum, vi_enumf, vi_rng3, x_dct, c_inD, c_ninD, s_dct, isL_d, q_lenD, q_listD, d_int, d_tu, d_pair, enum_en, index_en, mOk_l, od_1, od_2, false_implies, Bool.and_true, and_true, implies_true, forall_const, ite_some, s_lst, x_frz, frz_o, frz_h, frz_s, Option.getD_none, Int.one_mul, forW_en, gd_ff, sz_lt, List.append_nil, List.nil_append, Bool.not_not, t0_en, l0_en]
  have e : cutsL n ps = List.map Prod.snd ((List.map (fun a : Tu Int => ((a.l.length : Int), a)) (List.filter (fun a => decide (Tu.mk (shu n ps a.l) = a)) (lotsL (rg n)))).mergeSort leS) := by
    unfold cutsL srtL
    congr 2
    refine congrArg (List.map szd) (List.filter_congr fun l _ => ?_)
    obtain ⟨l⟩ := l
    rw [Bool.eq_iff_iff, decide_eq_true_iff, decide_eq_true_iff, Tu.mk.injEq]
  rw [e] at q
  exact q
theorem mem_und {W : List Int} {v : Int} : v ∈ und n ps W ↔ v ∈ rg n ∧ ∀ x ∈ W, leqB ps v x = true := by
  unfold und; rw [List.mem_filter, List.all_eq_true]
theorem mem_abv {W : List Int} {v : Int} : v ∈ abv n ps W ↔ v ∈ rg n ∧ ∀ x ∈ W, leqB ps x v = true := by
  unfold abv; rw [List.mem_filter, List.all_eq_true]
theorem und_congr {W W' : List Int} (h : ∀ x, x ∈ W ↔ x ∈ W') : und n ps W = und n ps W' := by
  unfold und
  refine List.filter_congr fun v _ => ?_
  rw [Bool.eq_iff_iff, List.all_eq_true, List.all_eq_true]
  exact ⟨fun z x hx => z x ((h x).mpr hx), fun z x hx => z x ((h x).mp hx)⟩
theorem und_app (W : List Int) (w : Int) : und n ps (W ++ [w]) = (und n ps W).filter fun v => mb v (und n ps [w]) := by
  unfold und
  rw [List.filter_filter]
  refine List.filter_congr fun v hv => ?_
  rw [Bool.eq_iff_iff, Bool.and_eq_true, mb_iff, List.mem_filter]
  simp only [List.all_append, Bool.and_eq_true]
  exact ⟨fun z => ⟨⟨hv, z.2⟩, z.1⟩, fun z => ⟨z.2, z.1.2⟩⟩
theorem shu_und {W : List Int} (h : ∀ x ∈ W, x ∈ rg n) : shu n ps (und n ps W) = und n ps W := by
  unfold shu
  conv => lhs; unfold und
  conv => rhs; unfold und
  refine List.filter_congr fun v hv => ?_
  rw [Bool.eq_iff_iff, List.all_eq_true, List.all_eq_true]
  constructor
  · intro z x hx
    exact z x (mem_abv.mpr ⟨h x hx, fun y hy => (mem_und.mp hy).2 x hx⟩)
  · intro z x hx
    exact (mem_abv.mp hx).2 v (mem_und.mpr ⟨hv, z⟩)
/-- what the loop over the works keeps -/
structure Cin (n : Nat) (ps : List (Int × Int)) (done : List Int) (ks : List (Tu Int)) : Prop where
  nd : ks.Nodup
  of : ∀ l ∈ ks, ∃ W : List Int, (∀ x ∈ W, x ∈ done) ∧ l.l = und n ps W
  all : ∀ W : List Int, (∀ x ∈ W, x ∈ done) → Tu.mk (und n ps W) ∈ ks
theorem Cin.lots {done : List Int} {ks : List (Tu Int)} (h : Cin n ps done ks) : ∀ l ∈ ks, l ∈ lotsL (rg n) := fun l hl => by
  obtain ⟨W, _, e⟩ := h.of l hl
  have := lotsL_filter (rg n) fun v => W.all fun x => leqB ps v x
  obtain ⟨l⟩ := l
  rw [show l = und n ps W from e]
  exact this
theorem Cin.init : Cin n ps [] [⟨rg n⟩] where
  nd := by simp
  of := fun l hl => ⟨[], by simp, by rw [List.mem_singleton.mp hl]; unfold und; exact (List.filter_eq_self.mpr fun _ _ => rfl).symm⟩
  all := fun W hW => by
    have : W = [] := List.eq_nil_iff_forall_not_mem.mpr fun x hx => nomatch hW x hx
    subst this
    rw [List.mem_singleton]
    unfold und; exact congrArg Tu.mk (List.filter_eq_self.mpr fun _ _ => rfl)
theorem Cin.turn {done : List Int} {ks ks' : List (Tu Int)} {w : Int} (h : Cin n ps done ks) (nd : ks'.Nodup) (h1 : ∀ l ∈ ks', l ∈ ks ∨ ∃ m ∈ ks, l = ⟨m.l.filter fun v => mb v (und n ps [w])⟩) (h2 : ∀ l ∈ ks, l ∈ ks') (h3 : ∀ m ∈ ks, Tu.mk (m.l.filter fun v => mb v (und n ps [w])) ∈ ks') : Cin n ps (done ++ [w]) ks' where
  nd := nd
  of := fun l hl => by
    rcases h1 l hl with hl | ⟨m, hm, rfl⟩
    · obtain ⟨W, hW, e⟩ := h.of l hl
      exact ⟨W, fun x hx => List.mem_append_left _ (hW x hx), e⟩
    · obtain ⟨W, hW, e⟩ := h.of m hm
      refine ⟨W ++ [w], fun x hx => ?_, ?_⟩
      · rcases List.mem_append.mp hx with hx | hx
        · exact List.mem_append_left _ (hW x hx)
        · exact List.mem_append_right _ hx
      · rw [und_app, ← e]
  all := fun W hW => by
    by_cases hw : w ∈ W
    · have := h3 _ (h.all (W.filter fun x => !decide (x = w)) fun x hx => by
        obtain ⟨h4, h5⟩ := List.mem_filter.mp hx
        rcases List.mem_append.mp (hW x h4) with h6 | h6
        · exact h6
        · have : x = w := by simpa using h6
          subst this; simp at h5)
      simp only at this
      rw [← und_app] at this
      rw [und_congr (W' := (W.filter fun x => !decide (x = w)) ++ [w]) fun x => ?_]
      · exact this
      · rw [List.mem_append, List.mem_filter, List.mem_singleton]
        by_cases hx : x = w
        · subst hx; simp [hw]
        · simp [hx]
    · refine h2 _ (h.all W fun x hx => ?_)
      rcases List.mem_append.mp (hW x hx) with h6 | h6
      · exact h6
      · have : x = w := by simpa using h6
        subst this; exact absurd hx hw
theorem Cin.done {ks : List (Tu Int)} (h : Cin n ps (rg n) ks) : srtL ks = cutsL n ps := by
  unfold cutsL
  refine srtL_eq h.nd ((lotsL_nodup _ (rg_nodup n)).sublist List.filter_sublist) fun l => ?_
  rw [List.mem_filter, decide_eq_true_iff]
  constructor
  · intro hl
    refine ⟨h.lots l hl, ?_⟩
    obtain ⟨W, hW, e⟩ := h.of l hl
    rw [e, shu_und hW]
  · rintro ⟨_, e⟩
    have := h.all (abv n ps l.l) fun x hx => (mem_abv.mp hx).1
    obtain ⟨l⟩ := l
    have e : und n ps (abv n ps l) = l := e
    rw [show und n ps (abv n ps (Tu.mk l).l) = l from e] at this
    exact this
theorem s_cuts (hn : n ≤ 10) (q : Q (en (Tu.mk (cutsL n ps)))) : CG (k + 4) 4 [.sh (en (od n ps))] Q := by
  unfold CG; rw [hd4 rfl]
  unfold b4
  have e2 := @e_home k n ps (by omega)
  unfold CG at e2
  simp only [wbo_var, ar_var, bo_cst, bo_bin, bo_neg, bo_not, bo_and, bo_or, bo_cmp, bo_chain, bo_ife, bo_tup, bo_lst, bo_dnew, bo_idx, bo_slc, bo_rev, bo_call, bo_prim, bo_isi, bo_lc, bo_rg, sh_rt, sh_gd, sh_bd, ar_cst, ar_bin, ar_neg, ar_not, ar_and, ar_or, ar_cmp, ar_chain, ar_ife, ar_tup, ar_lst, ar_dnew, ar_idx, ar_slc, ar_rev, ar_call, ar_prim, ar_isi, ar_lc, ar_rg, e_var, e_cst, e_bin, e_neg, e_not, e_and, e_or, e_cmp, e_chain, e_ife, e_tup, e_lst, e_dnew, e_idx, e_slc, e_rev, e_call, e_prim, e_isi, e_lc, e_rg, wt_and, wt_or, wt_not, wt_e, vs_nil, vs_cons, vs_star, vb_nil, vb_cons, va_nil, va_cons, vo_no, vo_yes, vc_no, vc_yes, vi_val, vi_valf, vi_rng, vi_zip, vi_zipf, getD_0, getD_s, a_v, a_p, Option.bind_some, x_nil, x_cons, x_ite, exec, koF, parW, sets_n, sets_c, rt_ap, bd_ap, gd_ap, ite_ap, bd_rt, rt_bd, bd_bd, bd_gd, gd_gd, gd_true, bd_ite, ite_rt, ite_gd1, ite_gd2, lift_rt, b_and, b_and2, b_or, b_or2, ite_en, look_z, look_s, lookB_z, lookB_o, lookB_s, lookA_z, lookA_c, lookA_s, lookO_o, lookO_s, List.getElem?_cons_zero, List.getElem?_cons_succ, List.set_cons_zero, List.set_cons_succ, Bool.false_eq_true, if_false, if_true, wipeN_n, wipeN_c, free_n, free_c, nOwn_n, nOwn_s, nOwn_c, Bool.true_and, true_and, List.length_cons, List.length_nil, Nat.zero_add, Nat.reduceAdd, Nat.reduceLeDiff, sz, i_en, b_en, l_en, t_en, tl_en, p_en, l1_en, t1_en, snoc_en, app_en, isL_l, c_eq, c_ne, c_inL, c_inT, c_ninL, c_ninT, c_eqE, c_neE, c_eqU, c_neU, c_lt, c_gt, c_le, c_ge, dp_int, dp_bool, dp_unit, dp_list, dp_tu, dp_pair, Nat.max_self, tr_b, tr_i, tr_l, tr_t, o_add, o_sub, o_mul, o_div, o_mod, o_shl, o_shr, o_band, o_neg, o_addL, o_addT, mulB1, i01, x_list, x_tup, x_p0, x_p1, s_list, s_tup, r_list, lt_list, lt_tup, ls_list, q_lenL, q_lenT, q_tupL, q_tupT, q_listL, q_listT, q_all, q_any, q_sum, q_max, q_min, q_int, q_abs, g_rng, toI_en, lcW_en, lcM_all, lcM_if, lcM_gd, List.map_id', List.all_map, List.any_map, Bool.not_true, Bool.not_false, List.length_map, ii_and, ii_or, Option.getD_some, List.isEmpty_map, isEmpty_filterB, Function.comp_def, id_eq, bo_sset, ar_sset, e_sset, sset_en, ssetL_en, bo_meth, bo_disp, ar_meth, ar_disp, e_meth, e_disp, vp_nil, vp_cons, vi_enum, vi_enumf, vi_rng3, x_dct, c_inD, c_ninD, s_dct, isL_d, q_lenD, q_listD, d_int, d_tu, d_pair, enum_en, index_en, mOk_l, od_1, od_2, false_implies, Bool.and_true, and_true, implies_true, forall_const, ite_some, s_lst, x_frz, frz_o, frz_h, frz_s, Option.getD_none, Int.one_mul, forW_en, gd_ff, sz_lt, List.append_nil, List.nil_append, Bool.not_not, t0_en, l0_en]
  refine ⟨rng_ok (by omega), rng_ok (by omega), ?_⟩
  rw [rgI_rg]
  refine forL_inv (fun done ρ => ∃ (d : Dct (Tu Int) Bool) (x2 x3 x4 : Option B), ρ = [some (.sh (en (od n ps))), some (.own (en d)), x2, x3, x4, none, none] ∧ nOwn (some x4) = true ∧ Cin n ps done d.keys) (done := []) ⟨⟨[(⟨rg n⟩, true)]⟩, none, none, none, rfl, rfl, Cin.init⟩ ?_ ?_
  · rintro done w r ρ e ⟨d, x2, x3, x4, rfl, h4, hC⟩ K hK
    unfold b4_1
    simp only [wbo_var, ar_var, bo_cst, bo_bin, bo_neg, bo_not, bo_and, bo_or, bo_cmp, bo_chain, bo_ife, bo_tup, bo_lst, bo_dnew, bo_idx, bo_slc, bo_rev, bo_call, bo_prim, bo_isi, bo_lc, bo_rg, sh_rt, sh_gd, sh_bd, ar_cst, ar_bin, ar_neg, ar_not, ar_and, ar_or, ar_cmp, ar_chain, ar_ife, ar_tup, ar_lst, ar_dnew, ar_idx, ar_slc, ar_rev, ar_call, ar_prim, ar_isi, ar_lc, ar_rg, e_var, e_cst, e_bin, e_neg, e_not, e_and, e_or, e_cmp, e_chain, e_ife, e_tup, e_lst, e_dnew, e_idx, e_slc, e_rev, e_call, e_prim, e_isi, e_lc, e_rg, wt_and, wt_or, wt_not, wt_e, vs_nil, vs_cons, vs_star, vb_nil, vb_cons, va_nil, va_cons, vo_no, vo_yes, vc_no, vc_yes, vi_val, vi_valf, vi_rng, vi_zip, vi_zipf, getD_0, getD_s, a_v, a_p, Option.bind_some, x_nil, x_cons, x_ite, exec, koF, parW, sets_n, sets_c, rt_ap, bd_ap, gd_ap, ite_ap, bd_rt, rt_bd, bd_bd, bd_gd, gd_gd, gd_true, bd_ite, ite_rt, ite_gd1, ite_gd2, lift_rt, b_and, b_and2, b_or, b_or2, ite_en, look_z, look_s, lookB_z, lookB_o, lookB_s, lookA_z, lookA_c, lookA_s, lookO_o, lookO_s, List.getElem?_cons_zero, List.getElem?_cons_succ, List.set_cons_zero, List.set_cons_succ, Bool.false_eq_true, if_false, if_true, wipeN_n, wipeN_c, free_n, free_c, nOwn_n, nOwn_s, nOwn_c, Bool.true_and, true_and, List.length_cons, List.length_nil, Nat.zero_add, Nat.reduceAdd, Nat.reduceLeDiff, sz, i_en, b_en, l_en, t_en, tl_en, p_en, l1_en, t1_en, snoc_en, app_en, isL_l, c_eq, c_ne, c_inL, c_inT, c_ninL, c_ninT, c_eqE, c_neE, c_eqU, c_neU, c_lt, c_gt, c_le, c_ge, dp_int, dp_bool, dp_unit, dp_list, dp_tu, dp_pair, Nat.max_self, tr_b, tr_i, tr_l, tr_t, o_add, o_sub, o_mul, o_div, o_mod, o_shl, o_shr, o_band, o_neg, o_addL, o_addT, mulB1, i01, x_list, x_tup, x_p0, x_p1, s_list, s_tup, r_list, lt_list, lt_tup, ls_list, q_lenL, q_lenT, q_tupL, q_tupT, q_listL, q_listT, q_all, q_any, q_sum, q_max, q_min, q_int, q_abs, g_rng, toI_en, lcW_en, lcM_all, lcM_if, lcM_gd, List.map_id', List.all_map, List.any_map, Bool.not_true, Bool.not_false, List.length_map, ii_and, ii_or, Option.getD_some, List.isEmpty_map, isEmpty_filterB, Function.comp_def, id_eq, bo_sset, ar_sset, e_sset, sset_en, ssetL_en, bo_meth, bo_disp, ar_meth, ar_disp, e_meth, e_disp, vp_nil, vp_cons, vi_enum, vi_enumf, vi_rng3, x_dct, c_inD, c_ninD, s_dct, isL_d, q_lenD, q_listD, d_int, d_tu, d_pair, enum_en, index_en, mOk_l, od_1, od_2, false_implies, Bool.and_true, and_true, implies_true, forall_const, ite_some, s_lst, x_frz, frz_o, frz_h, frz_s, Option.getD_none, Int.one_mul, forW_en, gd_ff, sz_lt, List.append_nil, List.nil_append, Bool.not_not, t0_en, l0_en]
    rw [e2]
    simp only [wbo_var, ar_var, bo_cst, bo_bin, bo_neg, bo_not, bo_and, bo_or, bo_cmp, bo_chain, bo_ife, bo_tup, bo_lst, bo_dnew, bo_idx, bo_slc, bo_rev, bo_call, bo_prim, bo_isi, bo_lc, bo_rg, sh_rt, sh_gd, sh_bd, ar_cst, ar_bin, ar_neg, ar_not, ar_and, ar_or, ar_cmp, ar_chain, ar_ife, ar_tup, ar_lst, ar_dnew, ar_idx, ar_slc, ar_rev, ar_call, ar_prim, ar_isi, ar_lc, ar_rg, e_var, e_cst, e_bin, e_neg, e_not, e_and, e_or, e_cmp, e_chain, e_ife, e_tup, e_lst, e_dnew, e_idx, e_slc, e_rev, e_call, e_prim, e_isi, e_lc, e_rg, wt_and, wt_or, wt_not, wt_e, vs_nil, vs_cons, vs_star, vb_nil, vb_cons, va_nil, va_cons, vo_no, vo_yes, vc_no, vc_yes, vi_val, vi_valf, vi_rng, vi_zip, vi_zipf, getD_0, getD_s, a_v, a_p, Option.bind_some, x_nil, x_cons, x_ite, exec, koF, parW, sets_n, sets_c, rt_ap, bd_ap, gd_ap, ite_ap, bd_rt, rt_bd, bd_bd, bd_gd, gd_gd, gd_true, bd_ite, ite_rt, ite_gd1, ite_gd2, lift_rt, b_and, b_and2, b_or, b_or2, ite_en, look_z, look_s, lookB_z, lookB_o, lookB_s, lookA_z, lookA_c, lookA_s, lookO_o, lookO_s, List.getElem?_cons_zero, List.getElem?_cons_succ, List.set_cons_zero, List.set_cons_succ, Bool.false_eq_true, if_false, if_true, wipeN_n, wipeN_c, free_n, free_c, nOwn_n, nOwn_s, nOwn_c, Bool.true_and, true_and, List.length_cons, List.length_nil, Nat.zero_add, Nat.reduceAdd, Nat.reduceLeDiff, sz, i_en, b_en, l_en, t_en, tl_en, p_en, l1_en, t1_en, snoc_en, app_en, isL_l, c_eq, c_ne, c_inL, c_inT, c_ninL, c_ninT, c_eqE, c_neE, c_eqU, c_neU, c_lt, c_gt, c_le, c_ge, dp_int, dp_bool, dp_unit, dp_list, dp_tu, dp_pair, Nat.max_self, tr_b, tr_i, tr_l, tr_t, o_add, o_sub, o_mul, o_div, o_mod, o_shl, o_shr, o_band, o_neg, o_addL, o_addT, mulB1, i01, x_list, x_tup, x_p0, x_p1, s_list, s_tup, r_list, lt_list, lt_tup, ls_list, q_lenL, q_lenT, q_tupL, q_tupT, q_listL, q_listT, q_all, q_any, q_sum, q_max, q_min, q_int, q_abs, g_rng, toI_en, lcW_en, lcM_all, lcM_if, lcM_gd, List.map_id', List.all_map, List.any_map, Bool.not_true, Bool.not_false, List.length_map, ii_and, ii_or, Option.getD_some, List.isEmpty_map, isEmpty_filterB, Function.comp_def, id_eq, bo_sset, ar_sset, e_sset, sset_en, ssetL_en, bo_meth, bo_disp, ar_meth, ar_disp, e_meth, e_disp, vp_nil, vp_cons, vi_enum, vi_enumf, vi_rng3, x_dct, c_inD, c_ninD, s_dct, isL_d, q_lenD, q_listD, d_int, d_tu, d_pair, enum_en, index_en, mOk_l, od_1, od_2, false_implies, Bool.and_true, and_true, implies_true, forall_const, ite_some, s_lst, x_frz, frz_o, frz_h, frz_s, Option.getD_none, Int.one_mul, forW_en, gd_ff, sz_lt, List.append_nil, List.nil_append, Bool.not_not, t0_en, l0_en]
    refine forL_inv (fun dn ρ => ∃ (d' : Dct (Tu Int) Bool) (x4 : Option B), ρ = [some (.sh (en (od n ps))), some (.own (en d')), some (.sh (en w)), some (.sh (en (Tu.mk (und n ps [w])))), x4, none, none] ∧ nOwn (some x4) = true ∧ d'.keys.Nodup ∧ (∀ l ∈ d'.keys, l ∈ d.keys ∨ ∃ m ∈ dn, l = ⟨m.l.filter fun v => mb v (und n ps [w])⟩) ∧ (∀ l ∈ d.keys, l ∈ d'.keys) ∧ ∀ m ∈ dn, Tu.mk (m.l.filter fun v => mb v (und n ps [w])) ∈ d'.keys) (done := []) ⟨d, x4, rfl, h4, hC.nd, fun l hl => .inl hl, fun l hl => hl, by simp⟩ ?_ ?_
    · rintro dn m r' ρ e' ⟨d', x4, rfl, h4, nd, h1, h2, h3⟩ K2 hK2
      unfold b4_0
      simp only [wbo_var, ar_var, bo_cst, bo_bin, bo_neg, bo_not, bo_and, bo_or, bo_cmp, bo_chain, bo_ife, bo_tup, bo_lst, bo_dnew, bo_idx, bo_slc, bo_rev, bo_call, bo_prim, bo_isi, bo_lc, bo_rg, sh_rt, sh_gd, sh_bd, ar_cst, ar_bin, ar_neg, ar_not, ar_and, ar_or, ar_cmp, ar_chain, ar_ife, ar_tup, ar_lst, ar_dnew, ar_idx, ar_slc, ar_rev, ar_call, ar_prim, ar_isi, ar_lc, ar_rg, e_var, e_cst, e_bin, e_neg, e_not, e_and, e_or, e_cmp, e_chain, e_ife, e_tup, e_lst, e_dnew, e_idx, e_slc, e_rev, e_call, e_prim, e_isi, e_lc, e_rg, wt_and, wt_or, wt_not, wt_e, vs_nil, vs_cons, vs_star, vb_nil, vb_cons, va_nil, va_cons, vo_no, vo_yes, vc_no, vc_yes, vi_val, vi_valf, vi_rng, vi_zip, vi_zipf, getD_0, getD_s, a_v, a_p, Option.bind_some, x_nil, x_cons, x_ite, exec, koF, parW, sets_n, sets_c, rt_ap, bd_ap, gd_ap, ite_ap, bd_rt, rt_bd, bd_bd, bd_gd, gd_gd, gd_true, bd_ite, ite_rt, ite_gd1, ite_gd2, lift_rt, b_and, b_and2, b_or, b_or2, ite_en, look_z, look_s, lookB_z, lookB_o, lookB_s, lookA_z, lookA_c, lookA_s, lookO_o, lookO_s, List.getElem?_cons_zero, List.getElem?_cons_succ, List.set_cons_zero, List.set_cons_succ, Bool.false_eq_true, if_false, if_true, wipeN_n, wipeN_c, free_n, free_c, nOwn_n, nOwn_s, nOwn_c, Bool.true_and, true_and, List.length_cons, List.length_nil, Nat.zero_add, Nat.reduceAdd, Nat.reduceLeDiff, sz, i_en, b_en, l_en, t_en, tl_en, p_en, l1_en, t1_en, snoc_en, app_en, isL_l, c_eq, c_ne, c_inL, c_inT, c_ninL, c_ninT, c_eqE, c_neE, c_eqU, c_neU, c_lt, c_gt, c_le, c_ge, dp_int, dp_bool, dp_unit, dp_list, dp_tu, dp_pair, Nat.max_self, tr_b, tr_i, tr_l, tr_t, o_add, o_sub, o_mul, o_div, o_mod, o_shl, o_shr, o_band, o_neg, o_addL, o_addT, mulB1, i01, x_list, x_tup, x_p0, x_p1, s_list, s_tup, r_list, lt_list, lt_tup, ls_list, q_lenL, q_lenT, q_tupL, q_tupT, q_listL, q_listT, q_all, q_any, q_sum, q_max, q_min, q_int, q_abs, g_rng, toI_en, lcW_en, lcM_all, lcM_if, lcM_gd, List.map_id', List.all_map, List.any_map, Bool.not_true, Bool.not_false, List.length_map, ii_and, ii_or, Option.getD_some, List.isEmpty_map, isEmpty_filterB, Function.comp_def, id_eq, bo_sset, ar_sset, e_sset, sset_en, ssetL_en, bo_meth, bo_disp, ar_meth, ar_disp, e_meth, e_disp, vp_nil, vp_cons, vi_enum, vi_enumf, vi_rng3, x_dct, c_inD, c_ninD, s_dct, isL_d, q_lenD, q_listD, d_int, d_tu, d_pair, enum_en, index_en, mOk_l, od_1, od_2, false_implies, Bool.and_true, and_true, implies_true, forall_const, ite_some, s_lst, x_frz, frz_o, frz_h, frz_s, Option.getD_none, Int.one_mul, forW_en, gd_ff, sz_lt, List.append_nil, List.nil_append, Bool.not_not, t0_en, l0_en]
      have hkl : d'.keys.length ≤ 1024 := by
        have := len_of_sub d'.keys (lotsL (rg n)) nd fun l hl => ?_
        · rw [lotsL_len, rg_len] at this
          exact Nat.le_trans this (Nat.pow_le_pow_right (by decide) hn)
        · rcases h1 l hl with hl | ⟨m, hm, rfl⟩
          · exact hC.lots l hl
          · have hmd : m ∈ d.keys := by rw [show d.keys = dn ++ _ :: r' from e']; exact List.mem_append_left _ hm
            obtain ⟨W, _, eW⟩ := hC.of m hmd
            rw [eW, ← und_app]
            exact lotsL_filter (rg n) fun v => (W ++ [w]).all fun x => leqB ps v x
      refine ⟨szl (by unfold Dct.keys at hkl; rw [List.length_map] at hkl; omega), hK2 _ ⟨_, _, rfl, rfl, ?_, ?_, ?_, ?_⟩⟩
      · rw [Dct.keys_put]
        split
        · exact nd
        · rename_i hn
          exact List.nodup_append.mpr ⟨nd, by simp, fun a ha b hb => by
            have : b = _ := List.mem_singleton.mp hb
            subst this
            exact fun e => hn (e ▸ ha)⟩
      · intro l hl
        have : l ∈ d'.keys ∨ l = ⟨m.l.filter fun v => mb v (und n ps [w])⟩ := by
          rw [Dct.keys_put] at hl
          split at hl
          · exact .inl hl
          · rcases List.mem_append.mp hl with hl | hl
            · exact .inl hl
            · exact .inr (List.mem_singleton.mp hl)
        rcases this with hl | rfl
        · rcases h1 l hl with h | ⟨m', hm', e⟩
          · exact .inl h
          · exact .inr ⟨m', List.mem_append_left _ hm', e⟩
        · exact .inr ⟨m, by simp, rfl⟩
      · intro l hl
        rw [Dct.keys_put]
        split
        · exact h2 l hl
        · exact List.mem_append_left _ (h2 l hl)
      · intro m' hm'
        rw [Dct.keys_put]
        rcases List.mem_append.mp hm' with hm' | hm'
        · split
          · exact h3 m' hm'
          · exact List.mem_append_left _ (h3 m' hm')
        · have : m' = m := by simpa using hm'
          subst this
          split
          · assumption
          · simp
    · rintro ρ ⟨d', x4, rfl, h4, nd, h1, h2, h3⟩
      exact hK _ ⟨_, _, _, _, rfl, h4, hC.turn nd h1 h2 h3⟩
  · rintro ρ ⟨d, x2, x3, x4, rfl, h4, hC⟩
    unfold b4_2
    simp only [wbo_var, ar_var, bo_cst, bo_bin, bo_neg, bo_not, bo_and, bo_or, bo_cmp, bo_chain, bo_ife, bo_tup, bo_lst, bo_dnew, bo_idx, bo_slc, bo_rev, bo_call, bo_prim, bo_isi, bo_lc, bo_rg, sh_rt, sh_gd, sh_bd, ar_cst, ar_bin, ar_neg, ar_not, ar_and, ar_or, ar_cmp, ar_chain, ar_ife, ar_tup, ar_lst, ar_dnew, ar_idx, ar_slc, ar_rev, ar_call, ar_prim, ar_isi, ar_lc, ar_rg, e_var, e_cst, e_bin, e_neg, e_not, e_and, e_or, e_cmp, e_chain, e_ife, e_tup, e_lst, e_dnew, e_idx, e_slc, e_rev, e_call, e_prim, e_isi, e_lc, e_rg, wt_and, wt_or, wt_not, wt_e, vs_nil, vs_cons, vs_star, vb_nil, vb_cons, va_nil, va_cons, vo_no, vo_yes, vc_no, vc_yes, vi_val, vi_valf, vi_rng, vi_zip, vi_zipf, getD_0, getD_s, a_v, a_p, Option.bind_some, x_nil, x_cons, x_ite, exec, koF, parW, sets_n, sets_c, rt_ap, bd_ap, gd_ap, ite_ap, bd_rt, rt_bd, bd_bd, bd_gd, gd_gd, gd_true, bd_ite, ite_rt, ite_gd1, ite_gd2, lift_rt, b_and, b_and2, b_or, b_or2, ite_en, look_z, look_s, lookB_z, lookB_o, lookB_s, lookA_z, lookA_c, lookA_s, lookO_o, lookO_s, List.getElem?_cons_zero, List.getElem?_cons_succ, List.set_cons_zero, List.set_cons_succ, Bool.false_eq_true, if_false, if_true, wipeN_n, wipeN_c, free_n, free_c, nOwn_n, nOwn_s, nOwn_c, Bool.true_and, true_and, List.length_cons, List.length_nil, Nat.zero_add, Nat.reduceAdd, Nat.reduceLeDiff, sz, i_en, b_en, l_en, t_en, tl_en, p_en, l1_en, t1_en, snoc_en, app_en, isL_l, c_eq, c_ne, c_inL, c_inT, c_ninL, c_ninT, c_eqE, c_neE, c_eqU, c_neU, c_lt, c_gt, c_le, c_ge, dp_int, dp_bool, dp_unit, dp_list, dp_tu, dp_pair, Nat.max_self, tr_b, tr_i, tr_l, tr_t, o_add, o_sub, o_mul, o_div, o_mod, o_shl, o_shr, o_band, o_neg, o_addL, o_addT, mulB1, i01, x_list, x_tup, x_p0, x_p1, s_list, s_tup, r_list, lt_list, lt_tup, ls_list, q_lenL, q_lenT, q_tupL, q_tupT, q_listL, q_listT, q_all, q_any, q_sum, q_max, q_min, q_int, q_abs, g_rng, toI_en, lcW_en, lcM_all, lcM_if, lcM_gd, List.map_id', List.all_map, List.any_map, Bool.not_true, Bool.not_false, List.length_map, ii_and, ii_or, Option.getD_some, List.isEmpty_map, isEmpty_filterB, Function.comp_def, id_eq, bo_sset, ar_sset, e_sset, sset_en, ssetL_en, bo_meth, bo_disp, ar_meth, ar_disp, e_meth, e_disp, vp_nil, vp_cons, vi_enum, vi_enumf, vi_rng3, x_dct, c_inD, c_ninD, s_dct, isL_d, q_lenD, q_listD, d_int, d_tu, d_pair, enum_en, index_en, mOk_l, od_1, od_2, false_implies, Bool.and_true, and_true, implies_true, forall_const, ite_some, s_lst, x_frz, frz_o, frz_h, frz_s, Option.getD_none, Int.one_mul, forW_en, gd_ff, sz_lt, List.append_nil, List.nil_append, Bool.not_not, t0_en, l0_en]
    rw [bo_lck, e_lckD d rfl]
    simp only [wbo_var, ar_var, bo_cst, bo_bin, bo_neg, bo_not, bo_and, bo_or, bo_cmp, bo_chain, bo_ife, bo_tup, bo_lst, bo_dnew, bo_idx, bo_slc, bo_rev, bo_call, bo_prim, bo_isi, bo_lc, bo_rg, sh_rt, sh_gd, sh_bd, ar_cst, ar_bin, ar_neg, ar_not, ar_and, ar_or, ar_cmp, ar_chain, ar_ife, ar_tup, ar_lst, ar_dnew, ar_idx, ar_slc, ar_rev, ar_call, ar_prim, ar_isi, ar_lc, ar_rg, e_var, e_cst, e_bin, e_neg, e_not, e_and, e_or, e_cmp, e_chain, e_ife, e_tup, e_lst, e_dnew, e_idx, e_slc, e_rev, e_call, e_prim, e_isi, e_lc, e_rg, wt_and, wt_or, wt_not, wt_e, vs_nil, vs_cons, vs_star, vb_nil, vb_cons, va_nil, va_cons, vo_no, vo_yes, vc_no, vc_yes, vi_val, vi_valf, vi_rng, vi_zip, vi_zipf, getD_0, getD_s, a_v, a_p, Option.bind_some, x_nil, x_cons, x_ite, exec, koF, parW, sets_n, sets_c, rt_ap, bd_ap, gd_ap, ite_ap, bd_rt, rt_bd, bd_bd, bd_gd, gd_gd, gd_true, bd_ite, ite_rt, ite_gd1, ite_gd2, lift_rt, b_and, b_and2, b_or, b_or2, ite_en, look_z, look_s, lookB_z, lookB_o, lookB_s, lookA_z, lookA_c, lookA_s, lookO_o, lookO_s, List.getElem?_cons_zero, List.getElem?_cons_succ, List.set_cons_zero, List.set_cons_succ, Bool.false_eq_true, if_false, if_true, wipeN_n, wipeN_c, free_n, free_c, nOwn_n, nOwn_s, nOwn_c, Bool.true_and, true_and, List.length_cons, List.length_nil, Nat.zero_add, Nat.reduceAdd, Nat.reduceLeDiff, sz, i_en, b_en, l_en, t_en, tl_en, p_en, l1_en, t1_en, snoc_en, app_en, isL_l, c_eq, c_ne, c_inL, c_inT, c_ninL, c_ninT, c_eqE, c_neE, c_eqU, c_neU, c_lt, c_gt, c_le, c_ge, dp_int, dp_bool, dp_unit, dp_list, dp_tu, dp_pair, Nat.max_self, tr_b, tr_i, tr_l, tr_t, o_add, o_sub, o_mul, o_div, o_mod, o_shl, o_shr, o_band, o_neg, o_addL, o_addT, mulB1, i01, x_list, x_tup, x_p0, x_p1, s_list, s_tup, r_list, lt_list, lt_tup, ls_list, q_lenL, q_lenT, q_tupL, q_tupT, q_listL, q_listT, q_all, q_any, q_sum, q_max, q_min, q_int, q_abs, g_rng, toI_en, lcW_en, lcM_all, lcM_if, lcM_gd, List.map_id', List.all_map, List.any_map, Bool.not_true, Bool.not_false, List.length_map, ii_and, ii_or, Option.getD_some, List.isEmpty_map, isEmpty_filterB, Function.comp_def, id_eq, bo_sset, ar_sset, e_sset, sset_en, ssetL_en, bo_meth, bo_disp, ar_meth, ar_disp, e_meth, e_disp, vp_nil, vp_cons, vi_enum, vi_enumf, vi_rng3, x_dct, c_inD, c_ninD, s_dct, isL_d, q_lenD, q_listD, d_int, d_tu, d_pair, enum_en, index_en, mOk_l, od_1, od_2, false_implies, Bool.and_true, and_true, implies_true, forall_const, ite_some, s_lst, x_frz, frz_o, frz_h, frz_s, Option.getD_none, Int.one_mul, forW_en, gd_ff, sz_lt, List.append_nil, List.nil_append, Bool.not_not, t0_en, l0_en]
    have hkl : d.keys.length ≤ 1024 := by
      have := len_of_sub d.keys (lotsL (rg n)) hC.nd fun l hl => hC.lots l hl
      rw [lotsL_len, rg_len] at this
      exact Nat.le_trans this (Nat.pow_le_pow_right (by decide) hn)
    refine ⟨h4, ⟨szl (by unfold Dct.keys at hkl; rw [List.length_map] at hkl; omega), h4⟩, ?_⟩
    rw [q_sortS _ fun x _ => dep_szd x]
    simp only [wbo_var, ar_var, bo_cst, bo_bin, bo_neg, bo_not, bo_and, bo_or, bo_cmp, bo_chain, bo_ife, bo_tup, bo_lst, bo_dnew, bo_idx, bo_slc, bo_rev, bo_call, bo_prim, bo_isi, bo_lc, bo_rg, sh_rt, sh_gd, sh_bd, ar_cst, ar_bin, ar_neg, ar_not, ar_and, ar_or, ar_cmp, ar_chain, ar_ife, ar_tup, ar_lst, ar_dnew, ar_idx, ar_slc, ar_rev, ar_call, ar_prim, ar_isi, ar_lc, ar_rg, e_var, e_cst, e_bin, e_neg, e_not, e_and, e_or, e_cmp, e_chain, e_ife, e_tup, e_lst, e_dnew, e_idx, e_slc, e_rev, e_call, e_prim, e_isi, e_lc, e_rg, wt_and, wt_or, wt_not, wt_e, vs_nil, vs_cons, vs_star, vb_nil, vb_cons, va_nil, va_cons, vo_no, vo_yes, vc_no, vc_yes, vi_val, vi_valf, vi_rng, vi_zip, vi_zipf, getD_0, getD_s, a_v, a_p, Option.bind_some, x_nil, x_cons, x_ite, exec, koF, parW, sets_n, sets_c, rt_ap, bd_ap, gd_ap, ite_ap, bd_rt, rt_bd, bd_bd, bd_gd, gd_gd, gd_true, bd_ite, ite_rt, ite_gd1, ite_gd2, lift_rt, b_and, b_and2, b_or, b_or2, ite_en, look_z, look_s, lookB_z, lookB_o, lookB_s, lookA_z, lookA_c, lookA_s, lookO_o, lookO_s, List.getElem?_cons_zero, List.getElem?_cons_succ, List.set_cons_zero, List.set_cons_succ, Bool.false_eq_true, if_false, if_true, wipeN_n, wipeN_c, free_n, free_c, nOwn_n, nOwn_s, nOwn_c, Bool.true_and, true_and, List.length_cons, List.length_nil, Nat.zero_add, Nat.reduceAdd, Nat.reduceLeDiff, sz, i_en, b_en, l_en, t_en, tl_en, p_en, l1_en, t1_en, snoc_en, app_en, isL_l, c_eq, c_ne, c_inL, c_inT, c_ninL, c_ninT, c_eqE, c_neE, c_eqU, c_neU, c_lt, c_gt, c_le, c_ge, dp_int, dp_bool, dp_unit, dp_list, dp_tu, dp_pair, Nat.max_self, tr_b, tr_i, tr_l, tr_t, o_add, o_sub, o_mul, o_div, o_mod, o_shl, o_shr, o_band, o_neg, o_addL, o_addT, mulB1, i01, x_list, x_tup, x_p0, x_p1, s_list, s_tup, r_list, lt_list, lt_tup, ls_list, q_lenL, q_lenT, q_tupL, q_tupT, q_listL, q_listT, q_all, q_any, q_sum, q_max, q_min, q_int, q_abs, g_rng, toI_en, lcW_en, lcM_all, lcM_if, lcM_gd, List.map_id', List.all_map, List.any_map, Bool.not_true, Bool.not_false, List.length_map, ii_and, ii_or, Option.getD_some, List.isEmpty_map, isEmpty_filterB, Function.comp_def, id_eq, bo_sset, ar_sset, e_sset, sset_en, ssetL_en, bo_meth, bo_disp, ar_meth, ar_disp, e_meth, e_disp, vp_nil, vp_cons, vi_enum, vi_enumf, vi_rng3, x_dct, c_inD, c_ninD, s_dct, isL_d, q_lenD, q_listD, d_int, d_tu, d_pair, enum_en, index_en, mOk_l, od_1, od_2, false_implies, Bool.and_true, and_true, implies_true, forall_const, ite_some, s_lst, x_frz, frz_o, frz_h, frz_s, Option.getD_none, Int.one_mul, forW_en, gd_ff, sz_lt, List.append_nil, List.nil_append, Bool.not_not, t0_en, l0_en]
    have e : srtL d.keys = cutsL n ps := hC.done
    rw [← e] at q
    exact q
theorem mem_cuts {l : Tu Int} : l ∈ cutsL n ps ↔ l ∈ lotsL (rg n) ∧ shu n ps l.l = l.l := by
  unfold cutsL
  rw [srtL_mem, List.mem_filter, decide_eq_true_iff]
theorem cuts_nodup : (cutsL n ps).Nodup := srtL_nodup ((lotsL_nodup _ (rg_nodup n)).sublist List.filter_sublist)
theorem und_cut {W : List Int} (h : ∀ x ∈ W, x ∈ rg n) : Tu.mk (und n ps W) ∈ cutsL n ps := by
  rw [mem_cuts]
  exact ⟨lotsL_filter (rg n) fun v => W.all fun x => leqB ps v x, shu_und h⟩
/-- a cut is what stands under a lot -/
theorem cut_und {l : Tu Int} (h : l ∈ cutsL n ps) : l.l = und n ps (abv n ps l.l) := (mem_cuts.mp h).2.symm
theorem cut_meet {a b : Tu Int} (ha : a ∈ cutsL n ps) (hb : b ∈ cutsL n ps) : Tu.mk (a.l.filter fun x => mb x b.l) ∈ cutsL n ps := by
  have e : a.l.filter (fun x => mb x b.l) = und n ps (abv n ps a.l ++ abv n ps b.l) := by
    conv => lhs; rw [cut_und ha]
    have hb' := cut_und hb
    generalize hB : abv n ps b.l = B at hb'
    rw [hb']
    unfold und
    rw [List.filter_filter]
    refine List.filter_congr fun v hv => ?_
    rw [Bool.eq_iff_iff, Bool.and_eq_true, mb_iff, List.mem_filter]
    simp only [List.all_append, Bool.and_eq_true]
    exact ⟨fun z => ⟨z.2, z.1.2⟩, fun z => ⟨⟨hv, z.2⟩, z.1⟩⟩
  rw [e]
  exact und_cut fun x hx => (List.mem_append.mp hx).elim (fun h => (mem_abv.mp h).1) fun h => (mem_abv.mp h).1
theorem shu_cut {W : List Int} : Tu.mk (shu n ps W) ∈ cutsL n ps := und_cut fun x hx => (mem_abv.mp hx).1
theorem cuts_len (ha : ∀ a b, (a, b) ∈ ps → (b, a) ∉ ps) : n ≤ (cutsL n ps).length := by
  have nd : ((rg n).map fun w => Tu.mk (und n ps [w])).Nodup := by
    rw [List.Nodup, List.pairwise_map]
    refine (List.Pairwise.and_mem.mp (rg_nodup n)).imp fun {a b} h e => ?_
    obtain ⟨ha', hb', hab⟩ := h
    have e := Tu.mk.inj e
    have h1 : a ∈ und n ps [b] := by
      rw [← e, mem_und]
      exact ⟨ha', fun x hx => by rw [List.mem_singleton.mp hx]; unfold leqB; simp⟩
    have h2 : b ∈ und n ps [a] := by
      rw [e, mem_und]
      exact ⟨hb', fun x hx => by rw [List.mem_singleton.mp hx]; unfold leqB; simp⟩
    have h1 := (mem_und.mp h1).2 b (by simp)
    have h2 := (mem_und.mp h2).2 a (by simp)
    unfold leqB at h1 h2
    rw [Bool.or_eq_true, decide_eq_true_iff, mb_iff] at h1 h2
    rcases h1 with h1 | h1
    · exact hab h1
    · rcases h2 with h2 | h2
      · exact hab h2.symm
      · exact ha a b h1 h2
  have := len_of_sub _ (cutsL n ps) nd fun l hl => by
    obtain ⟨w, hw, rfl⟩ := List.mem_map.mp hl
    exact und_cut fun x hx => by rw [List.mem_singleton.mp hx]; exact hw
  rw [List.length_map, rg_len] at this
  exact this
/-- what joins: the union in one order -/
theorem sortU_eq {a b : List Int} (ha : ∀ x ∈ a, x ∈ rg n) (hb : ∀ x ∈ b, x ∈ rg n) : sortU (a ++ b) = (rg n).filter fun x => mb x a || mb x b := by
  have s1 := sortU_srt (a ++ b)
  have s2 : ((rg n).filter fun x => mb x a || mb x b).Pairwise (· < ·) := (rg_srt n).filter _
  have n1 : (sortU (a ++ b)).Nodup := s1.imp fun h e => by omega
  have n2 : ((rg n).filter fun x => mb x a || mb x b).Nodup := s2.imp fun h e => by omega
  refine List.Perm.eq_of_pairwise (le := fun x y : Int => x < y) (fun x y _ _ h1 h2 => by omega) s1 s2 ((List.perm_ext_iff_of_nodup n1 n2).mpr fun x => ?_)
  rw [sortU_mem, List.mem_append, List.mem_filter, Bool.or_eq_true, mb_iff, mb_iff]
  exact ⟨fun h => ⟨h.elim (ha x) (hb x), h⟩, fun h => h.2⟩
end
end PD
set_option maxHeartbeats 4000000
/-! K59h: lots that stand in a lattice (plain). -/
namespace PD
open PySem L2
/-- all of a stand in b -/
def subB (a b : Tu Int) : Bool := a.l.all fun x => mb x b.l
theorem subB_iff {a b : Tu Int} : subB a b = true ↔ ∀ x ∈ a.l, x ∈ b.l := by
  unfold subB; rw [List.all_eq_true]; simp only [mb_iff]
theorem subB_refl (a : Tu Int) : subB a a = true := subB_iff.mpr fun _ h => h
theorem subB_trans {a b c : Tu Int} (h1 : subB a b = true) (h2 : subB b c = true) : subB a c = true := subB_iff.mpr fun x h => subB_iff.mp h2 x (subB_iff.mp h1 x h)
theorem subB_anti {n : Nat} {a b : Tu Int} (ha : a.l.Sublist (rg n)) (hb : b.l.Sublist (rg n)) (h1 : subB a b = true) (h2 : subB b a = true) : a = b := by
  have s1 := (rg_srt n).sublist ha
  have s2 := (rg_srt n).sublist hb
  have n1 : a.l.Nodup := s1.imp fun h e => by omega
  have n2 : b.l.Nodup := s2.imp fun h e => by omega
  have := List.Perm.eq_of_pairwise (le := fun x y : Int => x < y) (fun x y _ _ h1 h2 => by omega) s1 s2 ((List.perm_ext_iff_of_nodup n1 n2).mpr fun x => ⟨subB_iff.mp h1 x, subB_iff.mp h2 x⟩)
  obtain ⟨a⟩ := a
  obtain ⟨b⟩ := b
  exact congrArg Tu.mk this
/-- S, each called by nu, stands as the order (m, L) -/
structure Lat (n : Nat) (S : List (Tu Int)) (m : Nat) (L : List (Int × Int)) (nu : Tu Int → Int) : Prop where
  nd : S.Nodup
  sub : ∀ s ∈ S, s.l.Sublist (rg n)
  len : m = S.length
  inr : ∀ p ∈ L, InR m p
  at_ : ∀ s ∈ S, nu s ∈ rg m
  all : ∀ x ∈ rg m, ∃ s ∈ S, x = nu s
  le : ∀ s ∈ S, ∀ t ∈ S, leqB L (nu s) (nu t) = subB s t
def joinO (m : Nat) (L : List (Int × Int)) (l : List Int) : Option Int := ((abv m L l).filter fun v => (abv m L l).all fun x => leqB L v x).head?
def meetO (m : Nat) (L : List (Int × Int)) (l : List Int) : Option Int := ((und m L l).filter fun v => (und m L l).all fun x => leqB L x v).head?
theorem head_only {xs : List Int} {v : Int} (h1 : v ∈ xs) (h2 : ∀ x ∈ xs, x = v) : xs.head? = some v := by
  cases xs with
  | nil => simp at h1
  | cons x r => rw [List.head?_cons, h2 x (List.mem_cons_self ..)]
section
variable {n m : Nat} {S : List (Tu Int)} {L ps : List (Int × Int)} {nu : Tu Int → Int}
theorem Lat.inj (h : Lat n S m L nu) {s t : Tu Int} (hs : s ∈ S) (ht : t ∈ S) (e : nu s = nu t) : s = t := by
  refine subB_anti (h.sub s hs) (h.sub t ht) ?_ ?_
  · rw [← h.le s hs t ht, e]; unfold leqB; simp
  · rw [← h.le t ht s hs, e]; unfold leqB; simp
theorem Lat.join (h : Lat n S m L nu) {s : Tu Int} (hs : s ∈ S) {l : List Int} (h1 : ∀ y ∈ l, leqB L y (nu s) = true) (h2 : ∀ t ∈ S, (∀ y ∈ l, leqB L y (nu t) = true) → subB s t = true) : joinO m L l = some (nu s) := by
  have ha : nu s ∈ abv m L l := mem_abv.mpr ⟨h.at_ s hs, h1⟩
  refine head_only (List.mem_filter.mpr ⟨ha, List.all_eq_true.mpr fun x hx => ?_⟩) fun x hx => ?_
  · obtain ⟨hx1, hx2⟩ := mem_abv.mp hx
    obtain ⟨t, ht, rfl⟩ := h.all x hx1
    rw [h.le s hs t ht]
    exact h2 t ht hx2
  · obtain ⟨hx, hl⟩ := List.mem_filter.mp hx
    obtain ⟨hx1, hx2⟩ := mem_abv.mp hx
    obtain ⟨t, ht, rfl⟩ := h.all x hx1
    have a1 := List.all_eq_true.mp hl _ ha
    rw [h.le t ht s hs] at a1
    rw [subB_anti (h.sub t ht) (h.sub s hs) a1 (h2 t ht hx2)]
theorem Lat.meet (h : Lat n S m L nu) {s : Tu Int} (hs : s ∈ S) {l : List Int} (h1 : ∀ y ∈ l, leqB L (nu s) y = true) (h2 : ∀ t ∈ S, (∀ y ∈ l, leqB L (nu t) y = true) → subB t s = true) : meetO m L l = some (nu s) := by
  have ha : nu s ∈ und m L l := mem_und.mpr ⟨h.at_ s hs, h1⟩
  refine head_only (List.mem_filter.mpr ⟨ha, List.all_eq_true.mpr fun x hx => ?_⟩) fun x hx => ?_
  · obtain ⟨hx1, hx2⟩ := mem_und.mp hx
    obtain ⟨t, ht, rfl⟩ := h.all x hx1
    rw [h.le t ht s hs]
    exact h2 t ht hx2
  · obtain ⟨hx, hl⟩ := List.mem_filter.mp hx
    obtain ⟨hx1, hx2⟩ := mem_und.mp hx
    obtain ⟨t, ht, rfl⟩ := h.all x hx1
    have a1 := List.all_eq_true.mp hl _ ha
    rw [h.le s hs t ht] at a1
    rw [subB_anti (h.sub t ht) (h.sub s hs) (h2 t ht hx2) a1]
/-! the pairs of lots, one within another -/
theorem enum_mem {α : Type} {xs : List α} {p : Int × α} : p ∈ enumT xs ↔ ∃ i : Nat, xs[i]? = some p.2 ∧ p.1 = i := by
  unfold enumT
  rw [List.mem_map]
  constructor
  · rintro ⟨⟨a, i⟩, h, rfl⟩
    exact ⟨i, List.mem_zipIdx_iff_getElem?.mp h, rfl⟩
  · rintro ⟨i, h, e⟩
    exact ⟨(p.2, i), List.mem_zipIdx_iff_getElem?.mpr h, Prod.ext e.symm rfl⟩
def rowW (some : List (Tu Int)) (i : Int) (one : Tu Int) : List (Int × Int) := ((enumT some).filter fun p => !decide (i = p.1) && subB one p.2).map fun p => (i, p.1)
def wthL (some : List (Tu Int)) : List (Int × Int) := (enumT some).foldl (fun f p => f ++ rowW some p.1 p.2) []
theorem fold_mem {α β : Type} {f : α → List β} {x : β} : ∀ {as : List α} {s : List β}, x ∈ as.foldl (fun s a => s ++ f a) s ↔ x ∈ s ∨ ∃ a ∈ as, x ∈ f a
  | [], s => by simp
  | a :: as, s => by
    rw [List.foldl_cons, fold_mem, List.mem_append]
    simp only [List.mem_cons, exists_eq_or_imp, or_assoc]
theorem wth_mem {some : List (Tu Int)} {p : Int × Int} : p ∈ wthL some ↔ ∃ (i j : Nat) (a b : Tu Int), some[i]? = Option.some a ∧ some[j]? = Option.some b ∧ i ≠ j ∧ subB a b = true ∧ p = ((i : Int), (j : Int)) := by
  unfold wthL
  rw [fold_mem]
  simp only [List.not_mem_nil, false_or]
  constructor
  · rintro ⟨⟨x, a⟩, h1, h2⟩
    obtain ⟨i, hi, e⟩ := enum_mem.mp h1
    simp only at hi e
    subst e
    unfold rowW at h2
    obtain ⟨⟨y, b⟩, h3, rfl⟩ := List.mem_map.mp h2
    obtain ⟨h3, h4⟩ := List.mem_filter.mp h3
    obtain ⟨j, hj, e⟩ := enum_mem.mp h3
    simp only at hj e
    subst e
    rw [Bool.and_eq_true, Bool.not_eq_true', decide_eq_false_iff_not] at h4
    exact ⟨i, j, a, b, hi, hj, fun e => h4.1 (by simp [e]), h4.2, rfl⟩
  · rintro ⟨i, j, a, b, hi, hj, hij, hs, rfl⟩
    refine ⟨((i : Int), a), enum_mem.mpr ⟨i, hi, rfl⟩, ?_⟩
    unfold rowW
    refine List.mem_map.mpr ⟨((j : Int), b), List.mem_filter.mpr ⟨enum_mem.mpr ⟨j, hj, rfl⟩, ?_⟩, rfl⟩
    rw [Bool.and_eq_true, Bool.not_eq_true', decide_eq_false_iff_not]
    exact ⟨fun e => hij (by simp only at e; omega), hs⟩
theorem rowW_len (some : List (Tu Int)) (i : Int) (one : Tu Int) : (rowW some i one).length ≤ some.length := by
  unfold rowW
  rw [List.length_map]
  refine Nat.le_trans (List.length_filter_le _ _) ?_
  unfold enumT; simp
/-- called by their places, called otherwise by names -/
theorem lat_of {some : List (Tu Int)} {names : List Int} (nd : some.Nodup) (sub : ∀ s ∈ some, s.l.Sublist (rg n)) (hp : names.Perm (rg some.length)) (L : List (Int × Int)) (hL : ∀ p, p ∈ L ↔ ∃ q ∈ wthL some, p = (pix names q.1, pix names q.2)) : Lat n some some.length L fun s => pix names (some.idxOf s : Int) := by
  have nl : names.length = some.length := by rw [hp.length_eq, rg_len]
  have nn : names.Nodup := hp.nodup_iff.mpr (rg_nodup _)
  have pk : ∀ {i : Nat}, i < some.length → ∃ h : i < names.length, pix names (i : Int) = names[i] := fun {i} hi => ⟨by omega, pix_of (List.getElem?_eq_getElem (by omega))⟩
  have inj : ∀ {i j : Nat}, i < some.length → j < some.length → pix names (i : Int) = pix names (j : Int) → i = j := fun {i j} hi hj e => by
    obtain ⟨h1, e1⟩ := pk hi
    obtain ⟨h2, e2⟩ := pk hj
    rw [e1, e2] at e
    exact (List.getElem_inj nn).mp e
  have inR : ∀ {i : Nat}, i < some.length → pix names (i : Int) ∈ rg some.length := fun {i} hi => by
    obtain ⟨h1, e1⟩ := pk hi
    rw [e1]
    exact hp.mem_iff.mp (List.getElem_mem _)
  have ix : ∀ {s : Tu Int}, s ∈ some → some.idxOf s < some.length ∧ some[some.idxOf s]? = Option.some s := fun {s} hs => by
    have h := List.idxOf_lt_length_iff.mpr hs
    exact ⟨h, by rw [List.getElem?_eq_getElem h, List.getElem_idxOf h]⟩
  have lt : ∀ {i : Nat} {a : Tu Int}, some[i]? = Option.some a → i < some.length := fun h => (List.getElem?_eq_some_iff.mp h).1
  refine ⟨nd, sub, rfl, fun p h => ?_, fun s hs => inR (ix hs).1, fun x hx => ?_, fun s hs t ht => ?_⟩
  · obtain ⟨q, hq, rfl⟩ := (hL p).mp h
    obtain ⟨i, j, a, b, hi, hj, _, _, rfl⟩ := wth_mem.mp hq
    have h1 := mem_rg.mp (inR (lt hi))
    have h2 := mem_rg.mp (inR (lt hj))
    exact ⟨h1.1, h1.2, h2.1, h2.2⟩
  · obtain ⟨i, hi, rfl⟩ := List.getElem_of_mem (hp.mem_iff.mpr hx)
    have hi2 : i < some.length := by omega
    refine ⟨some[i], List.getElem_mem _, ?_⟩
    have e : some.idxOf some[i] = i := by
      have h := ix (List.getElem_mem hi2)
      have h2 := List.getElem_idxOf h.1
      exact (List.getElem_inj nd).mp h2
    rw [e]
    exact (pk hi2).2.symm
  · rw [Bool.eq_iff_iff]
    unfold leqB
    rw [Bool.or_eq_true, decide_eq_true_iff, mb_iff, hL]
    constructor
    · rintro (e | ⟨q, hq, e⟩)
      · have := inj (ix hs).1 (ix ht).1 e
        have e1 := (ix hs).2
        rw [this, (ix ht).2] at e1
        rw [Option.some.inj e1]
        exact subB_refl _
      · obtain ⟨i, j, a, b, hi, hj, _, hab, rfl⟩ := wth_mem.mp hq
        have e := Prod.mk.inj e
        have e1 := inj (ix hs).1 (lt hi) e.1
        have e2 := inj (ix ht).1 (lt hj) e.2
        have f1 := (ix hs).2
        have f2 := (ix ht).2
        rw [e1, hi] at f1
        rw [e2, hj] at f2
        rw [← Option.some.inj f1, ← Option.some.inj f2]
        exact hab
    · intro h
      by_cases e : s = t
      · subst e; exact .inl rfl
      · refine .inr ⟨_, wth_mem.mpr ⟨_, _, s, t, (ix hs).2, (ix ht).2, fun z => e ?_, h, rfl⟩, rfl⟩
        have e1 := (ix hs).2
        rw [z, (ix ht).2] at e1
        exact (Option.some.inj e1).symm
end
end PD
set_option maxHeartbeats 4000000
/-! K59i: lattices: the program's and the law's. -/
namespace PD
open PySem L2
section
variable {k n m : Nat} {ps L : List (Int × Int)} {Q : D → Prop}
theorem pick_head {xs : List Int} {p : Int → Bool} {Q : D → Prop} : (if xs.any p = true then IxOk (xs.filter p).length 0 ∧ Q (en (pix (xs.filter p) 0)) else Q .none) = Q (en (xs.filter p).head?) := by
  have h : xs.any p = !(xs.filter p).isEmpty := by rw [isEmpty_filterB]; simp
  rw [h]
  cases xs.filter p with
  | nil => rfl
  | cons x r => exact propext ⟨fun z => z.2, fun z => ⟨⟨by simp only [List.length_cons]; omega, by simp only [List.length_cons]; omega⟩, z⟩⟩
theorem e_join (hn : n ≤ 1000) (l : List Int) : CG (k + 3) 7 [.sh (en (od n ps)), .sh (en (Tu.mk l))] = rt (en (joinO n ps l)) := by
  unfold CG; rw [hd7 rfl rfl]
  unfold b7
  funext Q
  have e := @e_above k n ps hn
  have e2 := @e_nb (k + 1) n ps
  unfold CG at e e2
  simp only [wbo_var, ar_var, bo_cst, bo_bin, bo_neg, bo_not, bo_and, bo_or, bo_cmp, bo_chain, bo_ife, bo_tup, bo_lst, bo_dnew, bo_idx, bo_slc, bo_rev, bo_call, bo_prim, bo_isi, bo_lc, bo_rg, sh_rt, sh_gd, sh_bd, ar_cst, ar_bin, ar_neg, ar_not, ar_and, ar_or, ar_cmp, ar_chain, ar_ife, ar_tup, ar_lst, ar_dnew, ar_idx, ar_slc, ar_rev, ar_call, ar_prim, ar_isi, ar_lc, ar_rg, e_var, e_cst, e_bin, e_neg, e_not, e_and, e_or, e_cmp, e_chain, e_ife, e_tup, e_lst, e_dnew, e_idx, e_slc, e_rev, e_call, e_prim, e_isi, e_lc, e_rg, wt_and, wt_or, wt_not, wt_e, vs_nil, vs_cons, vs_star, vb_nil, vb_cons, va_nil, va_cons, vo_no, vo_yes, vc_no, vc_yes, vi_val, vi_valf, vi_rng, vi_zip, vi_zipf, getD_0, getD_s, a_v, a_p, Option.bind_some, x_nil, x_cons, x_ite, exec, koF, parW, sets_n, sets_c, rt_ap, bd_ap, gd_ap, ite_ap, bd_rt, rt_bd, bd_bd, bd_gd, gd_gd, gd_true, bd_ite, ite_rt, ite_gd1, ite_gd2, lift_rt, b_and, b_and2, b_or, b_or2, ite_en, look_z, look_s, lookB_z, lookB_o, lookB_s, lookA_z, lookA_c, lookA_s, lookO_o, lookO_s, List.getElem?_cons_zero, List.getElem?_cons_succ, List.set_cons_zero, List.set_cons_succ, Bool.false_eq_true, if_false, if_true, wipeN_n, wipeN_c, free_n, free_c, nOwn_n, nOwn_s, nOwn_c, Bool.true_and, true_and, List.length_cons, List.length_nil, Nat.zero_add, Nat.reduceAdd, Nat.reduceLeDiff, sz, i_en, b_en, l_en, t_en, tl_en, p_en, l1_en, t1_en, snoc_en, app_en, isL_l, c_eq, c_ne, c_inL, c_inT, c_ninL, c_ninT, c_eqE, c_neE, c_eqU, c_neU, c_lt, c_gt, c_le, c_ge, dp_int, dp_bool, dp_unit, dp_list, dp_tu, dp_pair, Nat.max_self, tr_b, tr_i, tr_l, tr_t, o_add, o_sub, o_mul, o_div, o_mod, o_shl, o_shr, o_band, o_neg, o_addL, o_addT, mulB1, i01, x_list, x_tup, x_p0, x_p1, s_list, s_tup, r_list, lt_list, lt_tup, ls_list, q_lenL, q_lenT, q_tupL, q_tupT, q_listL, q_listT, q_all, q_any, q_sum, q_max, q_min, q_int, q_abs, g_rng, toI_en, lcW_en, lcM_all, lcM_if, lcM_gd, List.map_id', List.all_map, List.any_map, Bool.not_true, Bool.not_false, List.length_map, ii_and, ii_or, Option.getD_some, List.isEmpty_map, isEmpty_filterB, Function.comp_def, id_eq, bo_sset, ar_sset, e_sset, sset_en, ssetL_en, bo_meth, bo_disp, ar_meth, ar_disp, e_meth, e_disp, vp_nil, vp_cons, vi_enum, vi_enumf, vi_rng3, x_dct, c_inD, c_ninD, s_dct, isL_d, q_lenD, q_listD, d_int, d_tu, d_pair, enum_en, index_en, mOk_l, od_1, od_2, false_implies, Bool.and_true, and_true, implies_true, forall_const, ite_some, s_lst, x_frz, frz_o, frz_h, frz_s, Option.getD_none, Int.one_mul, forW_en, gd_ff, sz_lt, List.append_nil, List.nil_append, Bool.not_not, t0_en, l0_en]
  rw [e]
  simp only [wbo_var, ar_var, bo_cst, bo_bin, bo_neg, bo_not, bo_and, bo_or, bo_cmp, bo_chain, bo_ife, bo_tup, bo_lst, bo_dnew, bo_idx, bo_slc, bo_rev, bo_call, bo_prim, bo_isi, bo_lc, bo_rg, sh_rt, sh_gd, sh_bd, ar_cst, ar_bin, ar_neg, ar_not, ar_and, ar_or, ar_cmp, ar_chain, ar_ife, ar_tup, ar_lst, ar_dnew, ar_idx, ar_slc, ar_rev, ar_call, ar_prim, ar_isi, ar_lc, ar_rg, e_var, e_cst, e_bin, e_neg, e_not, e_and, e_or, e_cmp, e_chain, e_ife, e_tup, e_lst, e_dnew, e_idx, e_slc, e_rev, e_call, e_prim, e_isi, e_lc, e_rg, wt_and, wt_or, wt_not, wt_e, vs_nil, vs_cons, vs_star, vb_nil, vb_cons, va_nil, va_cons, vo_no, vo_yes, vc_no, vc_yes, vi_val, vi_valf, vi_rng, vi_zip, vi_zipf, getD_0, getD_s, a_v, a_p, Option.bind_some, x_nil, x_cons, x_ite, exec, koF, parW, sets_n, sets_c, rt_ap, bd_ap, gd_ap, ite_ap, bd_rt, rt_bd, bd_bd, bd_gd, gd_gd, gd_true, bd_ite, ite_rt, ite_gd1, ite_gd2, lift_rt, b_and, b_and2, b_or, b_or2, ite_en, look_z, look_s, lookB_z, lookB_o, lookB_s, lookA_z, lookA_c, lookA_s, lookO_o, lookO_s, List.getElem?_cons_zero, List.getElem?_cons_succ, List.set_cons_zero, List.set_cons_succ, Bool.false_eq_true, if_false, if_true, wipeN_n, wipeN_c, free_n, free_c, nOwn_n, nOwn_s, nOwn_c, Bool.true_and, true_and, List.length_cons, List.length_nil, Nat.zero_add, Nat.reduceAdd, Nat.reduceLeDiff, sz, i_en, b_en, l_en, t_en, tl_en, p_en, l1_en, t1_en, snoc_en, app_en, isL_l, c_eq, c_ne, c_inL, c_inT, c_ninL, c_ninT, c_eqE, c_neE, c_eqU, c_neU, c_lt, c_gt, c_le, c_ge, dp_int, dp_bool, dp_unit, dp_list, dp_tu, dp_pair, Nat.max_self, tr_b, tr_i, tr_l, tr_t, o_add, o_sub, o_mul, o_div, o_mod, o_shl, o_shr, o_band, o_neg, o_addL, o_addT, mulB1, i01, x_list, x_tup, x_p0, x_p1, s_list, s_tup, r_list, lt_list, lt_tup, ls_list, q_lenL, q_lenT, q_tupL, q_tupT, q_listL, q_listT, q_all, q_any, q_sum, q_max, q_min, q_int, q_abs, g_rng, toI_en, lcW_en, lcM_all, lcM_if, lcM_gd, List.map_id', List.all_map, List.any_map, Bool.not_true, Bool.not_false, List.length_map, ii_and, ii_or, Option.getD_some, List.isEmpty_map, isEmpty_filterB, Function.comp_def, id_eq, bo_sset, ar_sset, e_sset, sset_en, ssetL_en, bo_meth, bo_disp, ar_meth, ar_disp, e_meth, e_disp, vp_nil, vp_cons, vi_enum, vi_enumf, vi_rng3, x_dct, c_inD, c_ninD, s_dct, isL_d, q_lenD, q_listD, d_int, d_tu, d_pair, enum_en, index_en, mOk_l, od_1, od_2, false_implies, Bool.and_true, and_true, implies_true, forall_const, ite_some, s_lst, x_frz, frz_o, frz_h, frz_s, Option.getD_none, Int.one_mul, forW_en, gd_ff, sz_lt, List.append_nil, List.nil_append, Bool.not_not, t0_en, l0_en]
  simp only [e2]
  simp only [wbo_var, ar_var, bo_cst, bo_bin, bo_neg, bo_not, bo_and, bo_or, bo_cmp, bo_chain, bo_ife, bo_tup, bo_lst, bo_dnew, bo_idx, bo_slc, bo_rev, bo_call, bo_prim, bo_isi, bo_lc, bo_rg, sh_rt, sh_gd, sh_bd, ar_cst, ar_bin, ar_neg, ar_not, ar_and, ar_or, ar_cmp, ar_chain, ar_ife, ar_tup, ar_lst, ar_dnew, ar_idx, ar_slc, ar_rev, ar_call, ar_prim, ar_isi, ar_lc, ar_rg, e_var, e_cst, e_bin, e_neg, e_not, e_and, e_or, e_cmp, e_chain, e_ife, e_tup, e_lst, e_dnew, e_idx, e_slc, e_rev, e_call, e_prim, e_isi, e_lc, e_rg, wt_and, wt_or, wt_not, wt_e, vs_nil, vs_cons, vs_star, vb_nil, vb_cons, va_nil, va_cons, vo_no, vo_yes, vc_no, vc_yes, vi_val, vi_valf, vi_rng, vi_zip, vi_zipf, getD_0, getD_s, a_v, a_p, Option.bind_some, x_nil, x_cons, x_ite, exec, koF, parW, sets_n, sets_c, rt_ap, bd_ap, gd_ap, ite_ap, bd_rt, rt_bd, bd_bd, bd_gd, gd_gd, gd_true, bd_ite, ite_rt, ite_gd1, ite_gd2, lift_rt, b_and, b_and2, b_or, b_or2, ite_en, look_z, look_s, lookB_z, lookB_o, lookB_s, lookA_z, lookA_c, lookA_s, lookO_o, lookO_s, List.getElem?_cons_zero, List.getElem?_cons_succ, List.set_cons_zero, List.set_cons_succ, Bool.false_eq_true, if_false, if_true, wipeN_n, wipeN_c, free_n, free_c, nOwn_n, nOwn_s, nOwn_c, Bool.true_and, true_and, List.length_cons, List.length_nil, Nat.zero_add, Nat.reduceAdd, Nat.reduceLeDiff, sz, i_en, b_en, l_en, t_en, tl_en, p_en, l1_en, t1_en, snoc_en, app_en, isL_l, c_eq, c_ne, c_inL, c_inT, c_ninL, c_ninT, c_eqE, c_neE, c_eqU, c_neU, c_lt, c_gt, c_le, c_ge, dp_int, dp_bool, dp_unit, dp_list, dp_tu, dp_pair, Nat.max_self, tr_b, tr_i, tr_l, tr_t, o_add, o_sub, o_mul, o_div, o_mod, o_shl, o_shr, o_band, o_neg, o_addL, o_addT, mulB1, i01, x_list, x_tup, x_p0, x_p1, s_list, s_tup, r_list, lt_list, lt_tup, ls_list, q_lenL, q_lenT, q_tupL, q_tupT, q_listL, q_listT, q_all, q_any, q_sum, q_max, q_min, q_int, q_abs, g_rng, toI_en, lcW_en, lcM_all, lcM_if, lcM_gd, List.map_id', List.all_map, List.any_map, Bool.not_true, Bool.not_false, List.length_map, ii_and, ii_or, Option.getD_some, List.isEmpty_map, isEmpty_filterB, Function.comp_def, id_eq, bo_sset, ar_sset, e_sset, sset_en, ssetL_en, bo_meth, bo_disp, ar_meth, ar_disp, e_meth, e_disp, vp_nil, vp_cons, vi_enum, vi_enumf, vi_rng3, x_dct, c_inD, c_ninD, s_dct, isL_d, q_lenD, q_listD, d_int, d_tu, d_pair, enum_en, index_en, mOk_l, od_1, od_2, false_implies, Bool.and_true, and_true, implies_true, forall_const, ite_some, s_lst, x_frz, frz_o, frz_h, frz_s, Option.getD_none, Int.one_mul, forW_en, gd_ff, sz_lt, List.append_nil, List.nil_append, Bool.not_not, t0_en, l0_en]
  exact pick_head
theorem e_meet (hn : n ≤ 1000) (l : List Int) : CG (k + 3) 6 [.sh (en (od n ps)), .sh (en (Tu.mk l))] = rt (en (meetO n ps l)) := by
  unfold CG; rw [hd6 rfl rfl]
  unfold b6
  funext Q
  have e := @e_under k n ps hn
  have e2 := @e_nb (k + 1) n ps
  unfold CG at e e2
  simp only [wbo_var, ar_var, bo_cst, bo_bin, bo_neg, bo_not, bo_and, bo_or, bo_cmp, bo_chain, bo_ife, bo_tup, bo_lst, bo_dnew, bo_idx, bo_slc, bo_rev, bo_call, bo_prim, bo_isi, bo_lc, bo_rg, sh_rt, sh_gd, sh_bd, ar_cst, ar_bin, ar_neg, ar_not, ar_and, ar_or, ar_cmp, ar_chain, ar_ife, ar_tup, ar_lst, ar_dnew, ar_idx, ar_slc, ar_rev, ar_call, ar_prim, ar_isi, ar_lc, ar_rg, e_var, e_cst, e_bin, e_neg, e_not, e_and, e_or, e_cmp, e_chain, e_ife, e_tup, e_lst, e_dnew, e_idx, e_slc, e_rev, e_call, e_prim, e_isi, e_lc, e_rg, wt_and, wt_or, wt_not, wt_e, vs_nil, vs_cons, vs_star, vb_nil, vb_cons, va_nil, va_cons, vo_no, vo_yes, vc_no, vc_yes, vi_val, vi_valf, vi_rng, vi_zip, vi_zipf, getD_0, getD_s, a_v, a_p, Option.bind_some, x_nil, x_cons, x_ite, exec, koF, parW, sets_n, sets_c, rt_ap, bd_ap, gd_ap, ite_ap, bd_rt, rt_bd, bd_bd, bd_gd, gd_gd, gd_true, bd_ite, ite_rt, ite_gd1, ite_gd2, lift_rt, b_and, b_and2, b_or, b_or2, ite_en, look_z, look_s, lookB_z, lookB_o, lookB_s, lookA_z, lookA_c, lookA_s, lookO_o, lookO_s, List.getElem?_cons_zero, List.getElem?_cons_succ, List.set_cons_zero, List.set_cons_succ, Bool.false_eq_true, if_false, if_true, wipeN_n, wipeN_c, free_n, free_c, nOwn_n, nOwn_s, nOwn_c, Bool.true_and, true_and, List.length_cons, List.length_nil, Nat.zero_add, Nat.reduceAdd, Nat.reduceLeDiff, sz, i_en, b_en, l_en, t_en, tl_en, p_en, l1_en, t1_en, snoc_en, app_en, isL_l, c_eq, c_ne, c_inL, c_inT, c_ninL, c_ninT, c_eqE, c_neE, c_eqU, c_neU, c_lt, c_gt, c_le, c_ge, dp_int, dp_bool, dp_unit, dp_list, dp_tu, dp_pair, Nat.max_self, tr_b, tr_i, tr_l, tr_t, o_add, o_sub, o_mul, o_div, o_mod, o_shl, o_shr, o_band, o_neg, o_addL, o_addT, mulB1, i01, x_list, x_tup, x_p0, x_p1, s_list, s_tup, r_list, lt_list, lt_tup, ls_list, q_lenL, q_lenT, q_tupL, q_tupT, q_listL, q_listT, q_all, q_any, q_sum, q_max, q_min, q_int, q_abs, g_rng, toI_en, lcW_en, lcM_all, lcM_if, lcM_gd, List.map_id', List.all_map, List.any_map, Bool.not_true, Bool.not_false, List.length_map, ii_and, ii_or, Option.getD_some, List.isEmpty_map, isEmpty_filterB, Function.comp_def, id_eq, bo_sset, ar_sset, e_sset, sset_en, ssetL_en, bo_meth, bo_disp, ar_meth, ar_disp, e_meth, e_disp, vp_nil, vp_cons, vi_enum, vi_enumf, vi_rng3, x_dct, c_inD, c_ninD, s_dct, isL_d, q_lenD, q_listD, d_int, d_tu, d_pair, enum_en, index_en, mOk_l, od_1, od_2, false_implies, Bool.and_true, and_true, implies_true, forall_const, ite_some, s_lst, x_frz, frz_o, frz_h, frz_s, Option.getD_none, Int.one_mul, forW_en, gd_ff, sz_lt, List.append_nil, List.nil_append, Bool.not_not, t0_en, l0_en]
  rw [e]
  simp only [wbo_var, ar_var, bo_cst, bo_bin, bo_neg, bo_not, bo_and, bo_or, bo_cmp, bo_chain, bo_ife, bo_tup, bo_lst, bo_dnew, bo_idx, bo_slc, bo_rev, bo_call, bo_prim, bo_isi, bo_lc, bo_rg, sh_rt, sh_gd, sh_bd, ar_cst, ar_bin, ar_neg, ar_not, ar_and, ar_or, ar_cmp, ar_chain, ar_ife, ar_tup, ar_lst, ar_dnew, ar_idx, ar_slc, ar_rev, ar_call, ar_prim, ar_isi, ar_lc, ar_rg, e_var, e_cst, e_bin, e_neg, e_not, e_and, e_or, e_cmp, e_chain, e_ife, e_tup, e_lst, e_dnew, e_idx, e_slc, e_rev, e_call, e_prim, e_isi, e_lc, e_rg, wt_and, wt_or, wt_not, wt_e, vs_nil, vs_cons, vs_star, vb_nil, vb_cons, va_nil, va_cons, vo_no, vo_yes, vc_no, vc_yes, vi_val, vi_valf, vi_rng, vi_zip, vi_zipf, getD_0, getD_s, a_v, a_p, Option.bind_some, x_nil, x_cons, x_ite, exec, koF, parW, sets_n, sets_c, rt_ap, bd_ap, gd_ap, ite_ap, bd_rt, rt_bd, bd_bd, bd_gd, gd_gd, gd_true, bd_ite, ite_rt, ite_gd1, ite_gd2, lift_rt, b_and, b_and2, b_or, b_or2, ite_en, look_z, look_s, lookB_z, lookB_o, lookB_s, lookA_z, lookA_c, lookA_s, lookO_o, lookO_s, List.getElem?_cons_zero, List.getElem?_cons_succ, List.set_cons_zero, List.set_cons_succ, Bool.false_eq_true, if_false, if_true, wipeN_n, wipeN_c, free_n, free_c, nOwn_n, nOwn_s, nOwn_c, Bool.true_and, true_and, List.length_cons, List.length_nil, Nat.zero_add, Nat.reduceAdd, Nat.reduceLeDiff, sz, i_en, b_en, l_en, t_en, tl_en, p_en, l1_en, t1_en, snoc_en, app_en, isL_l, c_eq, c_ne, c_inL, c_inT, c_ninL, c_ninT, c_eqE, c_neE, c_eqU, c_neU, c_lt, c_gt, c_le, c_ge, dp_int, dp_bool, dp_unit, dp_list, dp_tu, dp_pair, Nat.max_self, tr_b, tr_i, tr_l, tr_t, o_add, o_sub, o_mul, o_div, o_mod, o_shl, o_shr, o_band, o_neg, o_addL, o_addT, mulB1, i01, x_list, x_tup, x_p0, x_p1, s_list, s_tup, r_list, lt_list, lt_tup, ls_list, q_lenL, q_lenT, q_tupL, q_tupT, q_listL, q_listT, q_all, q_any, q_sum, q_max, q_min, q_int, q_abs, g_rng, toI_en, lcW_en, lcM_all, lcM_if, lcM_gd, List.map_id', List.all_map, List.any_map, Bool.not_true, Bool.not_false, List.length_map, ii_and, ii_or, Option.getD_some, List.isEmpty_map, isEmpty_filterB, Function.comp_def, id_eq, bo_sset, ar_sset, e_sset, sset_en, ssetL_en, bo_meth, bo_disp, ar_meth, ar_disp, e_meth, e_disp, vp_nil, vp_cons, vi_enum, vi_enumf, vi_rng3, x_dct, c_inD, c_ninD, s_dct, isL_d, q_lenD, q_listD, d_int, d_tu, d_pair, enum_en, index_en, mOk_l, od_1, od_2, false_implies, Bool.and_true, and_true, implies_true, forall_const, ite_some, s_lst, x_frz, frz_o, frz_h, frz_s, Option.getD_none, Int.one_mul, forW_en, gd_ff, sz_lt, List.append_nil, List.nil_append, Bool.not_not, t0_en, l0_en]
  simp only [e2]
  simp only [wbo_var, ar_var, bo_cst, bo_bin, bo_neg, bo_not, bo_and, bo_or, bo_cmp, bo_chain, bo_ife, bo_tup, bo_lst, bo_dnew, bo_idx, bo_slc, bo_rev, bo_call, bo_prim, bo_isi, bo_lc, bo_rg, sh_rt, sh_gd, sh_bd, ar_cst, ar_bin, ar_neg, ar_not, ar_and, ar_or, ar_cmp, ar_chain, ar_ife, ar_tup, ar_lst, ar_dnew, ar_idx, ar_slc, ar_rev, ar_call, ar_prim, ar_isi, ar_lc, ar_rg, e_var, e_cst, e_bin, e_neg, e_not, e_and, e_or, e_cmp, e_chain, e_ife, e_tup, e_lst, e_dnew, e_idx, e_slc, e_rev, e_call, e_prim, e_isi, e_lc, e_rg, wt_and, wt_or, wt_not, wt_e, vs_nil, vs_cons, vs_star, vb_nil, vb_cons, va_nil, va_cons, vo_no, vo_yes, vc_no, vc_yes, vi_val, vi_valf, vi_rng, vi_zip, vi_zipf, getD_0, getD_s, a_v, a_p, Option.bind_some, x_nil, x_cons, x_ite, exec, koF, parW, sets_n, sets_c, rt_ap, bd_ap, gd_ap, ite_ap, bd_rt, rt_bd, bd_bd, bd_gd, gd_gd, gd_true, bd_ite, ite_rt, ite_gd1, ite_gd2, lift_rt, b_and, b_and2, b_or, b_or2, ite_en, look_z, look_s, lookB_z, lookB_o, lookB_s, lookA_z, lookA_c, lookA_s, lookO_o, lookO_s, List.getElem?_cons_zero, List.getElem?_cons_succ, List.set_cons_zero, List.set_cons_succ, Bool.false_eq_true, if_false, if_true, wipeN_n, wipeN_c, free_n, free_c, nOwn_n, nOwn_s, nOwn_c, Bool.true_and, true_and, List.length_cons, List.length_nil, Nat.zero_add, Nat.reduceAdd, Nat.reduceLeDiff, sz, i_en, b_en, l_en, t_en, tl_en, p_en, l1_en, t1_en, snoc_en, app_en, isL_l, c_eq, c_ne, c_inL, c_inT, c_ninL, c_ninT, c_eqE, c_neE, c_eqU, c_neU, c_lt, c_gt, c_le, c_ge, dp_int, dp_bool, dp_unit, dp_list, dp_tu, dp_pair, Nat.max_self, tr_b, tr_i, tr_l, tr_t, o_add, o_sub, o_mul, o_div, o_mod, o_shl, o_shr, o_band, o_neg, o_addL, o_addT, mulB1, i01, x_list, x_tup, x_p0, x_p1, s_list, s_tup, r_list, lt_list, lt_tup, ls_list, q_lenL, q_lenT, q_tupL, q_tupT, q_listL, q_listT, q_all, q_any, q_sum, q_max, q_min, q_int, q_abs, g_rng, toI_en, lcW_en, lcM_all, lcM_if, lcM_gd, List.map_id', List.all_map, List.any_map, Bool.not_true, Bool.not_false, List.length_map, ii_and, ii_or, Option.getD_some, List.isEmpty_map, isEmpty_filterB, Function.comp_def, id_eq, bo_sset, ar_sset, e_sset, sset_en, ssetL_en, bo_meth, bo_disp, ar_meth, ar_disp, e_meth, e_disp, vp_nil, vp_cons, vi_enum, vi_enumf, vi_rng3, x_dct, c_inD, c_ninD, s_dct, isL_d, q_lenD, q_listD, d_int, d_tu, d_pair, enum_en, index_en, mOk_l, od_1, od_2, false_implies, Bool.and_true, and_true, implies_true, forall_const, ite_some, s_lst, x_frz, frz_o, frz_h, frz_s, Option.getD_none, Int.one_mul, forW_en, gd_ff, sz_lt, List.append_nil, List.nil_append, Bool.not_not, t0_en, l0_en]
  exact pick_head
theorem s_within {some : List (Tu Int)} (hl : some.length ≤ 64) (q : Q (en (od some.length (wthL some)))) : CG (k + 1) 22 [.sh (en some)] Q := by
  unfold CG; rw [hd22 rfl]
  unfold b22
  simp only [wbo_var, ar_var, bo_cst, bo_bin, bo_neg, bo_not, bo_and, bo_or, bo_cmp, bo_chain, bo_ife, bo_tup, bo_lst, bo_dnew, bo_idx, bo_slc, bo_rev, bo_call, bo_prim, bo_isi, bo_lc, bo_rg, sh_rt, sh_gd, sh_bd, ar_cst, ar_bin, ar_neg, ar_not, ar_and, ar_or, ar_cmp, ar_chain, ar_ife, ar_tup, ar_lst, ar_dnew, ar_idx, ar_slc, ar_rev, ar_call, ar_prim, ar_isi, ar_lc, ar_rg, e_var, e_cst, e_bin, e_neg, e_not, e_and, e_or, e_cmp, e_chain, e_ife, e_tup, e_lst, e_dnew, e_idx, e_slc, e_rev, e_call, e_prim, e_isi, e_lc, e_rg, wt_and, wt_or, wt_not, wt_e, vs_nil, vs_cons, vs_star, vb_nil, vb_cons, va_nil, va_cons, vo_no, vo_yes, vc_no, vc_yes, vi_val, vi_valf, vi_rng, vi_zip, vi_zipf, getD_0, getD_s, a_v, a_p, Option.bind_some, x_nil, x_cons, x_ite, exec, koF, parW, sets_n, sets_c, rt_ap, bd_ap, gd_ap, ite_ap, bd_rt, rt_bd, bd_bd, bd_gd, gd_gd, gd_true, bd_ite, ite_rt, ite_gd1, ite_gd2, lift_rt, b_and, b_and2, b_or, b_or2, ite_en, look_z, look_s, lookB_z, lookB_o, lookB_s, lookA_z, lookA_c, lookA_s, lookO_o, lookO_s, List.getElem?_cons_zero, List.getElem?_cons_succ, List.set_cons_zero, List.set_cons_succ, Bool.false_eq_true, if_false, if_true, wipeN_n, wipeN_c, free_n, free_c, nOwn_n, nOwn_s, nOwn_c, Bool.true_and, true_and, List.length_cons, List.length_nil, Nat.zero_add, Nat.reduceAdd, Nat.reduceLeDiff, sz, i_en, b_en, l_en, t_en, tl_en, p_en, l1_en, t1_en, snoc_en, app_en, isL_l, c_eq, c_ne, c_inL, c_inT, c_ninL, c_ninT, c_eqE, c_neE, c_eqU, c_neU, c_lt, c_gt, c_le, c_ge, dp_int, dp_bool, dp_unit, dp_list, dp_tu, dp_pair, Nat.max_self, tr_b, tr_i, tr_l, tr_t, o_add, o_sub, o_mul, o_div, o_mod, o_shl, o_shr, o_band, o_neg, o_addL, o_addT, mulB1, i01, x_list, x_tup, x_p0, x_p1, s_list, s_tup, r_list, lt_list, lt_tup, ls_list, q_lenL, q_lenT, q_tupL, q_tupT, q_listL, q_listT, q_all, q_any, q_sum, q_max, q_min, q_int, q_abs, g_rng, toI_en, lcW_en, lcM_all, lcM_if, lcM_gd, List.map_id', List.all_map, List.any_map, Bool.not_true, Bool.not_false, List.length_map, ii_and, ii_or, Option.getD_some, List.isEmpty_map, isEmpty_filterB, Function.comp_def, id_eq, bo_sset, ar_sset, e_sset, sset_en, ssetL_en, bo_meth, bo_disp, ar_meth, ar_disp, e_meth, e_disp, vp_nil, vp_cons, vi_enum, vi_enumf, vi_rng3, x_dct, c_inD, c_ninD, s_dct, isL_d, q_lenD, q_listD, d_int, d_tu, d_pair, enum_en, index_en, mOk_l, od_1, od_2, false_implies, Bool.and_true, and_true, implies_true, forall_const, ite_some, s_lst, x_frz, frz_o, frz_h, frz_s, Option.getD_none, Int.one_mul, forW_en, gd_ff, sz_lt, List.append_nil, List.nil_append, Bool.not_not, t0_en, l0_en]
  rw [mtE (α := Int × Int)]
  refine forL_inv (fun done ρ => ∃ (s : List (Int × Int)) (x2 x3 : Option B), ρ = [Option.some (.sh (en some)), Option.some (.sh (en s)), x2, x3, none, none, none] ∧ s = done.foldl (fun f p => f ++ rowW some p.1 p.2) [] ∧ s.length ≤ 64 * done.length) (done := []) ⟨[], none, none, rfl, rfl, by simp⟩ ?_ ?_
  · rintro done ⟨i, one⟩ r ρ e ⟨s, x2, x3, rfl, es, hs⟩ K hK
    have hdl : done.length < some.length := by
      have := congrArg List.length (show enumT some = done ++ (i, one) :: r from e)
      unfold enumT at this
      rw [List.length_map, List.length_zipIdx, List.length_append, List.length_cons] at this; omega
    have hr := rowW_len some i one
    unfold b22_0
    simp only [wbo_var, ar_var, bo_cst, bo_bin, bo_neg, bo_not, bo_and, bo_or, bo_cmp, bo_chain, bo_ife, bo_tup, bo_lst, bo_dnew, bo_idx, bo_slc, bo_rev, bo_call, bo_prim, bo_isi, bo_lc, bo_rg, sh_rt, sh_gd, sh_bd, ar_cst, ar_bin, ar_neg, ar_not, ar_and, ar_or, ar_cmp, ar_chain, ar_ife, ar_tup, ar_lst, ar_dnew, ar_idx, ar_slc, ar_rev, ar_call, ar_prim, ar_isi, ar_lc, ar_rg, e_var, e_cst, e_bin, e_neg, e_not, e_and, e_or, e_cmp, e_chain, e_ife, e_tup, e_lst, e_dnew, e_idx, e_slc, e_rev, e_call, e_prim, e_isi, e_lc, e_rg, wt_and, wt_or, wt_not, wt_e, vs_nil, vs_cons, vs_star, vb_nil, vb_cons, va_nil, va_cons, vo_no, vo_yes, vc_no, vc_yes, vi_val, vi_valf, vi_rng, vi_zip, vi_zipf, getD_0, getD_s, a_v, a_p, Option.bind_some, x_nil, x_cons, x_ite, exec, koF, parW, sets_n, sets_c, rt_ap, bd_ap, gd_ap, ite_ap, bd_rt, rt_bd, bd_bd, bd_gd, gd_gd, gd_true, bd_ite, ite_rt, ite_gd1, ite_gd2, lift_rt, b_and, b_and2, b_or, b_or2, ite_en, look_z, look_s, lookB_z, lookB_o, lookB_s, lookA_z, lookA_c, lookA_s, lookO_o, lookO_s, List.getElem?_cons_zero, List.getElem?_cons_succ, List.set_cons_zero, List.set_cons_succ, Bool.false_eq_true, if_false, if_true, wipeN_n, wipeN_c, free_n, free_c, nOwn_n, nOwn_s, nOwn_c, Bool.true_and, true_and, List.length_cons, List.length_nil, Nat.zero_add, Nat.reduceAdd, Nat.reduceLeDiff, sz, i_en, b_en, l_en, t_en, tl_en, p_en, l1_en, t1_en, snoc_en, app_en, isL_l, c_eq, c_ne, c_inL, c_inT, c_ninL, c_ninT, c_eqE, c_neE, c_eqU, c_neU, c_lt, c_gt, c_le, c_ge, dp_int, dp_bool, dp_unit, dp_list, dp_tu, dp_pair, Nat.max_self, tr_b, tr_i, tr_l, tr_t, o_add, o_sub, o_mul, o_div, o_mod, o_shl, o_shr, o_band, o_neg, o_addL, o_addT, mulB1, i01, x_list, x_tup, x_p0, x_p1, s_list, s_tup, r_list, lt_list, lt_tup, ls_list, q_lenL, q_lenT, q_tupL, q_tupT, q_listL, q_listT, q_all, q_any, q_sum, q_max, q_min, q_int, q_abs, g_rng, toI_en, lcW_en, lcM_all, lcM_if, lcM_gd, List.map_id', List.all_map, List.any_map, Bool.not_true, Bool.not_false, List.length_map, ii_and, ii_or, Option.getD_some, List.isEmpty_map, isEmpty_filterB, Function.comp_def, id_eq, bo_sset, ar_sset, e_sset, sset_en, ssetL_en, bo_meth, bo_disp, ar_meth, ar_disp, e_meth, e_disp, vp_nil, vp_cons, vi_enum, vi_enumf, vi_rng3, x_dct, c_inD, c_ninD, s_dct, isL_d, q_lenD, q_listD, d_int, d_tu, d_pair, enum_en, index_en, mOk_l, od_1, od_2, false_implies, Bool.and_true, and_true, implies_true, forall_const, ite_some, s_lst, x_frz, frz_o, frz_h, frz_s, Option.getD_none, Int.one_mul, forW_en, gd_ff, sz_lt, List.append_nil, List.nil_append, Bool.not_not, t0_en, l0_en]
    have er : List.map (fun a : Int × Tu Int => (i, a.1)) (List.filter (fun a => !decide (i = a.1) && one.l.all fun a_1 => mb a_1 a.2.l) (enumT some)) = rowW some i one := rfl
    have hl2 : (List.filter (fun a : Int × Tu Int => !decide (i = a.1) && one.l.all fun a_1 => mb a_1 a.2.l) (enumT some)).length ≤ some.length := by
      have := congrArg List.length er
      rw [List.length_map] at this
      omega
    rw [er]
    refine ⟨szl (by omega), hK _ ⟨_, _, _, rfl, ?_, ?_⟩⟩
    · rw [List.foldl_append, ← es]; rfl
    · rw [List.length_append, List.length_append, List.length_cons, List.length_nil]; omega
  · rintro ρ ⟨s, x2, x3, rfl, es, hs⟩
    have es : s = wthL some := es
    subst es
    unfold b22_1
    simp only [wbo_var, ar_var, bo_cst, bo_bin, bo_neg, bo_not, bo_and, bo_or, bo_cmp, bo_chain, bo_ife, bo_tup, bo_lst, bo_dnew, bo_idx, bo_slc, bo_rev, bo_call, bo_prim, bo_isi, bo_lc, bo_rg, sh_rt, sh_gd, sh_bd, ar_cst, ar_bin, ar_neg, ar_not, ar_and, ar_or, ar_cmp, ar_chain, ar_ife, ar_tup, ar_lst, ar_dnew, ar_idx, ar_slc, ar_rev, ar_call, ar_prim, ar_isi, ar_lc, ar_rg, e_var, e_cst, e_bin, e_neg, e_not, e_and, e_or, e_cmp, e_chain, e_ife, e_tup, e_lst, e_dnew, e_idx, e_slc, e_rev, e_call, e_prim, e_isi, e_lc, e_rg, wt_and, wt_or, wt_not, wt_e, vs_nil, vs_cons, vs_star, vb_nil, vb_cons, va_nil, va_cons, vo_no, vo_yes, vc_no, vc_yes, vi_val, vi_valf, vi_rng, vi_zip, vi_zipf, getD_0, getD_s, a_v, a_p, Option.bind_some, x_nil, x_cons, x_ite, exec, koF, parW, sets_n, sets_c, rt_ap, bd_ap, gd_ap, ite_ap, bd_rt, rt_bd, bd_bd, bd_gd, gd_gd, gd_true, bd_ite, ite_rt, ite_gd1, ite_gd2, lift_rt, b_and, b_and2, b_or, b_or2, ite_en, look_z, look_s, lookB_z, lookB_o, lookB_s, lookA_z, lookA_c, lookA_s, lookO_o, lookO_s, List.getElem?_cons_zero, List.getElem?_cons_succ, List.set_cons_zero, List.set_cons_succ, Bool.false_eq_true, if_false, if_true, wipeN_n, wipeN_c, free_n, free_c, nOwn_n, nOwn_s, nOwn_c, Bool.true_and, true_and, List.length_cons, List.length_nil, Nat.zero_add, Nat.reduceAdd, Nat.reduceLeDiff, sz, i_en, b_en, l_en, t_en, tl_en, p_en, l1_en, t1_en, snoc_en, app_en, isL_l, c_eq, c_ne, c_inL, c_inT, c_ninL, c_ninT, c_eqE, c_neE, c_eqU, c_neU, c_lt, c_gt, c_le, c_ge, dp_int, dp_bool, dp_unit, dp_list, dp_tu, dp_pair, Nat.max_self, tr_b, tr_i, tr_l, tr_t, o_add, o_sub, o_mul, o_div, o_mod, o_shl, o_shr, o_band, o_neg, o_addL, o_addT, mulB1, i01, x_list, x_tup, x_p0, x_p1, s_list, s_tup, r_list, lt_list, lt_tup, ls_list, q_lenL, q_lenT, q_tupL, q_tupT, q_listL, q_listT, q_all, q_any, q_sum, q_max, q_min, q_int, q_abs, g_rng, toI_en, lcW_en, lcM_all, lcM_if, lcM_gd, List.map_id', List.all_map, List.any_map, Bool.not_true, Bool.not_false, List.length_map, ii_and, ii_or, Option.getD_some, List.isEmpty_map, isEmpty_filterB, Function.comp_def, id_eq, bo_sset, ar_sset, e_sset, sset_en, ssetL_en, bo_meth, bo_disp, ar_meth, ar_disp, e_meth, e_disp, vp_nil, vp_cons, vi_enum, vi_enumf, vi_rng3, x_dct, c_inD, c_ninD, s_dct, isL_d, q_lenD, q_listD, d_int, d_tu, d_pair, enum_en, index_en, mOk_l, od_1, od_2, false_implies, Bool.and_true, and_true, implies_true, forall_const, ite_some, s_lst, x_frz, frz_o, frz_h, frz_s, Option.getD_none, Int.one_mul, forW_en, gd_ff, sz_lt, List.append_nil, List.nil_append, Bool.not_not, t0_en, l0_en]
    exact q
theorem s_isLat (hn : n ≤ 1000) (h : ∀ a ∈ rg n, ∀ b ∈ rg n, b < a → ∃ x y, meetO n ps [b, a] = some x ∧ joinO n ps [b, a] = some y) (q : Q (en true)) : CG (k + 4) 8 [.sh (en (od n ps))] Q := by
  unfold CG; rw [hd8 rfl]
  unfold b8
  simp only [wbo_var, ar_var, bo_cst, bo_bin, bo_neg, bo_not, bo_and, bo_or, bo_cmp, bo_chain, bo_ife, bo_tup, bo_lst, bo_dnew, bo_idx, bo_slc, bo_rev, bo_call, bo_prim, bo_isi, bo_lc, bo_rg, sh_rt, sh_gd, sh_bd, ar_cst, ar_bin, ar_neg, ar_not, ar_and, ar_or, ar_cmp, ar_chain, ar_ife, ar_tup, ar_lst, ar_dnew, ar_idx, ar_slc, ar_rev, ar_call, ar_prim, ar_isi, ar_lc, ar_rg, e_var, e_cst, e_bin, e_neg, e_not, e_and, e_or, e_cmp, e_chain, e_ife, e_tup, e_lst, e_dnew, e_idx, e_slc, e_rev, e_call, e_prim, e_isi, e_lc, e_rg, wt_and, wt_or, wt_not, wt_e, vs_nil, vs_cons, vs_star, vb_nil, vb_cons, va_nil, va_cons, vo_no, vo_yes, vc_no, vc_yes, vi_val, vi_valf, vi_rng, vi_zip, vi_zipf, getD_0, getD_s, a_v, a_p, Option.bind_some, x_nil, x_cons, x_ite, exec, koF, parW, sets_n, sets_c, rt_ap, bd_ap, gd_ap, ite_ap, bd_rt, rt_bd, bd_bd, bd_gd, gd_gd, gd_true, bd_ite, ite_rt, ite_gd1, ite_gd2, lift_rt, b_and, b_and2, b_or, b_or2, ite_en, look_z, look_s, lookB_z, lookB_o, lookB_s, lookA_z, lookA_c, lookA_s, lookO_o, lookO_s, List.getElem?_cons_zero, List.getElem?_cons_succ, List.set_cons_zero, List.set_cons_succ, Bool.false_eq_true, if_false, if_true, wipeN_n, wipeN_c, free_n, free_c, nOwn_n, nOwn_s, nOwn_c, Bool.true_and, true_and, List.length_cons, List.length_nil, Nat.zero_add, Nat.reduceAdd, Nat.reduceLeDiff, sz, i_en, b_en, l_en, t_en, tl_en, p_en, l1_en, t1_en, snoc_en, app_en, isL_l, c_eq, c_ne, c_inL, c_inT, c_ninL, c_ninT, c_eqE, c_neE, c_eqU, c_neU, c_lt, c_gt, c_le, c_ge, dp_int, dp_bool, dp_unit, dp_list, dp_tu, dp_pair, Nat.max_self, tr_b, tr_i, tr_l, tr_t, o_add, o_sub, o_mul, o_div, o_mod, o_shl, o_shr, o_band, o_neg, o_addL, o_addT, mulB1, i01, x_list, x_tup, x_p0, x_p1, s_list, s_tup, r_list, lt_list, lt_tup, ls_list, q_lenL, q_lenT, q_tupL, q_tupT, q_listL, q_listT, q_all, q_any, q_sum, q_max, q_min, q_int, q_abs, g_rng, toI_en, lcW_en, lcM_all, lcM_if, lcM_gd, List.map_id', List.all_map, List.any_map, Bool.not_true, Bool.not_false, List.length_map, ii_and, ii_or, Option.getD_some, List.isEmpty_map, isEmpty_filterB, Function.comp_def, id_eq, bo_sset, ar_sset, e_sset, sset_en, ssetL_en, bo_meth, bo_disp, ar_meth, ar_disp, e_meth, e_disp, vp_nil, vp_cons, vi_enum, vi_enumf, vi_rng3, x_dct, c_inD, c_ninD, s_dct, isL_d, q_lenD, q_listD, d_int, d_tu, d_pair, enum_en, index_en, mOk_l, od_1, od_2, false_implies, Bool.and_true, and_true, implies_true, forall_const, ite_some, s_lst, x_frz, frz_o, frz_h, frz_s, Option.getD_none, Int.one_mul, forW_en, gd_ff, sz_lt, List.append_nil, List.nil_append, Bool.not_not, t0_en, l0_en]
  refine ⟨rng_ok hn, ?_⟩
  rw [rgI_rg]
  refine forL_inv (fun _ ρ => ∃ x1 x2, ρ = [some (.sh (en (od n ps))), x1, x2]) (done := []) ⟨none, none, rfl⟩ ?_ ?_
  · rintro done a r ρ e ⟨x1, x2, rfl⟩ K hK
    have ha : a ∈ rg n := by rw [show rg n = done ++ a :: r from e]; simp
    have har := mem_rg.mp ha
    obtain ⟨an, rfl⟩ := Int.eq_ofNat_of_zero_le har.1
    simp only [wbo_var, ar_var, bo_cst, bo_bin, bo_neg, bo_not, bo_and, bo_or, bo_cmp, bo_chain, bo_ife, bo_tup, bo_lst, bo_dnew, bo_idx, bo_slc, bo_rev, bo_call, bo_prim, bo_isi, bo_lc, bo_rg, sh_rt, sh_gd, sh_bd, ar_cst, ar_bin, ar_neg, ar_not, ar_and, ar_or, ar_cmp, ar_chain, ar_ife, ar_tup, ar_lst, ar_dnew, ar_idx, ar_slc, ar_rev, ar_call, ar_prim, ar_isi, ar_lc, ar_rg, e_var, e_cst, e_bin, e_neg, e_not, e_and, e_or, e_cmp, e_chain, e_ife, e_tup, e_lst, e_dnew, e_idx, e_slc, e_rev, e_call, e_prim, e_isi, e_lc, e_rg, wt_and, wt_or, wt_not, wt_e, vs_nil, vs_cons, vs_star, vb_nil, vb_cons, va_nil, va_cons, vo_no, vo_yes, vc_no, vc_yes, vi_val, vi_valf, vi_rng, vi_zip, vi_zipf, getD_0, getD_s, a_v, a_p, Option.bind_some, x_nil, x_cons, x_ite, exec, koF, parW, sets_n, sets_c, rt_ap, bd_ap, gd_ap, ite_ap, bd_rt, rt_bd, bd_bd, bd_gd, gd_gd, gd_true, bd_ite, ite_rt, ite_gd1, ite_gd2, lift_rt, b_and, b_and2, b_or, b_or2, ite_en, look_z, look_s, lookB_z, lookB_o, lookB_s, lookA_z, lookA_c, lookA_s, lookO_o, lookO_s, List.getElem?_cons_zero, List.getElem?_cons_succ, List.set_cons_zero, List.set_cons_succ, Bool.false_eq_true, if_false, if_true, wipeN_n, wipeN_c, free_n, free_c, nOwn_n, nOwn_s, nOwn_c, Bool.true_and, true_and, List.length_cons, List.length_nil, Nat.zero_add, Nat.reduceAdd, Nat.reduceLeDiff, sz, i_en, b_en, l_en, t_en, tl_en, p_en, l1_en, t1_en, snoc_en, app_en, isL_l, c_eq, c_ne, c_inL, c_inT, c_ninL, c_ninT, c_eqE, c_neE, c_eqU, c_neU, c_lt, c_gt, c_le, c_ge, dp_int, dp_bool, dp_unit, dp_list, dp_tu, dp_pair, Nat.max_self, tr_b, tr_i, tr_l, tr_t, o_add, o_sub, o_mul, o_div, o_mod, o_shl, o_shr, o_band, o_neg, o_addL, o_addT, mulB1, i01, x_list, x_tup, x_p0, x_p1, s_list, s_tup, r_list, lt_list, lt_tup, ls_list, q_lenL, q_lenT, q_tupL, q_tupT, q_listL, q_listT, q_all, q_any, q_sum, q_max, q_min, q_int, q_abs, g_rng, toI_en, lcW_en, lcM_all, lcM_if, lcM_gd, List.map_id', List.all_map, List.any_map, Bool.not_true, Bool.not_false, List.length_map, ii_and, ii_or, Option.getD_some, List.isEmpty_map, isEmpty_filterB, Function.comp_def, id_eq, bo_sset, ar_sset, e_sset, sset_en, ssetL_en, bo_meth, bo_disp, ar_meth, ar_disp, e_meth, e_disp, vp_nil, vp_cons, vi_enum, vi_enumf, vi_rng3, x_dct, c_inD, c_ninD, s_dct, isL_d, q_lenD, q_listD, d_int, d_tu, d_pair, enum_en, index_en, mOk_l, od_1, od_2, false_implies, Bool.and_true, and_true, implies_true, forall_const, ite_some, s_lst, x_frz, frz_o, frz_h, frz_s, Option.getD_none, Int.one_mul, forW_en, gd_ff, sz_lt, List.append_nil, List.nil_append, Bool.not_not, t0_en, l0_en]
    refine ⟨rng_ok (by omega), ?_⟩
    rw [rgI_rg]
    refine forL_inv (fun _ ρ => ∃ x2, ρ = [some (.sh (en (od n ps))), some (.sh (en (an : Int))), x2]) (done := []) ⟨x2, rfl⟩ ?_ ?_
    · rintro done b r ρ e ⟨x2, rfl⟩ K2 hK2
      have hb : b ∈ rg an := by rw [show rg an = done ++ b :: r from e]; simp
      have hbr := mem_rg.mp hb
      obtain ⟨x, y, hx, hy⟩ := h an ha b (mem_rg.mpr ⟨hbr.1, by omega⟩) hbr.2
      unfold b8_0
      have e1 := @e_meet k n ps hn
      have e2 := @e_join k n ps hn
      unfold CG at e1 e2
      simp only [wbo_var, ar_var, bo_cst, bo_bin, bo_neg, bo_not, bo_and, bo_or, bo_cmp, bo_chain, bo_ife, bo_tup, bo_lst, bo_dnew, bo_idx, bo_slc, bo_rev, bo_call, bo_prim, bo_isi, bo_lc, bo_rg, sh_rt, sh_gd, sh_bd, ar_cst, ar_bin, ar_neg, ar_not, ar_and, ar_or, ar_cmp, ar_chain, ar_ife, ar_tup, ar_lst, ar_dnew, ar_idx, ar_slc, ar_rev, ar_call, ar_prim, ar_isi, ar_lc, ar_rg, e_var, e_cst, e_bin, e_neg, e_not, e_and, e_or, e_cmp, e_chain, e_ife, e_tup, e_lst, e_dnew, e_idx, e_slc, e_rev, e_call, e_prim, e_isi, e_lc, e_rg, wt_and, wt_or, wt_not, wt_e, vs_nil, vs_cons, vs_star, vb_nil, vb_cons, va_nil, va_cons, vo_no, vo_yes, vc_no, vc_yes, vi_val, vi_valf, vi_rng, vi_zip, vi_zipf, getD_0, getD_s, a_v, a_p, Option.bind_some, x_nil, x_cons, x_ite, exec, koF, parW, sets_n, sets_c, rt_ap, bd_ap, gd_ap, ite_ap, bd_rt, rt_bd, bd_bd, bd_gd, gd_gd, gd_true, bd_ite, ite_rt, ite_gd1, ite_gd2, lift_rt, b_and, b_and2, b_or, b_or2, ite_en, look_z, look_s, lookB_z, lookB_o, lookB_s, lookA_z, lookA_c, lookA_s, lookO_o, lookO_s, List.getElem?_cons_zero, List.getElem?_cons_succ, List.set_cons_zero, List.set_cons_succ, Bool.false_eq_true, if_false, if_true, wipeN_n, wipeN_c, free_n, free_c, nOwn_n, nOwn_s, nOwn_c, Bool.true_and, true_and, List.length_cons, List.length_nil, Nat.zero_add, Nat.reduceAdd, Nat.reduceLeDiff, sz, i_en, b_en, l_en, t_en, tl_en, p_en, l1_en, t1_en, snoc_en, app_en, isL_l, c_eq, c_ne, c_inL, c_inT, c_ninL, c_ninT, c_eqE, c_neE, c_eqU, c_neU, c_lt, c_gt, c_le, c_ge, dp_int, dp_bool, dp_unit, dp_list, dp_tu, dp_pair, Nat.max_self, tr_b, tr_i, tr_l, tr_t, o_add, o_sub, o_mul, o_div, o_mod, o_shl, o_shr, o_band, o_neg, o_addL, o_addT, mulB1, i01, x_list, x_tup, x_p0, x_p1, s_list, s_tup, r_list, lt_list, lt_tup, ls_list, q_lenL, q_lenT, q_tupL, q_tupT, q_listL, q_listT, q_all, q_any, q_sum, q_max, q_min, q_int, q_abs, g_rng, toI_en, lcW_en, lcM_all, lcM_if, lcM_gd, List.map_id', List.all_map, List.any_map, Bool.not_true, Bool.not_false, List.length_map, ii_and, ii_or, Option.getD_some, List.isEmpty_map, isEmpty_filterB, Function.comp_def, id_eq, bo_sset, ar_sset, e_sset, sset_en, ssetL_en, bo_meth, bo_disp, ar_meth, ar_disp, e_meth, e_disp, vp_nil, vp_cons, vi_enum, vi_enumf, vi_rng3, x_dct, c_inD, c_ninD, s_dct, isL_d, q_lenD, q_listD, d_int, d_tu, d_pair, enum_en, index_en, mOk_l, od_1, od_2, false_implies, Bool.and_true, and_true, implies_true, forall_const, ite_some, s_lst, x_frz, frz_o, frz_h, frz_s, Option.getD_none, Int.one_mul, forW_en, gd_ff, sz_lt, List.append_nil, List.nil_append, Bool.not_not, t0_en, l0_en]
      have n0 : ∀ i : Int, copD .is (en (some i)) .none = some (en false) := fun _ => rfl
      rw [show (en (b, (an : Int)) : D) = en (Tu.mk [b, (an : Int)]) from rfl, e1, hx]
      simp only [rt_ap]
      rw [n0]
      simp only [wbo_var, ar_var, bo_cst, bo_bin, bo_neg, bo_not, bo_and, bo_or, bo_cmp, bo_chain, bo_ife, bo_tup, bo_lst, bo_dnew, bo_idx, bo_slc, bo_rev, bo_call, bo_prim, bo_isi, bo_lc, bo_rg, sh_rt, sh_gd, sh_bd, ar_cst, ar_bin, ar_neg, ar_not, ar_and, ar_or, ar_cmp, ar_chain, ar_ife, ar_tup, ar_lst, ar_dnew, ar_idx, ar_slc, ar_rev, ar_call, ar_prim, ar_isi, ar_lc, ar_rg, e_var, e_cst, e_bin, e_neg, e_not, e_and, e_or, e_cmp, e_chain, e_ife, e_tup, e_lst, e_dnew, e_idx, e_slc, e_rev, e_call, e_prim, e_isi, e_lc, e_rg, wt_and, wt_or, wt_not, wt_e, vs_nil, vs_cons, vs_star, vb_nil, vb_cons, va_nil, va_cons, vo_no, vo_yes, vc_no, vc_yes, vi_val, vi_valf, vi_rng, vi_zip, vi_zipf, getD_0, getD_s, a_v, a_p, Option.bind_some, x_nil, x_cons, x_ite, exec, koF, parW, sets_n, sets_c, rt_ap, bd_ap, gd_ap, ite_ap, bd_rt, rt_bd, bd_bd, bd_gd, gd_gd, gd_true, bd_ite, ite_rt, ite_gd1, ite_gd2, lift_rt, b_and, b_and2, b_or, b_or2, ite_en, look_z, look_s, lookB_z, lookB_o, lookB_s, lookA_z, lookA_c, lookA_s, lookO_o, lookO_s, List.getElem?_cons_zero, List.getElem?_cons_succ, List.set_cons_zero, List.set_cons_succ, Bool.false_eq_true, if_false, if_true, wipeN_n, wipeN_c, free_n, free_c, nOwn_n, nOwn_s, nOwn_c, Bool.true_and, true_and, List.length_cons, List.length_nil, Nat.zero_add, Nat.reduceAdd, Nat.reduceLeDiff, sz, i_en, b_en, l_en, t_en, tl_en, p_en, l1_en, t1_en, snoc_en, app_en, isL_l, c_eq, c_ne, c_inL, c_inT, c_ninL, c_ninT, c_eqE, c_neE, c_eqU, c_neU, c_lt, c_gt, c_le, c_ge, dp_int, dp_bool, dp_unit, dp_list, dp_tu, dp_pair, Nat.max_self, tr_b, tr_i, tr_l, tr_t, o_add, o_sub, o_mul, o_div, o_mod, o_shl, o_shr, o_band, o_neg, o_addL, o_addT, mulB1, i01, x_list, x_tup, x_p0, x_p1, s_list, s_tup, r_list, lt_list, lt_tup, ls_list, q_lenL, q_lenT, q_tupL, q_tupT, q_listL, q_listT, q_all, q_any, q_sum, q_max, q_min, q_int, q_abs, g_rng, toI_en, lcW_en, lcM_all, lcM_if, lcM_gd, List.map_id', List.all_map, List.any_map, Bool.not_true, Bool.not_false, List.length_map, ii_and, ii_or, Option.getD_some, List.isEmpty_map, isEmpty_filterB, Function.comp_def, id_eq, bo_sset, ar_sset, e_sset, sset_en, ssetL_en, bo_meth, bo_disp, ar_meth, ar_disp, e_meth, e_disp, vp_nil, vp_cons, vi_enum, vi_enumf, vi_rng3, x_dct, c_inD, c_ninD, s_dct, isL_d, q_lenD, q_listD, d_int, d_tu, d_pair, enum_en, index_en, mOk_l, od_1, od_2, false_implies, Bool.and_true, and_true, implies_true, forall_const, ite_some, s_lst, x_frz, frz_o, frz_h, frz_s, Option.getD_none, Int.one_mul, forW_en, gd_ff, sz_lt, List.append_nil, List.nil_append, Bool.not_not, t0_en, l0_en]
      rw [e2, hy]
      simp only [rt_ap]
      rw [n0]
      simp only [wbo_var, ar_var, bo_cst, bo_bin, bo_neg, bo_not, bo_and, bo_or, bo_cmp, bo_chain, bo_ife, bo_tup, bo_lst, bo_dnew, bo_idx, bo_slc, bo_rev, bo_call, bo_prim, bo_isi, bo_lc, bo_rg, sh_rt, sh_gd, sh_bd, ar_cst, ar_bin, ar_neg, ar_not, ar_and, ar_or, ar_cmp, ar_chain, ar_ife, ar_tup, ar_lst, ar_dnew, ar_idx, ar_slc, ar_rev, ar_call, ar_prim, ar_isi, ar_lc, ar_rg, e_var, e_cst, e_bin, e_neg, e_not, e_and, e_or, e_cmp, e_chain, e_ife, e_tup, e_lst, e_dnew, e_idx, e_slc, e_rev, e_call, e_prim, e_isi, e_lc, e_rg, wt_and, wt_or, wt_not, wt_e, vs_nil, vs_cons, vs_star, vb_nil, vb_cons, va_nil, va_cons, vo_no, vo_yes, vc_no, vc_yes, vi_val, vi_valf, vi_rng, vi_zip, vi_zipf, getD_0, getD_s, a_v, a_p, Option.bind_some, x_nil, x_cons, x_ite, exec, koF, parW, sets_n, sets_c, rt_ap, bd_ap, gd_ap, ite_ap, bd_rt, rt_bd, bd_bd, bd_gd, gd_gd, gd_true, bd_ite, ite_rt, ite_gd1, ite_gd2, lift_rt, b_and, b_and2, b_or, b_or2, ite_en, look_z, look_s, lookB_z, lookB_o, lookB_s, lookA_z, lookA_c, lookA_s, lookO_o, lookO_s, List.getElem?_cons_zero, List.getElem?_cons_succ, List.set_cons_zero, List.set_cons_succ, Bool.false_eq_true, if_false, if_true, wipeN_n, wipeN_c, free_n, free_c, nOwn_n, nOwn_s, nOwn_c, Bool.true_and, true_and, List.length_cons, List.length_nil, Nat.zero_add, Nat.reduceAdd, Nat.reduceLeDiff, sz, i_en, b_en, l_en, t_en, tl_en, p_en, l1_en, t1_en, snoc_en, app_en, isL_l, c_eq, c_ne, c_inL, c_inT, c_ninL, c_ninT, c_eqE, c_neE, c_eqU, c_neU, c_lt, c_gt, c_le, c_ge, dp_int, dp_bool, dp_unit, dp_list, dp_tu, dp_pair, Nat.max_self, tr_b, tr_i, tr_l, tr_t, o_add, o_sub, o_mul, o_div, o_mod, o_shl, o_shr, o_band, o_neg, o_addL, o_addT, mulB1, i01, x_list, x_tup, x_p0, x_p1, s_list, s_tup, r_list, lt_list, lt_tup, ls_list, q_lenL, q_lenT, q_tupL, q_tupT, q_listL, q_listT, q_all, q_any, q_sum, q_max, q_min, q_int, q_abs, g_rng, toI_en, lcW_en, lcM_all, lcM_if, lcM_gd, List.map_id', List.all_map, List.any_map, Bool.not_true, Bool.not_false, List.length_map, ii_and, ii_or, Option.getD_some, List.isEmpty_map, isEmpty_filterB, Function.comp_def, id_eq, bo_sset, ar_sset, e_sset, sset_en, ssetL_en, bo_meth, bo_disp, ar_meth, ar_disp, e_meth, e_disp, vp_nil, vp_cons, vi_enum, vi_enumf, vi_rng3, x_dct, c_inD, c_ninD, s_dct, isL_d, q_lenD, q_listD, d_int, d_tu, d_pair, enum_en, index_en, mOk_l, od_1, od_2, false_implies, Bool.and_true, and_true, implies_true, forall_const, ite_some, s_lst, x_frz, frz_o, frz_h, frz_s, Option.getD_none, Int.one_mul, forW_en, gd_ff, sz_lt, List.append_nil, List.nil_append, Bool.not_not, t0_en, l0_en]
      exact hK2 _ ⟨_, rfl⟩
    · rintro ρ ⟨x2, rfl⟩
      exact hK _ ⟨_, _, rfl⟩
  · rintro ρ ⟨x1, x2, rfl⟩
    exact q
theorem s_down (hn : n ≤ 8) (q : Q (en (srtL ((lotsL (rg n)).filter fun l => ps.all fun p => !(mb p.2 l.l && !mb p.1 l.l))))) : CG (k + 4) 21 [.sh (en (od n ps))] Q := by
  unfold CG; rw [hd21 rfl]
  unfold b21
  simp only [wbo_var, ar_var, bo_cst, bo_bin, bo_neg, bo_not, bo_and, bo_or, bo_cmp, bo_chain, bo_ife, bo_tup, bo_lst, bo_dnew, bo_idx, bo_slc, bo_rev, bo_call, bo_prim, bo_isi, bo_lc, bo_rg, sh_rt, sh_gd, sh_bd, ar_cst, ar_bin, ar_neg, ar_not, ar_and, ar_or, ar_cmp, ar_chain, ar_ife, ar_tup, ar_lst, ar_dnew, ar_idx, ar_slc, ar_rev, ar_call, ar_prim, ar_isi, ar_lc, ar_rg, e_var, e_cst, e_bin, e_neg, e_not, e_and, e_or, e_cmp, e_chain, e_ife, e_tup, e_lst, e_dnew, e_idx, e_slc, e_rev, e_call, e_prim, e_isi, e_lc, e_rg, wt_and, wt_or, wt_not, wt_e, vs_nil, vs_cons, vs_star, vb_nil, vb_cons, va_nil, va_cons, vo_no, vo_yes, vc_no, vc_yes, vi_val, vi_valf, vi_rng, vi_zip, vi_zipf, getD_0, getD_s, a_v, a_p, Option.bind_some, x_nil, x_cons, x_ite, exec, koF, parW, sets_n, sets_c, rt_ap, bd_ap, gd_ap, ite_ap, bd_rt, rt_bd, bd_bd, bd_gd, gd_gd, gd_true, bd_ite, ite_rt, ite_gd1, ite_gd2, lift_rt, b_and, b_and2, b_or, b_or2, ite_en, look_z, look_s, lookB_z, lookB_o, lookB_s, lookA_z, lookA_c, lookA_s, lookO_o, lookO_s, List.getElem?_cons_zero, List.getElem?_cons_succ, List.set_cons_zero, List.set_cons_succ, Bool.false_eq_true, if_false, if_true, wipeN_n, wipeN_c, free_n, free_c, nOwn_n, nOwn_s, nOwn_c, Bool.true_and, true_and, List.length_cons, List.length_nil, Nat.zero_add, Nat.reduceAdd, Nat.reduceLeDiff, sz, i_en, b_en, l_en, t_en, tl_en, p_en, l1_en, t1_en, snoc_en, app_en, isL_l, c_eq, c_ne, c_inL, c_inT, c_ninL, c_ninT, c_eqE, c_neE, c_eqU, c_neU, c_lt, c_gt, c_le, c_ge, dp_int, dp_bool, dp_unit, dp_list, dp_tu, dp_pair, Nat.max_self, tr_b, tr_i, tr_l, tr_t, o_add, o_sub, o_mul, o_div, o_mod, o_shl, o_shr, o_band, o_neg, o_addL, o_addT, mulB1, i01, x_list, x_tup, x_p0, x_p1, s_list, s_tup, r_list, lt_list, lt_tup, ls_list, q_lenL, q_lenT, q_tupL, q_tupT, q_listL, q_listT, q_all, q_any, q_sum, q_max, q_min, q_int, q_abs, g_rng, toI_en, lcW_en, lcM_all, lcM_if, lcM_gd, List.map_id', List.all_map, List.any_map, Bool.not_true, Bool.not_false, List.length_map, ii_and, ii_or, Option.getD_some, List.isEmpty_map, isEmpty_filterB, Function.comp_def, id_eq, bo_sset, ar_sset, e_sset, sset_en, ssetL_en, bo_meth, bo_disp, ar_meth, ar_disp, e_meth, e_disp, vp_nil, vp_cons, vi_enum, vi_enumf, vi_rng3, x_dct, c_inD, c_ninD, s_dct, isL_d, q_lenD, q_listD, d_int, d_tu, d_pair, enum_en, index_en, mOk_l, od_1, od_2, false_implies, Bool.and_true, and_true, implies_true, forall_const, ite_some, s_lst, x_frz, frz_o, frz_h, frz_s, Option.getD_none, Int.one_mul, forW_en, gd_ff, sz_lt, List.append_nil, List.nil_append, Bool.not_not, t0_en, l0_en]
  refine ⟨rfl, s_lots (k := k + 2) (by omega) ?_⟩
  rw [mtE (α := Szd)]
  simp only [wbo_var, ar_var, bo_cst, bo_bin, bo_neg, bo_not, bo_and, bo_or, bo_cmp, bo_chain, bo_ife, bo_tup, bo_lst, bo_dnew, bo_idx, bo_slc, bo_rev, bo_call, bo_prim, bo_isi, bo_lc, bo_rg, sh_rt, sh_gd, sh_bd, ar_cst, ar_bin, ar_neg, ar_not, ar_and, ar_or, ar_cmp, ar_chain, ar_ife, ar_tup, ar_lst, ar_dnew, ar_idx, ar_slc, ar_rev, ar_call, ar_prim, ar_isi, ar_lc, ar_rg, e_var, e_cst, e_bin, e_neg, e_not, e_and, e_or, e_cmp, e_chain, e_ife, e_tup, e_lst, e_dnew, e_idx, e_slc, e_rev, e_call, e_prim, e_isi, e_lc, e_rg, wt_and, wt_or, wt_not, wt_e, vs_nil, vs_cons, vs_star, vb_nil, vb_cons, va_nil, va_cons, vo_no, vo_yes, vc_no, vc_yes, vi_val, vi_valf, vi_rng, vi_zip, vi_zipf, getD_0, getD_s, a_v, a_p, Option.bind_some, x_nil, x_cons, x_ite, exec, koF, parW, sets_n, sets_c, rt_ap, bd_ap, gd_ap, ite_ap, bd_rt, rt_bd, bd_bd, bd_gd, gd_gd, gd_true, bd_ite, ite_rt, ite_gd1, ite_gd2, lift_rt, b_and, b_and2, b_or, b_or2, ite_en, look_z, look_s, lookB_z, lookB_o, lookB_s, lookA_z, lookA_c, lookA_s, lookO_o, lookO_s, List.getElem?_cons_zero, List.getElem?_cons_succ, List.set_cons_zero, List.set_cons_succ, Bool.false_eq_true, if_false, if_true, wipeN_n, wipeN_c, free_n, free_c, nOwn_n, nOwn_s, nOwn_c, Bool.true_and, true_and, List.length_cons, List.length_nil, Nat.zero_add, Nat.reduceAdd, Nat.reduceLeDiff, sz, i_en, b_en, l_en, t_en, tl_en, p_en, l1_en, t1_en, snoc_en, app_en, isL_l, c_eq, c_ne, c_inL, c_inT, c_ninL, c_ninT, c_eqE, c_neE, c_eqU, c_neU, c_lt, c_gt, c_le, c_ge, dp_int, dp_bool, dp_unit, dp_list, dp_tu, dp_pair, Nat.max_self, tr_b, tr_i, tr_l, tr_t, o_add, o_sub, o_mul, o_div, o_mod, o_shl, o_shr, o_band, o_neg, o_addL, o_addT, mulB1, i01, x_list, x_tup, x_p0, x_p1, s_list, s_tup, r_list, lt_list, lt_tup, ls_list, q_lenL, q_lenT, q_tupL, q_tupT, q_listL, q_listT, q_all, q_any, q_sum, q_max, q_min, q_int, q_abs, g_rng, toI_en, lcW_en, lcM_all, lcM_if, lcM_gd, List.map_id', List.all_map, List.any_map, Bool.not_true, Bool.not_false, List.length_map, ii_and, ii_or, Option.getD_some, List.isEmpty_map, isEmpty_filterB, Function.comp_def, id_eq, bo_sset, ar_sset, e_sset, sset_en, ssetL_en, bo_meth, bo_disp, ar_meth, ar_disp, e_meth, e_disp, vp_nil, vp_cons, vi_enum, vi_enumf, vi_rng3, x_dct, c_inD, c_ninD, s_dct, isL_d, q_lenD, q_listD, d_int, d_tu, d_pair, enum_en, index_en, mOk_l, od_1, od_2, false_implies, Bool.and_true, and_true, implies_true, forall_const, ite_some, s_lst, x_frz, frz_o, frz_h, frz_s, Option.getD_none, Int.one_mul, forW_en, gd_ff, sz_lt, List.append_nil, List.nil_append, Bool.not_not, t0_en, l0_en]
  refine forL_inv (fun done ρ => ∃ (s : List Szd) (x2 : Option B), ρ = [some (.sh (en (od n ps))), some (.own (en s)), x2, none, none, none] ∧ nOwn (some x2) = true ∧ s = (done.filter fun l => ps.all fun p => !(mb p.2 l.l && !mb p.1 l.l)).map szd) (done := []) ⟨[], none, rfl, rfl, rfl⟩ ?_ ?_
  · rintro done l r ρ e ⟨s, x2, rfl, _, es⟩ K hK
    have hdl : done.length < 256 := by
      have := congrArg List.length (show lotsL (rg n) = done ++ l :: r from e)
      rw [List.length_append, List.length_cons] at this
      have h2 : (lotsL (rg n)).length ≤ 256 := by
        rw [lotsL_len, rg_len]; exact Nat.pow_le_pow_right (by decide) hn
      omega
    have hs : s.length ≤ done.length := by
      rw [es, List.length_map]; exact List.length_filter_le _ _
    have ea : (!ps.any fun a => mb a.2 l.l && !mb a.1 l.l) = ps.all fun p => !(mb p.2 l.l && !mb p.1 l.l) := by
      rw [List.all_eq_not_any_not]; simp
    unfold b21_1 b21_0
    simp only [wbo_var, ar_var, bo_cst, bo_bin, bo_neg, bo_not, bo_and, bo_or, bo_cmp, bo_chain, bo_ife, bo_tup, bo_lst, bo_dnew, bo_idx, bo_slc, bo_rev, bo_call, bo_prim, bo_isi, bo_lc, bo_rg, sh_rt, sh_gd, sh_bd, ar_cst, ar_bin, ar_neg, ar_not, ar_and, ar_or, ar_cmp, ar_chain, ar_ife, ar_tup, ar_lst, ar_dnew, ar_idx, ar_slc, ar_rev, ar_call, ar_prim, ar_isi, ar_lc, ar_rg, e_var, e_cst, e_bin, e_neg, e_not, e_and, e_or, e_cmp, e_chain, e_ife, e_tup, e_lst, e_dnew, e_idx, e_slc, e_rev, e_call, e_prim, e_isi, e_lc, e_rg, wt_and, wt_or, wt_not, wt_e, vs_nil, vs_cons, vs_star, vb_nil, vb_cons, va_nil, va_cons, vo_no, vo_yes, vc_no, vc_yes, vi_val, vi_valf, vi_rng, vi_zip, vi_zipf, getD_0, getD_s, a_v, a_p, Option.bind_some, x_nil, x_cons, x_ite, exec, koF, parW, sets_n, sets_c, rt_ap, bd_ap, gd_ap, ite_ap, bd_rt, rt_bd, bd_bd, bd_gd, gd_gd, gd_true, bd_ite, ite_rt, ite_gd1, ite_gd2, lift_rt, b_and, b_and2, b_or, b_or2, ite_en, look_z, look_s, lookB_z, lookB_o, lookB_s, lookA_z, lookA_c, lookA_s, lookO_o, lookO_s, List.getElem?_cons_zero, List.getElem?_cons_succ, List.set_cons_zero, List.set_cons_succ, Bool.false_eq_true, if_false, if_true, wipeN_n, wipeN_c, free_n, free_c, nOwn_n, nOwn_s, nOwn_c, Bool.true_and, true_and, List.length_cons, List.length_nil, Nat.zero_add, Nat.reduceAdd, Nat.reduceLeDiff, sz, i_en, b_en, l_en, t_en, tl_en, p_en, l1_en, t1_en, snoc_en, app_en, isL_l, c_eq, c_ne, c_inL, c_inT, c_ninL, c_ninT, c_eqE, c_neE, c_eqU, c_neU, c_lt, c_gt, c_le, c_ge, dp_int, dp_bool, dp_unit, dp_list, dp_tu, dp_pair, Nat.max_self, tr_b, tr_i, tr_l, tr_t, o_add, o_sub, o_mul, o_div, o_mod, o_shl, o_shr, o_band, o_neg, o_addL, o_addT, mulB1, i01, x_list, x_tup, x_p0, x_p1, s_list, s_tup, r_list, lt_list, lt_tup, ls_list, q_lenL, q_lenT, q_tupL, q_tupT, q_listL, q_listT, q_all, q_any, q_sum, q_max, q_min, q_int, q_abs, g_rng, toI_en, lcW_en, lcM_all, lcM_if, lcM_gd, List.map_id', List.all_map, List.any_map, Bool.not_true, Bool.not_false, List.length_map, ii_and, ii_or, Option.getD_some, List.isEmpty_map, isEmpty_filterB, Function.comp_def, id_eq, bo_sset, ar_sset, e_sset, sset_en, ssetL_en, bo_meth, bo_disp, ar_meth, ar_disp, e_meth, e_disp, vp_nil, vp_cons, vi_enum, vi_enumf, vi_rng3, x_dct, c_inD, c_ninD, s_dct, isL_d, q_lenD, q_listD, d_int, d_tu, d_pair, enum_en, index_en, mOk_l, od_1, od_2, false_implies, Bool.and_true, and_true, implies_true, forall_const, ite_some, s_lst, x_frz, frz_o, frz_h, frz_s, Option.getD_none, Int.one_mul, forW_en, gd_ff, sz_lt, List.append_nil, List.nil_append, Bool.not_not, t0_en, l0_en]
    rw [ea]
    split
    · rename_i h
      refine ⟨szl (by omega), hK _ ⟨_, _, rfl, rfl, ?_⟩⟩
      rw [List.filter_append, List.map_append, ← es, List.filter_cons, if_pos h]; rfl
    · rename_i h
      refine hK _ ⟨_, _, rfl, rfl, ?_⟩
      rw [List.filter_append, List.map_append, ← es, List.filter_cons, if_neg h]; simp
  · rintro ρ ⟨s, x2, rfl, h2, es⟩
    unfold b21_2
    simp only [wbo_var, ar_var, bo_cst, bo_bin, bo_neg, bo_not, bo_and, bo_or, bo_cmp, bo_chain, bo_ife, bo_tup, bo_lst, bo_dnew, bo_idx, bo_slc, bo_rev, bo_call, bo_prim, bo_isi, bo_lc, bo_rg, sh_rt, sh_gd, sh_bd, ar_cst, ar_bin, ar_neg, ar_not, ar_and, ar_or, ar_cmp, ar_chain, ar_ife, ar_tup, ar_lst, ar_dnew, ar_idx, ar_slc, ar_rev, ar_call, ar_prim, ar_isi, ar_lc, ar_rg, e_var, e_cst, e_bin, e_neg, e_not, e_and, e_or, e_cmp, e_chain, e_ife, e_tup, e_lst, e_dnew, e_idx, e_slc, e_rev, e_call, e_prim, e_isi, e_lc, e_rg, wt_and, wt_or, wt_not, wt_e, vs_nil, vs_cons, vs_star, vb_nil, vb_cons, va_nil, va_cons, vo_no, vo_yes, vc_no, vc_yes, vi_val, vi_valf, vi_rng, vi_zip, vi_zipf, getD_0, getD_s, a_v, a_p, Option.bind_some, x_nil, x_cons, x_ite, exec, koF, parW, sets_n, sets_c, rt_ap, bd_ap, gd_ap, ite_ap, bd_rt, rt_bd, bd_bd, bd_gd, gd_gd, gd_true, bd_ite, ite_rt, ite_gd1, ite_gd2, lift_rt, b_and, b_and2, b_or, b_or2, ite_en, look_z, look_s, lookB_z, lookB_o, lookB_s, lookA_z, lookA_c, lookA_s, lookO_o, lookO_s, List.getElem?_cons_zero, List.getElem?_cons_succ, List.set_cons_zero, List.set_cons_succ, Bool.false_eq_true, if_false, if_true, wipeN_n, wipeN_c, free_n, free_c, nOwn_n, nOwn_s, nOwn_c, Bool.true_and, true_and, List.length_cons, List.length_nil, Nat.zero_add, Nat.reduceAdd, Nat.reduceLeDiff, sz, i_en, b_en, l_en, t_en, tl_en, p_en, l1_en, t1_en, snoc_en, app_en, isL_l, c_eq, c_ne, c_inL, c_inT, c_ninL, c_ninT, c_eqE, c_neE, c_eqU, c_neU, c_lt, c_gt, c_le, c_ge, dp_int, dp_bool, dp_unit, dp_list, dp_tu, dp_pair, Nat.max_self, tr_b, tr_i, tr_l, tr_t, o_add, o_sub, o_mul, o_div, o_mod, o_shl, o_shr, o_band, o_neg, o_addL, o_addT, mulB1, i01, x_list, x_tup, x_p0, x_p1, s_list, s_tup, r_list, lt_list, lt_tup, ls_list, q_lenL, q_lenT, q_tupL, q_tupT, q_listL, q_listT, q_all, q_any, q_sum, q_max, q_min, q_int, q_abs, g_rng, toI_en, lcW_en, lcM_all, lcM_if, lcM_gd, List.map_id', List.all_map, List.any_map, Bool.not_true, Bool.not_false, List.length_map, ii_and, ii_or, Option.getD_some, List.isEmpty_map, isEmpty_filterB, Function.comp_def, id_eq, bo_sset, ar_sset, e_sset, sset_en, ssetL_en, bo_meth, bo_disp, ar_meth, ar_disp, e_meth, e_disp, vp_nil, vp_cons, vi_enum, vi_enumf, vi_rng3, x_dct, c_inD, c_ninD, s_dct, isL_d, q_lenD, q_listD, d_int, d_tu, d_pair, enum_en, index_en, mOk_l, od_1, od_2, false_implies, Bool.and_true, and_true, implies_true, forall_const, ite_some, s_lst, x_frz, frz_o, frz_h, frz_s, Option.getD_none, Int.one_mul, forW_en, gd_ff, sz_lt, List.append_nil, List.nil_append, Bool.not_not, t0_en, l0_en]
    rw [q_sortS _ fun x _ => dep_szd x]
    simp only [wbo_var, ar_var, bo_cst, bo_bin, bo_neg, bo_not, bo_and, bo_or, bo_cmp, bo_chain, bo_ife, bo_tup, bo_lst, bo_dnew, bo_idx, bo_slc, bo_rev, bo_call, bo_prim, bo_isi, bo_lc, bo_rg, sh_rt, sh_gd, sh_bd, ar_cst, ar_bin, ar_neg, ar_not, ar_and, ar_or, ar_cmp, ar_chain, ar_ife, ar_tup, ar_lst, ar_dnew, ar_idx, ar_slc, ar_rev, ar_call, ar_prim, ar_isi, ar_lc, ar_rg, e_var, e_cst, e_bin, e_neg, e_not, e_and, e_or, e_cmp, e_chain, e_ife, e_tup, e_lst, e_dnew, e_idx, e_slc, e_rev, e_call, e_prim, e_isi, e_lc, e_rg, wt_and, wt_or, wt_not, wt_e, vs_nil, vs_cons, vs_star, vb_nil, vb_cons, va_nil, va_cons, vo_no, vo_yes, vc_no, vc_yes, vi_val, vi_valf, vi_rng, vi_zip, vi_zipf, getD_0, getD_s, a_v, a_p, Option.bind_some, x_nil, x_cons, x_ite, exec, koF, parW, sets_n, sets_c, rt_ap, bd_ap, gd_ap, ite_ap, bd_rt, rt_bd, bd_bd, bd_gd, gd_gd, gd_true, bd_ite, ite_rt, ite_gd1, ite_gd2, lift_rt, b_and, b_and2, b_or, b_or2, ite_en, look_z, look_s, lookB_z, lookB_o, lookB_s, lookA_z, lookA_c, lookA_s, lookO_o, lookO_s, List.getElem?_cons_zero, List.getElem?_cons_succ, List.set_cons_zero, List.set_cons_succ, Bool.false_eq_true, if_false, if_true, wipeN_n, wipeN_c, free_n, free_c, nOwn_n, nOwn_s, nOwn_c, Bool.true_and, true_and, List.length_cons, List.length_nil, Nat.zero_add, Nat.reduceAdd, Nat.reduceLeDiff, sz, i_en, b_en, l_en, t_en, tl_en, p_en, l1_en, t1_en, snoc_en, app_en, isL_l, c_eq, c_ne, c_inL, c_inT, c_ninL, c_ninT, c_eqE, c_neE, c_eqU, c_neU, c_lt, c_gt, c_le, c_ge, dp_int, dp_bool, dp_unit, dp_list, dp_tu, dp_pair, Nat.max_self, tr_b, tr_i, tr_l, tr_t, o_add, o_sub, o_mul, o_div, o_mod, o_shl, o_shr, o_band, o_neg, o_addL, o_addT, mulB1, i01, x_list, x_tup, x_p0, x_p1, s_list, s_tup, r_list, lt_list, lt_tup, ls_list, q_lenL, q_lenT, q_tupL, q_tupT, q_listL, q_listT, q_all, q_any, q_sum, q_max, q_min, q_int, q_abs, g_rng, toI_en, lcW_en, lcM_all, lcM_if, lcM_gd, List.map_id', List.all_map, List.any_map, Bool.not_true, Bool.not_false, List.length_map, ii_and, ii_or, Option.getD_some, List.isEmpty_map, isEmpty_filterB, Function.comp_def, id_eq, bo_sset, ar_sset, e_sset, sset_en, ssetL_en, bo_meth, bo_disp, ar_meth, ar_disp, e_meth, e_disp, vp_nil, vp_cons, vi_enum, vi_enumf, vi_rng3, x_dct, c_inD, c_ninD, s_dct, isL_d, q_lenD, q_listD, d_int, d_tu, d_pair, enum_en, index_en, mOk_l, od_1, od_2, false_implies, Bool.and_true, and_true, implies_true, forall_const, ite_some, s_lst, x_frz, frz_o, frz_h, frz_s, Option.getD_none, Int.one_mul, forW_en, gd_ff, sz_lt, List.append_nil, List.nil_append, Bool.not_not, t0_en, l0_en]
    refine ⟨h2, ?_⟩
    rw [es]
    exact q
/-- one who stands elsewhere: as told, by f -/
def stB (n : Nat) (ps L : List (Int × Int)) (f : Int → Int) : Bool := (rg n).all fun a => (rg n).all fun b => decide (a = b) || (!decide (f a = f b) && (mb (a, b) ps == mb (f a, f b) L))
theorem stB_bad {f : Int → Int} {a b : Int} (ha : a ∈ rg n) (hb : b ∈ rg n) (h : (decide (a = b) || (!decide (f a = f b) && (mb (a, b) ps == mb (f a, f b) L))) = false) : stB n ps L f = false := by
  unfold stB
  rw [← Bool.not_eq_true, List.all_eq_true]
  intro z
  have := List.all_eq_true.mp (z a ha) b hb
  rw [h] at this
  cases this
theorem st_conv {ab X Y Z : Bool} (hab : ab = false) : (ab || (!X && (Y == Z))) = !(X || !decide (Y = Z)) := by
  subst hab; cases X <;> cases Y <;> cases Z <;> rfl
theorem s_stands {f : Int → Int} {pl : Tu Int} (hn : n ≤ 1000) (hl : pl.l.length = n) (hf : ∀ a ∈ rg n, pix pl.l a = f a) (q : Q (en (stB n ps L f))) : CG (k + 1) 9 [.sh (en (od n ps)), .sh (en (od m L)), .sh (en pl)] Q := by
  unfold CG; rw [hd9 rfl rfl rfl]
  unfold b9
  simp only [wbo_var, ar_var, bo_cst, bo_bin, bo_neg, bo_not, bo_and, bo_or, bo_cmp, bo_chain, bo_ife, bo_tup, bo_lst, bo_dnew, bo_idx, bo_slc, bo_rev, bo_call, bo_prim, bo_isi, bo_lc, bo_rg, sh_rt, sh_gd, sh_bd, ar_cst, ar_bin, ar_neg, ar_not, ar_and, ar_or, ar_cmp, ar_chain, ar_ife, ar_tup, ar_lst, ar_dnew, ar_idx, ar_slc, ar_rev, ar_call, ar_prim, ar_isi, ar_lc, ar_rg, e_var, e_cst, e_bin, e_neg, e_not, e_and, e_or, e_cmp, e_chain, e_ife, e_tup, e_lst, e_dnew, e_idx, e_slc, e_rev, e_call, e_prim, e_isi, e_lc, e_rg, wt_and, wt_or, wt_not, wt_e, vs_nil, vs_cons, vs_star, vb_nil, vb_cons, va_nil, va_cons, vo_no, vo_yes, vc_no, vc_yes, vi_val, vi_valf, vi_rng, vi_zip, vi_zipf, getD_0, getD_s, a_v, a_p, Option.bind_some, x_nil, x_cons, x_ite, exec, koF, parW, sets_n, sets_c, rt_ap, bd_ap, gd_ap, ite_ap, bd_rt, rt_bd, bd_bd, bd_gd, gd_gd, gd_true, bd_ite, ite_rt, ite_gd1, ite_gd2, lift_rt, b_and, b_and2, b_or, b_or2, ite_en, look_z, look_s, lookB_z, lookB_o, lookB_s, lookA_z, lookA_c, lookA_s, lookO_o, lookO_s, List.getElem?_cons_zero, List.getElem?_cons_succ, List.set_cons_zero, List.set_cons_succ, Bool.false_eq_true, if_false, if_true, wipeN_n, wipeN_c, free_n, free_c, nOwn_n, nOwn_s, nOwn_c, Bool.true_and, true_and, List.length_cons, List.length_nil, Nat.zero_add, Nat.reduceAdd, Nat.reduceLeDiff, sz, i_en, b_en, l_en, t_en, tl_en, p_en, l1_en, t1_en, snoc_en, app_en, isL_l, c_eq, c_ne, c_inL, c_inT, c_ninL, c_ninT, c_eqE, c_neE, c_eqU, c_neU, c_lt, c_gt, c_le, c_ge, dp_int, dp_bool, dp_unit, dp_list, dp_tu, dp_pair, Nat.max_self, tr_b, tr_i, tr_l, tr_t, o_add, o_sub, o_mul, o_div, o_mod, o_shl, o_shr, o_band, o_neg, o_addL, o_addT, mulB1, i01, x_list, x_tup, x_p0, x_p1, s_list, s_tup, r_list, lt_list, lt_tup, ls_list, q_lenL, q_lenT, q_tupL, q_tupT, q_listL, q_listT, q_all, q_any, q_sum, q_max, q_min, q_int, q_abs, g_rng, toI_en, lcW_en, lcM_all, lcM_if, lcM_gd, List.map_id', List.all_map, List.any_map, Bool.not_true, Bool.not_false, List.length_map, ii_and, ii_or, Option.getD_some, List.isEmpty_map, isEmpty_filterB, Function.comp_def, id_eq, bo_sset, ar_sset, e_sset, sset_en, ssetL_en, bo_meth, bo_disp, ar_meth, ar_disp, e_meth, e_disp, vp_nil, vp_cons, vi_enum, vi_enumf, vi_rng3, x_dct, c_inD, c_ninD, s_dct, isL_d, q_lenD, q_listD, d_int, d_tu, d_pair, enum_en, index_en, mOk_l, od_1, od_2, false_implies, Bool.and_true, and_true, implies_true, forall_const, ite_some, s_lst, x_frz, frz_o, frz_h, frz_s, Option.getD_none, Int.one_mul, forW_en, gd_ff, sz_lt, List.append_nil, List.nil_append, Bool.not_not, t0_en, l0_en]
  refine ⟨rng_ok hn, ?_⟩
  rw [rgI_rg]
  refine forL_inv (fun done ρ => ∃ x3 x4 x5 x6, ρ = [some (.sh (en (od n ps))), some (.sh (en (od m L))), some (.sh (en pl)), x3, x4, x5, x6] ∧ ∀ a ∈ done, ∀ b ∈ rg n, (decide (a = b) || (!decide (f a = f b) && (mb (a, b) ps == mb (f a, f b) L))) = true) (done := []) ⟨none, none, none, none, rfl, by simp⟩ ?_ ?_
  · rintro done a r ρ e ⟨x3, x4, x5, x6, rfl, h1⟩ K hK
    have ha : a ∈ rg n := by rw [show rg n = done ++ a :: r from e]; simp
    have har := mem_rg.mp ha
    unfold b9_2
    simp only [wbo_var, ar_var, bo_cst, bo_bin, bo_neg, bo_not, bo_and, bo_or, bo_cmp, bo_chain, bo_ife, bo_tup, bo_lst, bo_dnew, bo_idx, bo_slc, bo_rev, bo_call, bo_prim, bo_isi, bo_lc, bo_rg, sh_rt, sh_gd, sh_bd, ar_cst, ar_bin, ar_neg, ar_not, ar_and, ar_or, ar_cmp, ar_chain, ar_ife, ar_tup, ar_lst, ar_dnew, ar_idx, ar_slc, ar_rev, ar_call, ar_prim, ar_isi, ar_lc, ar_rg, e_var, e_cst, e_bin, e_neg, e_not, e_and, e_or, e_cmp, e_chain, e_ife, e_tup, e_lst, e_dnew, e_idx, e_slc, e_rev, e_call, e_prim, e_isi, e_lc, e_rg, wt_and, wt_or, wt_not, wt_e, vs_nil, vs_cons, vs_star, vb_nil, vb_cons, va_nil, va_cons, vo_no, vo_yes, vc_no, vc_yes, vi_val, vi_valf, vi_rng, vi_zip, vi_zipf, getD_0, getD_s, a_v, a_p, Option.bind_some, x_nil, x_cons, x_ite, exec, koF, parW, sets_n, sets_c, rt_ap, bd_ap, gd_ap, ite_ap, bd_rt, rt_bd, bd_bd, bd_gd, gd_gd, gd_true, bd_ite, ite_rt, ite_gd1, ite_gd2, lift_rt, b_and, b_and2, b_or, b_or2, ite_en, look_z, look_s, lookB_z, lookB_o, lookB_s, lookA_z, lookA_c, lookA_s, lookO_o, lookO_s, List.getElem?_cons_zero, List.getElem?_cons_succ, List.set_cons_zero, List.set_cons_succ, Bool.false_eq_true, if_false, if_true, wipeN_n, wipeN_c, free_n, free_c, nOwn_n, nOwn_s, nOwn_c, Bool.true_and, true_and, List.length_cons, List.length_nil, Nat.zero_add, Nat.reduceAdd, Nat.reduceLeDiff, sz, i_en, b_en, l_en, t_en, tl_en, p_en, l1_en, t1_en, snoc_en, app_en, isL_l, c_eq, c_ne, c_inL, c_inT, c_ninL, c_ninT, c_eqE, c_neE, c_eqU, c_neU, c_lt, c_gt, c_le, c_ge, dp_int, dp_bool, dp_unit, dp_list, dp_tu, dp_pair, Nat.max_self, tr_b, tr_i, tr_l, tr_t, o_add, o_sub, o_mul, o_div, o_mod, o_shl, o_shr, o_band, o_neg, o_addL, o_addT, mulB1, i01, x_list, x_tup, x_p0, x_p1, s_list, s_tup, r_list, lt_list, lt_tup, ls_list, q_lenL, q_lenT, q_tupL, q_tupT, q_listL, q_listT, q_all, q_any, q_sum, q_max, q_min, q_int, q_abs, g_rng, toI_en, lcW_en, lcM_all, lcM_if, lcM_gd, List.map_id', List.all_map, List.any_map, Bool.not_true, Bool.not_false, List.length_map, ii_and, ii_or, Option.getD_some, List.isEmpty_map, isEmpty_filterB, Function.comp_def, id_eq, bo_sset, ar_sset, e_sset, sset_en, ssetL_en, bo_meth, bo_disp, ar_meth, ar_disp, e_meth, e_disp, vp_nil, vp_cons, vi_enum, vi_enumf, vi_rng3, x_dct, c_inD, c_ninD, s_dct, isL_d, q_lenD, q_listD, d_int, d_tu, d_pair, enum_en, index_en, mOk_l, od_1, od_2, false_implies, Bool.and_true, and_true, implies_true, forall_const, ite_some, s_lst, x_frz, frz_o, frz_h, frz_s, Option.getD_none, Int.one_mul, forW_en, gd_ff, sz_lt, List.append_nil, List.nil_append, Bool.not_not, t0_en, l0_en]
    refine ⟨rng_ok hn, ?_⟩
    rw [rgI_rg]
    refine forL_inv (fun d2 ρ => ∃ x4 x5 x6, ρ = [some (.sh (en (od n ps))), some (.sh (en (od m L))), some (.sh (en pl)), some (.sh (en a)), x4, x5, x6] ∧ ∀ b ∈ d2, (decide (a = b) || (!decide (f a = f b) && (mb (a, b) ps == mb (f a, f b) L))) = true) (done := []) ⟨x4, x5, x6, rfl, by simp⟩ ?_ ?_
    · rintro d2 b r ρ e ⟨x4, x5, x6, rfl, h2⟩ K2 hK2
      have hb : b ∈ rg n := by rw [show rg n = d2 ++ b :: r from e]; simp
      have hbr := mem_rg.mp hb
      have step : (decide (a = b) || (!decide (f a = f b) && (mb (a, b) ps == mb (f a, f b) L))) = true → ∀ c ∈ d2 ++ [b], (decide (a = c) || (!decide (f a = f c) && (mb (a, c) ps == mb (f a, f c) L))) = true := fun h c hc => by
        rcases List.mem_append.mp hc with hc | hc
        · exact h2 c hc
        · rw [List.mem_singleton.mp hc]; exact h
      unfold b9_1 b9_0
      simp only [wbo_var, ar_var, bo_cst, bo_bin, bo_neg, bo_not, bo_and, bo_or, bo_cmp, bo_chain, bo_ife, bo_tup, bo_lst, bo_dnew, bo_idx, bo_slc, bo_rev, bo_call, bo_prim, bo_isi, bo_lc, bo_rg, sh_rt, sh_gd, sh_bd, ar_cst, ar_bin, ar_neg, ar_not, ar_and, ar_or, ar_cmp, ar_chain, ar_ife, ar_tup, ar_lst, ar_dnew, ar_idx, ar_slc, ar_rev, ar_call, ar_prim, ar_isi, ar_lc, ar_rg, e_var, e_cst, e_bin, e_neg, e_not, e_and, e_or, e_cmp, e_chain, e_ife, e_tup, e_lst, e_dnew, e_idx, e_slc, e_rev, e_call, e_prim, e_isi, e_lc, e_rg, wt_and, wt_or, wt_not, wt_e, vs_nil, vs_cons, vs_star, vb_nil, vb_cons, va_nil, va_cons, vo_no, vo_yes, vc_no, vc_yes, vi_val, vi_valf, vi_rng, vi_zip, vi_zipf, getD_0, getD_s, a_v, a_p, Option.bind_some, x_nil, x_cons, x_ite, exec, koF, parW, sets_n, sets_c, rt_ap, bd_ap, gd_ap, ite_ap, bd_rt, rt_bd, bd_bd, bd_gd, gd_gd, gd_true, bd_ite, ite_rt, ite_gd1, ite_gd2, lift_rt, b_and, b_and2, b_or, b_or2, ite_en, look_z, look_s, lookB_z, lookB_o, lookB_s, lookA_z, lookA_c, lookA_s, lookO_o, lookO_s, List.getElem?_cons_zero, List.getElem?_cons_succ, List.set_cons_zero, List.set_cons_succ, Bool.false_eq_true, if_false, if_true, wipeN_n, wipeN_c, free_n, free_c, nOwn_n, nOwn_s, nOwn_c, Bool.true_and, true_and, List.length_cons, List.length_nil, Nat.zero_add, Nat.reduceAdd, Nat.reduceLeDiff, sz, i_en, b_en, l_en, t_en, tl_en, p_en, l1_en, t1_en, snoc_en, app_en, isL_l, c_eq, c_ne, c_inL, c_inT, c_ninL, c_ninT, c_eqE, c_neE, c_eqU, c_neU, c_lt, c_gt, c_le, c_ge, dp_int, dp_bool, dp_unit, dp_list, dp_tu, dp_pair, Nat.max_self, tr_b, tr_i, tr_l, tr_t, o_add, o_sub, o_mul, o_div, o_mod, o_shl, o_shr, o_band, o_neg, o_addL, o_addT, mulB1, i01, x_list, x_tup, x_p0, x_p1, s_list, s_tup, r_list, lt_list, lt_tup, ls_list, q_lenL, q_lenT, q_tupL, q_tupT, q_listL, q_listT, q_all, q_any, q_sum, q_max, q_min, q_int, q_abs, g_rng, toI_en, lcW_en, lcM_all, lcM_if, lcM_gd, List.map_id', List.all_map, List.any_map, Bool.not_true, Bool.not_false, List.length_map, ii_and, ii_or, Option.getD_some, List.isEmpty_map, isEmpty_filterB, Function.comp_def, id_eq, bo_sset, ar_sset, e_sset, sset_en, ssetL_en, bo_meth, bo_disp, ar_meth, ar_disp, e_meth, e_disp, vp_nil, vp_cons, vi_enum, vi_enumf, vi_rng3, x_dct, c_inD, c_ninD, s_dct, isL_d, q_lenD, q_listD, d_int, d_tu, d_pair, enum_en, index_en, mOk_l, od_1, od_2, false_implies, Bool.and_true, and_true, implies_true, forall_const, ite_some, s_lst, x_frz, frz_o, frz_h, frz_s, Option.getD_none, Int.one_mul, forW_en, gd_ff, sz_lt, List.append_nil, List.nil_append, Bool.not_not, t0_en, l0_en]
      rw [hf a ha, hf b hb]
      by_cases hab : a = b
      · rw [if_neg (by simp [hab])]
        exact hK2 _ ⟨_, _, _, rfl, step (by simp [hab])⟩
      · have ed : decide (a = b) = false := decide_eq_false hab
        rw [if_pos (by rw [ed]; rfl)]
        refine ⟨ixOk har.1 (by omega), ixOk hbr.1 (by omega), ?_⟩
        split
        · rename_i h
          rw [stB_bad ha hb (by rw [st_conv ed, h]; rfl)] at q
          exact q
        · rename_i h
          rw [Bool.not_eq_true] at h
          exact hK2 _ ⟨_, _, _, rfl, step (by rw [st_conv ed, h]; rfl)⟩
    · rintro ρ ⟨x4, x5, x6, rfl, h2⟩
      refine hK _ ⟨_, _, _, _, rfl, fun c hc => ?_⟩
      rcases List.mem_append.mp hc with hc | hc
      · exact h1 c hc
      · rw [List.mem_singleton.mp hc]; exact h2
  · rintro ρ ⟨x3, x4, x5, x6, rfl, h1⟩
    have : stB n ps L f = true := List.all_eq_true.mpr fun a ha => List.all_eq_true.mpr fun b hb => h1 a ha b hb
    rw [this] at q
    exact q
theorem s_lawStands {f : Int → Int} {P : D} (hn : n ≤ 1000) (hf : ∀ a ∈ rg n, lift (idxD P (en a)) = rt (en (f a))) (q : Q (en (stB n ps L f))) : CG (k + 1) 24 [.sh (en (od n ps)), .sh (en (od m L)), .sh P] Q := by
  unfold CG; rw [hd24 rfl rfl rfl]
  unfold b24
  simp only [wbo_var, ar_var, bo_cst, bo_bin, bo_neg, bo_not, bo_and, bo_or, bo_cmp, bo_chain, bo_ife, bo_tup, bo_lst, bo_dnew, bo_idx, bo_slc, bo_rev, bo_call, bo_prim, bo_isi, bo_lc, bo_rg, sh_rt, sh_gd, sh_bd, ar_cst, ar_bin, ar_neg, ar_not, ar_and, ar_or, ar_cmp, ar_chain, ar_ife, ar_tup, ar_lst, ar_dnew, ar_idx, ar_slc, ar_rev, ar_call, ar_prim, ar_isi, ar_lc, ar_rg, e_var, e_cst, e_bin, e_neg, e_not, e_and, e_or, e_cmp, e_chain, e_ife, e_tup, e_lst, e_dnew, e_idx, e_slc, e_rev, e_call, e_prim, e_isi, e_lc, e_rg, wt_and, wt_or, wt_not, wt_e, vs_nil, vs_cons, vs_star, vb_nil, vb_cons, va_nil, va_cons, vo_no, vo_yes, vc_no, vc_yes, vi_val, vi_valf, vi_rng, vi_zip, vi_zipf, getD_0, getD_s, a_v, a_p, Option.bind_some, x_nil, x_cons, x_ite, exec, koF, parW, sets_n, sets_c, rt_ap, bd_ap, gd_ap, ite_ap, bd_rt, rt_bd, bd_bd, bd_gd, gd_gd, gd_true, bd_ite, ite_rt, ite_gd1, ite_gd2, lift_rt, b_and, b_and2, b_or, b_or2, ite_en, look_z, look_s, lookB_z, lookB_o, lookB_s, lookA_z, lookA_c, lookA_s, lookO_o, lookO_s, List.getElem?_cons_zero, List.getElem?_cons_succ, List.set_cons_zero, List.set_cons_succ, Bool.false_eq_true, if_false, if_true, wipeN_n, wipeN_c, free_n, free_c, nOwn_n, nOwn_s, nOwn_c, Bool.true_and, true_and, List.length_cons, List.length_nil, Nat.zero_add, Nat.reduceAdd, Nat.reduceLeDiff, sz, i_en, b_en, l_en, t_en, tl_en, p_en, l1_en, t1_en, snoc_en, app_en, isL_l, c_eq, c_ne, c_inL, c_inT, c_ninL, c_ninT, c_eqE, c_neE, c_eqU, c_neU, c_lt, c_gt, c_le, c_ge, dp_int, dp_bool, dp_unit, dp_list, dp_tu, dp_pair, Nat.max_self, tr_b, tr_i, tr_l, tr_t, o_add, o_sub, o_mul, o_div, o_mod, o_shl, o_shr, o_band, o_neg, o_addL, o_addT, mulB1, i01, x_list, x_tup, x_p0, x_p1, s_list, s_tup, r_list, lt_list, lt_tup, ls_list, q_lenL, q_lenT, q_tupL, q_tupT, q_listL, q_listT, q_all, q_any, q_sum, q_max, q_min, q_int, q_abs, g_rng, toI_en, lcW_en, lcM_all, lcM_if, lcM_gd, List.map_id', List.all_map, List.any_map, Bool.not_true, Bool.not_false, List.length_map, ii_and, ii_or, Option.getD_some, List.isEmpty_map, isEmpty_filterB, Function.comp_def, id_eq, bo_sset, ar_sset, e_sset, sset_en, ssetL_en, bo_meth, bo_disp, ar_meth, ar_disp, e_meth, e_disp, vp_nil, vp_cons, vi_enum, vi_enumf, vi_rng3, x_dct, c_inD, c_ninD, s_dct, isL_d, q_lenD, q_listD, d_int, d_tu, d_pair, enum_en, index_en, mOk_l, od_1, od_2, false_implies, Bool.and_true, and_true, implies_true, forall_const, ite_some, s_lst, x_frz, frz_o, frz_h, frz_s, Option.getD_none, Int.one_mul, forW_en, gd_ff, sz_lt, List.append_nil, List.nil_append, Bool.not_not, t0_en, l0_en]
  refine ⟨rng_ok hn, ?_⟩
  rw [rgI_rg]
  refine forL_inv (fun done ρ => ∃ x3 x4, ρ = [some (.sh (en (od n ps))), some (.sh (en (od m L))), some (.sh P), x3, x4] ∧ nOwn (some x4) = true ∧ ∀ a ∈ done, ∀ b ∈ rg n, (decide (a = b) || (!decide (f a = f b) && (mb (a, b) ps == mb (f a, f b) L))) = true) (done := []) ⟨none, none, rfl, rfl, by simp⟩ ?_ ?_
  · rintro done a r ρ e ⟨x3, x4, rfl, h4, h1⟩ K hK
    have ha : a ∈ rg n := by rw [show rg n = done ++ a :: r from e]; simp
    have har := mem_rg.mp ha
    unfold b24_1
    simp only [wbo_var, ar_var, bo_cst, bo_bin, bo_neg, bo_not, bo_and, bo_or, bo_cmp, bo_chain, bo_ife, bo_tup, bo_lst, bo_dnew, bo_idx, bo_slc, bo_rev, bo_call, bo_prim, bo_isi, bo_lc, bo_rg, sh_rt, sh_gd, sh_bd, ar_cst, ar_bin, ar_neg, ar_not, ar_and, ar_or, ar_cmp, ar_chain, ar_ife, ar_tup, ar_lst, ar_dnew, ar_idx, ar_slc, ar_rev, ar_call, ar_prim, ar_isi, ar_lc, ar_rg, e_var, e_cst, e_bin, e_neg, e_not, e_and, e_or, e_cmp, e_chain, e_ife, e_tup, e_lst, e_dnew, e_idx, e_slc, e_rev, e_call, e_prim, e_isi, e_lc, e_rg, wt_and, wt_or, wt_not, wt_e, vs_nil, vs_cons, vs_star, vb_nil, vb_cons, va_nil, va_cons, vo_no, vo_yes, vc_no, vc_yes, vi_val, vi_valf, vi_rng, vi_zip, vi_zipf, getD_0, getD_s, a_v, a_p, Option.bind_some, x_nil, x_cons, x_ite, exec, koF, parW, sets_n, sets_c, rt_ap, bd_ap, gd_ap, ite_ap, bd_rt, rt_bd, bd_bd, bd_gd, gd_gd, gd_true, bd_ite, ite_rt, ite_gd1, ite_gd2, lift_rt, b_and, b_and2, b_or, b_or2, ite_en, look_z, look_s, lookB_z, lookB_o, lookB_s, lookA_z, lookA_c, lookA_s, lookO_o, lookO_s, List.getElem?_cons_zero, List.getElem?_cons_succ, List.set_cons_zero, List.set_cons_succ, Bool.false_eq_true, if_false, if_true, wipeN_n, wipeN_c, free_n, free_c, nOwn_n, nOwn_s, nOwn_c, Bool.true_and, true_and, List.length_cons, List.length_nil, Nat.zero_add, Nat.reduceAdd, Nat.reduceLeDiff, sz, i_en, b_en, l_en, t_en, tl_en, p_en, l1_en, t1_en, snoc_en, app_en, isL_l, c_eq, c_ne, c_inL, c_inT, c_ninL, c_ninT, c_eqE, c_neE, c_eqU, c_neU, c_lt, c_gt, c_le, c_ge, dp_int, dp_bool, dp_unit, dp_list, dp_tu, dp_pair, Nat.max_self, tr_b, tr_i, tr_l, tr_t, o_add, o_sub, o_mul, o_div, o_mod, o_shl, o_shr, o_band, o_neg, o_addL, o_addT, mulB1, i01, x_list, x_tup, x_p0, x_p1, s_list, s_tup, r_list, lt_list, lt_tup, ls_list, q_lenL, q_lenT, q_tupL, q_tupT, q_listL, q_listT, q_all, q_any, q_sum, q_max, q_min, q_int, q_abs, g_rng, toI_en, lcW_en, lcM_all, lcM_if, lcM_gd, List.map_id', List.all_map, List.any_map, Bool.not_true, Bool.not_false, List.length_map, ii_and, ii_or, Option.getD_some, List.isEmpty_map, isEmpty_filterB, Function.comp_def, id_eq, bo_sset, ar_sset, e_sset, sset_en, ssetL_en, bo_meth, bo_disp, ar_meth, ar_disp, e_meth, e_disp, vp_nil, vp_cons, vi_enum, vi_enumf, vi_rng3, x_dct, c_inD, c_ninD, s_dct, isL_d, q_lenD, q_listD, d_int, d_tu, d_pair, enum_en, index_en, mOk_l, od_1, od_2, false_implies, Bool.and_true, and_true, implies_true, forall_const, ite_some, s_lst, x_frz, frz_o, frz_h, frz_s, Option.getD_none, Int.one_mul, forW_en, gd_ff, sz_lt, List.append_nil, List.nil_append, Bool.not_not, t0_en, l0_en]
    rw [rgI_rg]
    refine ⟨⟨h4, rng_ok hn⟩, ?_⟩
    refine forL_inv (fun d2 ρ => ∃ x4, ρ = [some (.sh (en (od n ps))), some (.sh (en (od m L))), some (.sh P), some (.sh (en a)), x4] ∧ nOwn (some x4) = true ∧ ∀ b ∈ d2, (decide (a = b) || (!decide (f a = f b) && (mb (a, b) ps == mb (f a, f b) L))) = true) (done := []) ⟨x4, rfl, h4, by simp⟩ ?_ ?_
    · rintro d2 b r ρ e ⟨x4, rfl, _, h2⟩ K2 hK2
      have hbf : b ∈ (rg n).filter fun x => !decide (x = a) := by rw [show ((rg n).filter fun x => !decide (x = a)) = d2 ++ b :: r from e]; simp
      obtain ⟨hb, hba⟩ := List.mem_filter.mp hbf
      have hab : a ≠ b := fun z => by simp [z] at hba
      have step : (decide (a = b) || (!decide (f a = f b) && (mb (a, b) ps == mb (f a, f b) L))) = true → ∀ c ∈ d2 ++ [b], (decide (a = c) || (!decide (f a = f c) && (mb (a, c) ps == mb (f a, f c) L))) = true := fun h c hc => by
        rcases List.mem_append.mp hc with hc | hc
        · exact h2 c hc
        · rw [List.mem_singleton.mp hc]; exact h
      unfold b24_0
      simp only [wbo_var, ar_var, bo_cst, bo_bin, bo_neg, bo_not, bo_and, bo_or, bo_cmp, bo_chain, bo_ife, bo_tup, bo_lst, bo_dnew, bo_idx, bo_slc, bo_rev, bo_call, bo_prim, bo_isi, bo_lc, bo_rg, sh_rt, sh_gd, sh_bd, ar_cst, ar_bin, ar_neg, ar_not, ar_and, ar_or, ar_cmp, ar_chain, ar_ife, ar_tup, ar_lst, ar_dnew, ar_idx, ar_slc, ar_rev, ar_call, ar_prim, ar_isi, ar_lc, ar_rg, e_var, e_cst, e_bin, e_neg, e_not, e_and, e_or, e_cmp, e_chain, e_ife, e_tup, e_lst, e_dnew, e_idx, e_slc, e_rev, e_call, e_prim, e_isi, e_lc, e_rg, wt_and, wt_or, wt_not, wt_e, vs_nil, vs_cons, vs_star, vb_nil, vb_cons, va_nil, va_cons, vo_no, vo_yes, vc_no, vc_yes, vi_val, vi_valf, vi_rng, vi_zip, vi_zipf, getD_0, getD_s, a_v, a_p, Option.bind_some, x_nil, x_cons, x_ite, exec, koF, parW, sets_n, sets_c, rt_ap, bd_ap, gd_ap, ite_ap, bd_rt, rt_bd, bd_bd, bd_gd, gd_gd, gd_true, bd_ite, ite_rt, ite_gd1, ite_gd2, lift_rt, b_and, b_and2, b_or, b_or2, ite_en, look_z, look_s, lookB_z, lookB_o, lookB_s, lookA_z, lookA_c, lookA_s, lookO_o, lookO_s, List.getElem?_cons_zero, List.getElem?_cons_succ, List.set_cons_zero, List.set_cons_succ, Bool.false_eq_true, if_false, if_true, wipeN_n, wipeN_c, free_n, free_c, nOwn_n, nOwn_s, nOwn_c, Bool.true_and, true_and, List.length_cons, List.length_nil, Nat.zero_add, Nat.reduceAdd, Nat.reduceLeDiff, sz, i_en, b_en, l_en, t_en, tl_en, p_en, l1_en, t1_en, snoc_en, app_en, isL_l, c_eq, c_ne, c_inL, c_inT, c_ninL, c_ninT, c_eqE, c_neE, c_eqU, c_neU, c_lt, c_gt, c_le, c_ge, dp_int, dp_bool, dp_unit, dp_list, dp_tu, dp_pair, Nat.max_self, tr_b, tr_i, tr_l, tr_t, o_add, o_sub, o_mul, o_div, o_mod, o_shl, o_shr, o_band, o_neg, o_addL, o_addT, mulB1, i01, x_list, x_tup, x_p0, x_p1, s_list, s_tup, r_list, lt_list, lt_tup, ls_list, q_lenL, q_lenT, q_tupL, q_tupT, q_listL, q_listT, q_all, q_any, q_sum, q_max, q_min, q_int, q_abs, g_rng, toI_en, lcW_en, lcM_all, lcM_if, lcM_gd, List.map_id', List.all_map, List.any_map, Bool.not_true, Bool.not_false, List.length_map, ii_and, ii_or, Option.getD_some, List.isEmpty_map, isEmpty_filterB, Function.comp_def, id_eq, bo_sset, ar_sset, e_sset, sset_en, ssetL_en, bo_meth, bo_disp, ar_meth, ar_disp, e_meth, e_disp, vp_nil, vp_cons, vi_enum, vi_enumf, vi_rng3, x_dct, c_inD, c_ninD, s_dct, isL_d, q_lenD, q_listD, d_int, d_tu, d_pair, enum_en, index_en, mOk_l, od_1, od_2, false_implies, Bool.and_true, and_true, implies_true, forall_const, ite_some, s_lst, x_frz, frz_o, frz_h, frz_s, Option.getD_none, Int.one_mul, forW_en, gd_ff, sz_lt, List.append_nil, List.nil_append, Bool.not_not, t0_en, l0_en]
      simp only [hf a ha, hf b hb]
      simp only [wbo_var, ar_var, bo_cst, bo_bin, bo_neg, bo_not, bo_and, bo_or, bo_cmp, bo_chain, bo_ife, bo_tup, bo_lst, bo_dnew, bo_idx, bo_slc, bo_rev, bo_call, bo_prim, bo_isi, bo_lc, bo_rg, sh_rt, sh_gd, sh_bd, ar_cst, ar_bin, ar_neg, ar_not, ar_and, ar_or, ar_cmp, ar_chain, ar_ife, ar_tup, ar_lst, ar_dnew, ar_idx, ar_slc, ar_rev, ar_call, ar_prim, ar_isi, ar_lc, ar_rg, e_var, e_cst, e_bin, e_neg, e_not, e_and, e_or, e_cmp, e_chain, e_ife, e_tup, e_lst, e_dnew, e_idx, e_slc, e_rev, e_call, e_prim, e_isi, e_lc, e_rg, wt_and, wt_or, wt_not, wt_e, vs_nil, vs_cons, vs_star, vb_nil, vb_cons, va_nil, va_cons, vo_no, vo_yes, vc_no, vc_yes, vi_val, vi_valf, vi_rng, vi_zip, vi_zipf, getD_0, getD_s, a_v, a_p, Option.bind_some, x_nil, x_cons, x_ite, exec, koF, parW, sets_n, sets_c, rt_ap, bd_ap, gd_ap, ite_ap, bd_rt, rt_bd, bd_bd, bd_gd, gd_gd, gd_true, bd_ite, ite_rt, ite_gd1, ite_gd2, lift_rt, b_and, b_and2, b_or, b_or2, ite_en, look_z, look_s, lookB_z, lookB_o, lookB_s, lookA_z, lookA_c, lookA_s, lookO_o, lookO_s, List.getElem?_cons_zero, List.getElem?_cons_succ, List.set_cons_zero, List.set_cons_succ, Bool.false_eq_true, if_false, if_true, wipeN_n, wipeN_c, free_n, free_c, nOwn_n, nOwn_s, nOwn_c, Bool.true_and, true_and, List.length_cons, List.length_nil, Nat.zero_add, Nat.reduceAdd, Nat.reduceLeDiff, sz, i_en, b_en, l_en, t_en, tl_en, p_en, l1_en, t1_en, snoc_en, app_en, isL_l, c_eq, c_ne, c_inL, c_inT, c_ninL, c_ninT, c_eqE, c_neE, c_eqU, c_neU, c_lt, c_gt, c_le, c_ge, dp_int, dp_bool, dp_unit, dp_list, dp_tu, dp_pair, Nat.max_self, tr_b, tr_i, tr_l, tr_t, o_add, o_sub, o_mul, o_div, o_mod, o_shl, o_shr, o_band, o_neg, o_addL, o_addT, mulB1, i01, x_list, x_tup, x_p0, x_p1, s_list, s_tup, r_list, lt_list, lt_tup, ls_list, q_lenL, q_lenT, q_tupL, q_tupT, q_listL, q_listT, q_all, q_any, q_sum, q_max, q_min, q_int, q_abs, g_rng, toI_en, lcW_en, lcM_all, lcM_if, lcM_gd, List.map_id', List.all_map, List.any_map, Bool.not_true, Bool.not_false, List.length_map, ii_and, ii_or, Option.getD_some, List.isEmpty_map, isEmpty_filterB, Function.comp_def, id_eq, bo_sset, ar_sset, e_sset, sset_en, ssetL_en, bo_meth, bo_disp, ar_meth, ar_disp, e_meth, e_disp, vp_nil, vp_cons, vi_enum, vi_enumf, vi_rng3, x_dct, c_inD, c_ninD, s_dct, isL_d, q_lenD, q_listD, d_int, d_tu, d_pair, enum_en, index_en, mOk_l, od_1, od_2, false_implies, Bool.and_true, and_true, implies_true, forall_const, ite_some, s_lst, x_frz, frz_o, frz_h, frz_s, Option.getD_none, Int.one_mul, forW_en, gd_ff, sz_lt, List.append_nil, List.nil_append, Bool.not_not, t0_en, l0_en]
      have ed : decide (a = b) = false := decide_eq_false hab
      split
      · rename_i h
        rw [stB_bad ha hb (by rw [st_conv ed, h]; rfl)] at q
        exact q
      · rename_i h
        rw [Bool.not_eq_true] at h
        exact hK2 _ ⟨_, rfl, rfl, step (by rw [st_conv ed, h]; rfl)⟩
    · rintro ρ ⟨x4, rfl, h4', h2⟩
      refine hK _ ⟨_, _, rfl, h4', fun c hc b hb => ?_⟩
      rcases List.mem_append.mp hc with hc | hc
      · exact h1 c hc b hb
      · rw [List.mem_singleton.mp hc]
        by_cases hab : a = b
        · simp [hab]
        · exact h2 b (by rw [List.nil_append]; exact List.mem_filter.mpr ⟨hb, by simpa using fun z => hab z.symm⟩)
  · rintro ρ ⟨x3, x4, rfl, h4, h1⟩
    have : stB n ps L f = true := List.all_eq_true.mpr fun a ha => List.all_eq_true.mpr fun b hb => h1 a ha b hb
    rw [this] at q
    exact q
/-- the law's own join -/
theorem e_lawJoin (hm : m ≤ 1000) {l : List Int} {v : Int} (h : joinO m L l = some v) : CG (k + 3) 23 [.sh (en (od m L)), .sh (en (Tu.mk l))] = rt (en v) := by
  unfold CG; rw [hd23 rfl rfl]
  unfold b23
  funext Q
  have e := @e_lawAbove k m L hm
  have e2 := @e_leq (k + 1) m L
  unfold CG at e e2
  simp only [wbo_var, ar_var, bo_cst, bo_bin, bo_neg, bo_not, bo_and, bo_or, bo_cmp, bo_chain, bo_ife, bo_tup, bo_lst, bo_dnew, bo_idx, bo_slc, bo_rev, bo_call, bo_prim, bo_isi, bo_lc, bo_rg, sh_rt, sh_gd, sh_bd, ar_cst, ar_bin, ar_neg, ar_not, ar_and, ar_or, ar_cmp, ar_chain, ar_ife, ar_tup, ar_lst, ar_dnew, ar_idx, ar_slc, ar_rev, ar_call, ar_prim, ar_isi, ar_lc, ar_rg, e_var, e_cst, e_bin, e_neg, e_not, e_and, e_or, e_cmp, e_chain, e_ife, e_tup, e_lst, e_dnew, e_idx, e_slc, e_rev, e_call, e_prim, e_isi, e_lc, e_rg, wt_and, wt_or, wt_not, wt_e, vs_nil, vs_cons, vs_star, vb_nil, vb_cons, va_nil, va_cons, vo_no, vo_yes, vc_no, vc_yes, vi_val, vi_valf, vi_rng, vi_zip, vi_zipf, getD_0, getD_s, a_v, a_p, Option.bind_some, x_nil, x_cons, x_ite, exec, koF, parW, sets_n, sets_c, rt_ap, bd_ap, gd_ap, ite_ap, bd_rt, rt_bd, bd_bd, bd_gd, gd_gd, gd_true, bd_ite, ite_rt, ite_gd1, ite_gd2, lift_rt, b_and, b_and2, b_or, b_or2, ite_en, look_z, look_s, lookB_z, lookB_o, lookB_s, lookA_z, lookA_c, lookA_s, lookO_o, lookO_s, List.getElem?_cons_zero, List.getElem?_cons_succ, List.set_cons_zero, List.set_cons_succ, Bool.false_eq_true, if_false, if_true, wipeN_n, wipeN_c, free_n, free_c, nOwn_n, nOwn_s, nOwn_c, Bool.true_and, true_and, List.length_cons, List.length_nil, Nat.zero_add, Nat.reduceAdd, Nat.reduceLeDiff, sz, i_en, b_en, l_en, t_en, tl_en, p_en, l1_en, t1_en, snoc_en, app_en, isL_l, c_eq, c_ne, c_inL, c_inT, c_ninL, c_ninT, c_eqE, c_neE, c_eqU, c_neU, c_lt, c_gt, c_le, c_ge, dp_int, dp_bool, dp_unit, dp_list, dp_tu, dp_pair, Nat.max_self, tr_b, tr_i, tr_l, tr_t, o_add, o_sub, o_mul, o_div, o_mod, o_shl, o_shr, o_band, o_neg, o_addL, o_addT, mulB1, i01, x_list, x_tup, x_p0, x_p1, s_list, s_tup, r_list, lt_list, lt_tup, ls_list, q_lenL, q_lenT, q_tupL, q_tupT, q_listL, q_listT, q_all, q_any, q_sum, q_max, q_min, q_int, q_abs, g_rng, toI_en, lcW_en, lcM_all, lcM_if, lcM_gd, List.map_id', List.all_map, List.any_map, Bool.not_true, Bool.not_false, List.length_map, ii_and, ii_or, Option.getD_some, List.isEmpty_map, isEmpty_filterB, Function.comp_def, id_eq, bo_sset, ar_sset, e_sset, sset_en, ssetL_en, bo_meth, bo_disp, ar_meth, ar_disp, e_meth, e_disp, vp_nil, vp_cons, vi_enum, vi_enumf, vi_rng3, x_dct, c_inD, c_ninD, s_dct, isL_d, q_lenD, q_listD, d_int, d_tu, d_pair, enum_en, index_en, mOk_l, od_1, od_2, false_implies, Bool.and_true, and_true, implies_true, forall_const, ite_some, s_lst, x_frz, frz_o, frz_h, frz_s, Option.getD_none, Int.one_mul, forW_en, gd_ff, sz_lt, List.append_nil, List.nil_append, Bool.not_not, t0_en, l0_en]
  rw [e]
  simp only [wbo_var, ar_var, bo_cst, bo_bin, bo_neg, bo_not, bo_and, bo_or, bo_cmp, bo_chain, bo_ife, bo_tup, bo_lst, bo_dnew, bo_idx, bo_slc, bo_rev, bo_call, bo_prim, bo_isi, bo_lc, bo_rg, sh_rt, sh_gd, sh_bd, ar_cst, ar_bin, ar_neg, ar_not, ar_and, ar_or, ar_cmp, ar_chain, ar_ife, ar_tup, ar_lst, ar_dnew, ar_idx, ar_slc, ar_rev, ar_call, ar_prim, ar_isi, ar_lc, ar_rg, e_var, e_cst, e_bin, e_neg, e_not, e_and, e_or, e_cmp, e_chain, e_ife, e_tup, e_lst, e_dnew, e_idx, e_slc, e_rev, e_call, e_prim, e_isi, e_lc, e_rg, wt_and, wt_or, wt_not, wt_e, vs_nil, vs_cons, vs_star, vb_nil, vb_cons, va_nil, va_cons, vo_no, vo_yes, vc_no, vc_yes, vi_val, vi_valf, vi_rng, vi_zip, vi_zipf, getD_0, getD_s, a_v, a_p, Option.bind_some, x_nil, x_cons, x_ite, exec, koF, parW, sets_n, sets_c, rt_ap, bd_ap, gd_ap, ite_ap, bd_rt, rt_bd, bd_bd, bd_gd, gd_gd, gd_true, bd_ite, ite_rt, ite_gd1, ite_gd2, lift_rt, b_and, b_and2, b_or, b_or2, ite_en, look_z, look_s, lookB_z, lookB_o, lookB_s, lookA_z, lookA_c, lookA_s, lookO_o, lookO_s, List.getElem?_cons_zero, List.getElem?_cons_succ, List.set_cons_zero, List.set_cons_succ, Bool.false_eq_true, if_false, if_true, wipeN_n, wipeN_c, free_n, free_c, nOwn_n, nOwn_s, nOwn_c, Bool.true_and, true_and, List.length_cons, List.length_nil, Nat.zero_add, Nat.reduceAdd, Nat.reduceLeDiff, sz, i_en, b_en, l_en, t_en, tl_en, p_en, l1_en, t1_en, snoc_en, app_en, isL_l, c_eq, c_ne, c_inL, c_inT, c_ninL, c_ninT, c_eqE, c_neE, c_eqU, c_neU, c_lt, c_gt, c_le, c_ge, dp_int, dp_bool, dp_unit, dp_list, dp_tu, dp_pair, Nat.max_self, tr_b, tr_i, tr_l, tr_t, o_add, o_sub, o_mul, o_div, o_mod, o_shl, o_shr, o_band, o_neg, o_addL, o_addT, mulB1, i01, x_list, x_tup, x_p0, x_p1, s_list, s_tup, r_list, lt_list, lt_tup, ls_list, q_lenL, q_lenT, q_tupL, q_tupT, q_listL, q_listT, q_all, q_any, q_sum, q_max, q_min, q_int, q_abs, g_rng, toI_en, lcW_en, lcM_all, lcM_if, lcM_gd, List.map_id', List.all_map, List.any_map, Bool.not_true, Bool.not_false, List.length_map, ii_and, ii_or, Option.getD_some, List.isEmpty_map, isEmpty_filterB, Function.comp_def, id_eq, bo_sset, ar_sset, e_sset, sset_en, ssetL_en, bo_meth, bo_disp, ar_meth, ar_disp, e_meth, e_disp, vp_nil, vp_cons, vi_enum, vi_enumf, vi_rng3, x_dct, c_inD, c_ninD, s_dct, isL_d, q_lenD, q_listD, d_int, d_tu, d_pair, enum_en, index_en, mOk_l, od_1, od_2, false_implies, Bool.and_true, and_true, implies_true, forall_const, ite_some, s_lst, x_frz, frz_o, frz_h, frz_s, Option.getD_none, Int.one_mul, forW_en, gd_ff, sz_lt, List.append_nil, List.nil_append, Bool.not_not, t0_en, l0_en]
  simp only [e2]
  simp only [wbo_var, ar_var, bo_cst, bo_bin, bo_neg, bo_not, bo_and, bo_or, bo_cmp, bo_chain, bo_ife, bo_tup, bo_lst, bo_dnew, bo_idx, bo_slc, bo_rev, bo_call, bo_prim, bo_isi, bo_lc, bo_rg, sh_rt, sh_gd, sh_bd, ar_cst, ar_bin, ar_neg, ar_not, ar_and, ar_or, ar_cmp, ar_chain, ar_ife, ar_tup, ar_lst, ar_dnew, ar_idx, ar_slc, ar_rev, ar_call, ar_prim, ar_isi, ar_lc, ar_rg, e_var, e_cst, e_bin, e_neg, e_not, e_and, e_or, e_cmp, e_chain, e_ife, e_tup, e_lst, e_dnew, e_idx, e_slc, e_rev, e_call, e_prim, e_isi, e_lc, e_rg, wt_and, wt_or, wt_not, wt_e, vs_nil, vs_cons, vs_star, vb_nil, vb_cons, va_nil, va_cons, vo_no, vo_yes, vc_no, vc_yes, vi_val, vi_valf, vi_rng, vi_zip, vi_zipf, getD_0, getD_s, a_v, a_p, Option.bind_some, x_nil, x_cons, x_ite, exec, koF, parW, sets_n, sets_c, rt_ap, bd_ap, gd_ap, ite_ap, bd_rt, rt_bd, bd_bd, bd_gd, gd_gd, gd_true, bd_ite, ite_rt, ite_gd1, ite_gd2, lift_rt, b_and, b_and2, b_or, b_or2, ite_en, look_z, look_s, lookB_z, lookB_o, lookB_s, lookA_z, lookA_c, lookA_s, lookO_o, lookO_s, List.getElem?_cons_zero, List.getElem?_cons_succ, List.set_cons_zero, List.set_cons_succ, Bool.false_eq_true, if_false, if_true, wipeN_n, wipeN_c, free_n, free_c, nOwn_n, nOwn_s, nOwn_c, Bool.true_and, true_and, List.length_cons, List.length_nil, Nat.zero_add, Nat.reduceAdd, Nat.reduceLeDiff, sz, i_en, b_en, l_en, t_en, tl_en, p_en, l1_en, t1_en, snoc_en, app_en, isL_l, c_eq, c_ne, c_inL, c_inT, c_ninL, c_ninT, c_eqE, c_neE, c_eqU, c_neU, c_lt, c_gt, c_le, c_ge, dp_int, dp_bool, dp_unit, dp_list, dp_tu, dp_pair, Nat.max_self, tr_b, tr_i, tr_l, tr_t, o_add, o_sub, o_mul, o_div, o_mod, o_shl, o_shr, o_band, o_neg, o_addL, o_addT, mulB1, i01, x_list, x_tup, x_p0, x_p1, s_list, s_tup, r_list, lt_list, lt_tup, ls_list, q_lenL, q_lenT, q_tupL, q_tupT, q_listL, q_listT, q_all, q_any, q_sum, q_max, q_min, q_int, q_abs, g_rng, toI_en, lcW_en, lcM_all, lcM_if, lcM_gd, List.map_id', List.all_map, List.any_map, Bool.not_true, Bool.not_false, List.length_map, ii_and, ii_or, Option.getD_some, List.isEmpty_map, isEmpty_filterB, Function.comp_def, id_eq, bo_sset, ar_sset, e_sset, sset_en, ssetL_en, bo_meth, bo_disp, ar_meth, ar_disp, e_meth, e_disp, vp_nil, vp_cons, vi_enum, vi_enumf, vi_rng3, x_dct, c_inD, c_ninD, s_dct, isL_d, q_lenD, q_listD, d_int, d_tu, d_pair, enum_en, index_en, mOk_l, od_1, od_2, false_implies, Bool.and_true, and_true, implies_true, forall_const, ite_some, s_lst, x_frz, frz_o, frz_h, frz_s, Option.getD_none, Int.one_mul, forW_en, gd_ff, sz_lt, List.append_nil, List.nil_append, Bool.not_not, t0_en, l0_en]
  simp only [all_of_any]
  unfold joinO at h
  generalize hx : (List.filter (fun a => (abv m L l).all fun a_1 => leqB L a a_1) (abv m L l)) = xs at h ⊢
  cases xs with
  | nil => cases h
  | cons x r =>
    cases h
    exact propext ⟨fun z => z.2, fun z => ⟨⟨by simp only [List.length_cons]; omega, by simp only [List.length_cons]; omega⟩, z⟩⟩
theorem s_ledCuts {pl : Tu Int} {T : Tu Int → Int} (hn : n ≤ 8) (hm : m ≤ 1000) (hl : pl.l.length = n) (hT : ∀ c ∈ cutsL n ps, joinO m L (sortU (c.l.map fun x => pix pl.l x)) = some (T c)) (q : Q (en (Tu.mk ((cutsL n ps).map T)))) : CG (k + 5) 10 [.sh (en (od n ps)), .sh (en (od m L)), .sh (en pl)] Q := by
  unfold CG; rw [hd10 rfl rfl rfl]
  unfold b10
  simp only [wbo_var, ar_var, bo_cst, bo_bin, bo_neg, bo_not, bo_and, bo_or, bo_cmp, bo_chain, bo_ife, bo_tup, bo_lst, bo_dnew, bo_idx, bo_slc, bo_rev, bo_call, bo_prim, bo_isi, bo_lc, bo_rg, sh_rt, sh_gd, sh_bd, ar_cst, ar_bin, ar_neg, ar_not, ar_and, ar_or, ar_cmp, ar_chain, ar_ife, ar_tup, ar_lst, ar_dnew, ar_idx, ar_slc, ar_rev, ar_call, ar_prim, ar_isi, ar_lc, ar_rg, e_var, e_cst, e_bin, e_neg, e_not, e_and, e_or, e_cmp, e_chain, e_ife, e_tup, e_lst, e_dnew, e_idx, e_slc, e_rev, e_call, e_prim, e_isi, e_lc, e_rg, wt_and, wt_or, wt_not, wt_e, vs_nil, vs_cons, vs_star, vb_nil, vb_cons, va_nil, va_cons, vo_no, vo_yes, vc_no, vc_yes, vi_val, vi_valf, vi_rng, vi_zip, vi_zipf, getD_0, getD_s, a_v, a_p, Option.bind_some, x_nil, x_cons, x_ite, exec, koF, parW, sets_n, sets_c, rt_ap, bd_ap, gd_ap, ite_ap, bd_rt, rt_bd, bd_bd, bd_gd, gd_gd, gd_true, bd_ite, ite_rt, ite_gd1, ite_gd2, lift_rt, b_and, b_and2, b_or, b_or2, ite_en, look_z, look_s, lookB_z, lookB_o, lookB_s, lookA_z, lookA_c, lookA_s, lookO_o, lookO_s, List.getElem?_cons_zero, List.getElem?_cons_succ, List.set_cons_zero, List.set_cons_succ, Bool.false_eq_true, if_false, if_true, wipeN_n, wipeN_c, free_n, free_c, nOwn_n, nOwn_s, nOwn_c, Bool.true_and, true_and, List.length_cons, List.length_nil, Nat.zero_add, Nat.reduceAdd, Nat.reduceLeDiff, sz, i_en, b_en, l_en, t_en, tl_en, p_en, l1_en, t1_en, snoc_en, app_en, isL_l, c_eq, c_ne, c_inL, c_inT, c_ninL, c_ninT, c_eqE, c_neE, c_eqU, c_neU, c_lt, c_gt, c_le, c_ge, dp_int, dp_bool, dp_unit, dp_list, dp_tu, dp_pair, Nat.max_self, tr_b, tr_i, tr_l, tr_t, o_add, o_sub, o_mul, o_div, o_mod, o_shl, o_shr, o_band, o_neg, o_addL, o_addT, mulB1, i01, x_list, x_tup, x_p0, x_p1, s_list, s_tup, r_list, lt_list, lt_tup, ls_list, q_lenL, q_lenT, q_tupL, q_tupT, q_listL, q_listT, q_all, q_any, q_sum, q_max, q_min, q_int, q_abs, g_rng, toI_en, lcW_en, lcM_all, lcM_if, lcM_gd, List.map_id', List.all_map, List.any_map, Bool.not_true, Bool.not_false, List.length_map, ii_and, ii_or, Option.getD_some, List.isEmpty_map, isEmpty_filterB, Function.comp_def, id_eq, bo_sset, ar_sset, e_sset, sset_en, ssetL_en, bo_meth, bo_disp, ar_meth, ar_disp, e_meth, e_disp, vp_nil, vp_cons, vi_enum, vi_enumf, vi_rng3, x_dct, c_inD, c_ninD, s_dct, isL_d, q_lenD, q_listD, d_int, d_tu, d_pair, enum_en, index_en, mOk_l, od_1, od_2, false_implies, Bool.and_true, and_true, implies_true, forall_const, ite_some, s_lst, x_frz, frz_o, frz_h, frz_s, Option.getD_none, Int.one_mul, forW_en, gd_ff, sz_lt, List.append_nil, List.nil_append, Bool.not_not, t0_en, l0_en]
  refine s_cuts (k := k) (by omega) ?_
  simp only [wbo_var, ar_var, bo_cst, bo_bin, bo_neg, bo_not, bo_and, bo_or, bo_cmp, bo_chain, bo_ife, bo_tup, bo_lst, bo_dnew, bo_idx, bo_slc, bo_rev, bo_call, bo_prim, bo_isi, bo_lc, bo_rg, sh_rt, sh_gd, sh_bd, ar_cst, ar_bin, ar_neg, ar_not, ar_and, ar_or, ar_cmp, ar_chain, ar_ife, ar_tup, ar_lst, ar_dnew, ar_idx, ar_slc, ar_rev, ar_call, ar_prim, ar_isi, ar_lc, ar_rg, e_var, e_cst, e_bin, e_neg, e_not, e_and, e_or, e_cmp, e_chain, e_ife, e_tup, e_lst, e_dnew, e_idx, e_slc, e_rev, e_call, e_prim, e_isi, e_lc, e_rg, wt_and, wt_or, wt_not, wt_e, vs_nil, vs_cons, vs_star, vb_nil, vb_cons, va_nil, va_cons, vo_no, vo_yes, vc_no, vc_yes, vi_val, vi_valf, vi_rng, vi_zip, vi_zipf, getD_0, getD_s, a_v, a_p, Option.bind_some, x_nil, x_cons, x_ite, exec, koF, parW, sets_n, sets_c, rt_ap, bd_ap, gd_ap, ite_ap, bd_rt, rt_bd, bd_bd, bd_gd, gd_gd, gd_true, bd_ite, ite_rt, ite_gd1, ite_gd2, lift_rt, b_and, b_and2, b_or, b_or2, ite_en, look_z, look_s, lookB_z, lookB_o, lookB_s, lookA_z, lookA_c, lookA_s, lookO_o, lookO_s, List.getElem?_cons_zero, List.getElem?_cons_succ, List.set_cons_zero, List.set_cons_succ, Bool.false_eq_true, if_false, if_true, wipeN_n, wipeN_c, free_n, free_c, nOwn_n, nOwn_s, nOwn_c, Bool.true_and, true_and, List.length_cons, List.length_nil, Nat.zero_add, Nat.reduceAdd, Nat.reduceLeDiff, sz, i_en, b_en, l_en, t_en, tl_en, p_en, l1_en, t1_en, snoc_en, app_en, isL_l, c_eq, c_ne, c_inL, c_inT, c_ninL, c_ninT, c_eqE, c_neE, c_eqU, c_neU, c_lt, c_gt, c_le, c_ge, dp_int, dp_bool, dp_unit, dp_list, dp_tu, dp_pair, Nat.max_self, tr_b, tr_i, tr_l, tr_t, o_add, o_sub, o_mul, o_div, o_mod, o_shl, o_shr, o_band, o_neg, o_addL, o_addT, mulB1, i01, x_list, x_tup, x_p0, x_p1, s_list, s_tup, r_list, lt_list, lt_tup, ls_list, q_lenL, q_lenT, q_tupL, q_tupT, q_listL, q_listT, q_all, q_any, q_sum, q_max, q_min, q_int, q_abs, g_rng, toI_en, lcW_en, lcM_all, lcM_if, lcM_gd, List.map_id', List.all_map, List.any_map, Bool.not_true, Bool.not_false, List.length_map, ii_and, ii_or, Option.getD_some, List.isEmpty_map, isEmpty_filterB, Function.comp_def, id_eq, bo_sset, ar_sset, e_sset, sset_en, ssetL_en, bo_meth, bo_disp, ar_meth, ar_disp, e_meth, e_disp, vp_nil, vp_cons, vi_enum, vi_enumf, vi_rng3, x_dct, c_inD, c_ninD, s_dct, isL_d, q_lenD, q_listD, d_int, d_tu, d_pair, enum_en, index_en, mOk_l, od_1, od_2, false_implies, Bool.and_true, and_true, implies_true, forall_const, ite_some, s_lst, x_frz, frz_o, frz_h, frz_s, Option.getD_none, Int.one_mul, forW_en, gd_ff, sz_lt, List.append_nil, List.nil_append, Bool.not_not, t0_en, l0_en]
  have e := @e_join (k + 1) m L hm
  unfold CG at e
  simp only [e]
  simp only [wbo_var, ar_var, bo_cst, bo_bin, bo_neg, bo_not, bo_and, bo_or, bo_cmp, bo_chain, bo_ife, bo_tup, bo_lst, bo_dnew, bo_idx, bo_slc, bo_rev, bo_call, bo_prim, bo_isi, bo_lc, bo_rg, sh_rt, sh_gd, sh_bd, ar_cst, ar_bin, ar_neg, ar_not, ar_and, ar_or, ar_cmp, ar_chain, ar_ife, ar_tup, ar_lst, ar_dnew, ar_idx, ar_slc, ar_rev, ar_call, ar_prim, ar_isi, ar_lc, ar_rg, e_var, e_cst, e_bin, e_neg, e_not, e_and, e_or, e_cmp, e_chain, e_ife, e_tup, e_lst, e_dnew, e_idx, e_slc, e_rev, e_call, e_prim, e_isi, e_lc, e_rg, wt_and, wt_or, wt_not, wt_e, vs_nil, vs_cons, vs_star, vb_nil, vb_cons, va_nil, va_cons, vo_no, vo_yes, vc_no, vc_yes, vi_val, vi_valf, vi_rng, vi_zip, vi_zipf, getD_0, getD_s, a_v, a_p, Option.bind_some, x_nil, x_cons, x_ite, exec, koF, parW, sets_n, sets_c, rt_ap, bd_ap, gd_ap, ite_ap, bd_rt, rt_bd, bd_bd, bd_gd, gd_gd, gd_true, bd_ite, ite_rt, ite_gd1, ite_gd2, lift_rt, b_and, b_and2, b_or, b_or2, ite_en, look_z, look_s, lookB_z, lookB_o, lookB_s, lookA_z, lookA_c, lookA_s, lookO_o, lookO_s, List.getElem?_cons_zero, List.getElem?_cons_succ, List.set_cons_zero, List.set_cons_succ, Bool.false_eq_true, if_false, if_true, wipeN_n, wipeN_c, free_n, free_c, nOwn_n, nOwn_s, nOwn_c, Bool.true_and, true_and, List.length_cons, List.length_nil, Nat.zero_add, Nat.reduceAdd, Nat.reduceLeDiff, sz, i_en, b_en, l_en, t_en, tl_en, p_en, l1_en, t1_en, snoc_en, app_en, isL_l, c_eq, c_ne, c_inL, c_inT, c_ninL, c_ninT, c_eqE, c_neE, c_eqU, c_neU, c_lt, c_gt, c_le, c_ge, dp_int, dp_bool, dp_unit, dp_list, dp_tu, dp_pair, Nat.max_self, tr_b, tr_i, tr_l, tr_t, o_add, o_sub, o_mul, o_div, o_mod, o_shl, o_shr, o_band, o_neg, o_addL, o_addT, mulB1, i01, x_list, x_tup, x_p0, x_p1, s_list, s_tup, r_list, lt_list, lt_tup, ls_list, q_lenL, q_lenT, q_tupL, q_tupT, q_listL, q_listT, q_all, q_any, q_sum, q_max, q_min, q_int, q_abs, g_rng, toI_en, lcW_en, lcM_all, lcM_if, lcM_gd, List.map_id', List.all_map, List.any_map, Bool.not_true, Bool.not_false, List.length_map, ii_and, ii_or, Option.getD_some, List.isEmpty_map, isEmpty_filterB, Function.comp_def, id_eq, bo_sset, ar_sset, e_sset, sset_en, ssetL_en, bo_meth, bo_disp, ar_meth, ar_disp, e_meth, e_disp, vp_nil, vp_cons, vi_enum, vi_enumf, vi_rng3, x_dct, c_inD, c_ninD, s_dct, isL_d, q_lenD, q_listD, d_int, d_tu, d_pair, enum_en, index_en, mOk_l, od_1, od_2, false_implies, Bool.and_true, and_true, implies_true, forall_const, ite_some, s_lst, x_frz, frz_o, frz_h, frz_s, Option.getD_none, Int.one_mul, forW_en, gd_ff, sz_lt, List.append_nil, List.nil_append, Bool.not_not, t0_en, l0_en]
  refine ⟨fun c hc => ⟨fun x hx => ?_, ?_⟩, ?_⟩
  · have := mem_rg.mp ((lotsL_sub _ c (mem_cuts.mp hc).1).subset hx)
    exact ixOk this.1 (by omega)
  · have := (lotsL_sub _ c (mem_cuts.mp hc).1).length_le
    rw [rg_len] at this; omega
  · have e : (en (Tu.mk ((cutsL n ps).map fun a => joinO m L (sortU (List.map (pix pl.l) a.l)))) : D) = en (Tu.mk ((cutsL n ps).map T)) := by
      show PyData.tuple _ = PyData.tuple _
      rw [List.map_map, List.map_map]
      congr 1
      refine List.map_congr_left fun c hc => ?_
      show en (joinO m L (sortU (List.map (pix pl.l) c.l))) = en (T c)
      rw [hT c hc]; rfl
    rw [e]
    exact q
theorem s_round (hn : n ≤ 8) (q : Q (en (od (cutsL n ps).length (wthL (cutsL n ps))))) (hc : (cutsL n ps).length ≤ 64) : CG (k + 5) 5 [.sh (en (od n ps))] Q := by
  unfold CG; rw [hd5 rfl]
  unfold b5
  simp only [wbo_var, ar_var, bo_cst, bo_bin, bo_neg, bo_not, bo_and, bo_or, bo_cmp, bo_chain, bo_ife, bo_tup, bo_lst, bo_dnew, bo_idx, bo_slc, bo_rev, bo_call, bo_prim, bo_isi, bo_lc, bo_rg, sh_rt, sh_gd, sh_bd, ar_cst, ar_bin, ar_neg, ar_not, ar_and, ar_or, ar_cmp, ar_chain, ar_ife, ar_tup, ar_lst, ar_dnew, ar_idx, ar_slc, ar_rev, ar_call, ar_prim, ar_isi, ar_lc, ar_rg, e_var, e_cst, e_bin, e_neg, e_not, e_and, e_or, e_cmp, e_chain, e_ife, e_tup, e_lst, e_dnew, e_idx, e_slc, e_rev, e_call, e_prim, e_isi, e_lc, e_rg, wt_and, wt_or, wt_not, wt_e, vs_nil, vs_cons, vs_star, vb_nil, vb_cons, va_nil, va_cons, vo_no, vo_yes, vc_no, vc_yes, vi_val, vi_valf, vi_rng, vi_zip, vi_zipf, getD_0, getD_s, a_v, a_p, Option.bind_some, x_nil, x_cons, x_ite, exec, koF, parW, sets_n, sets_c, rt_ap, bd_ap, gd_ap, ite_ap, bd_rt, rt_bd, bd_bd, bd_gd, gd_gd, gd_true, bd_ite, ite_rt, ite_gd1, ite_gd2, lift_rt, b_and, b_and2, b_or, b_or2, ite_en, look_z, look_s, lookB_z, lookB_o, lookB_s, lookA_z, lookA_c, lookA_s, lookO_o, lookO_s, List.getElem?_cons_zero, List.getElem?_cons_succ, List.set_cons_zero, List.set_cons_succ, Bool.false_eq_true, if_false, if_true, wipeN_n, wipeN_c, free_n, free_c, nOwn_n, nOwn_s, nOwn_c, Bool.true_and, true_and, List.length_cons, List.length_nil, Nat.zero_add, Nat.reduceAdd, Nat.reduceLeDiff, sz, i_en, b_en, l_en, t_en, tl_en, p_en, l1_en, t1_en, snoc_en, app_en, isL_l, c_eq, c_ne, c_inL, c_inT, c_ninL, c_ninT, c_eqE, c_neE, c_eqU, c_neU, c_lt, c_gt, c_le, c_ge, dp_int, dp_bool, dp_unit, dp_list, dp_tu, dp_pair, Nat.max_self, tr_b, tr_i, tr_l, tr_t, o_add, o_sub, o_mul, o_div, o_mod, o_shl, o_shr, o_band, o_neg, o_addL, o_addT, mulB1, i01, x_list, x_tup, x_p0, x_p1, s_list, s_tup, r_list, lt_list, lt_tup, ls_list, q_lenL, q_lenT, q_tupL, q_tupT, q_listL, q_listT, q_all, q_any, q_sum, q_max, q_min, q_int, q_abs, g_rng, toI_en, lcW_en, lcM_all, lcM_if, lcM_gd, List.map_id', List.all_map, List.any_map, Bool.not_true, Bool.not_false, List.length_map, ii_and, ii_or, Option.getD_some, List.isEmpty_map, isEmpty_filterB, Function.comp_def, id_eq, bo_sset, ar_sset, e_sset, sset_en, ssetL_en, bo_meth, bo_disp, ar_meth, ar_disp, e_meth, e_disp, vp_nil, vp_cons, vi_enum, vi_enumf, vi_rng3, x_dct, c_inD, c_ninD, s_dct, isL_d, q_lenD, q_listD, d_int, d_tu, d_pair, enum_en, index_en, mOk_l, od_1, od_2, false_implies, Bool.and_true, and_true, implies_true, forall_const, ite_some, s_lst, x_frz, frz_o, frz_h, frz_s, Option.getD_none, Int.one_mul, forW_en, gd_ff, sz_lt, List.append_nil, List.nil_append, Bool.not_not, t0_en, l0_en]
  refine s_cuts (k := k) (by omega) ?_
  rw [mtE (α := Int × Int)]
  simp only [wbo_var, ar_var, bo_cst, bo_bin, bo_neg, bo_not, bo_and, bo_or, bo_cmp, bo_chain, bo_ife, bo_tup, bo_lst, bo_dnew, bo_idx, bo_slc, bo_rev, bo_call, bo_prim, bo_isi, bo_lc, bo_rg, sh_rt, sh_gd, sh_bd, ar_cst, ar_bin, ar_neg, ar_not, ar_and, ar_or, ar_cmp, ar_chain, ar_ife, ar_tup, ar_lst, ar_dnew, ar_idx, ar_slc, ar_rev, ar_call, ar_prim, ar_isi, ar_lc, ar_rg, e_var, e_cst, e_bin, e_neg, e_not, e_and, e_or, e_cmp, e_chain, e_ife, e_tup, e_lst, e_dnew, e_idx, e_slc, e_rev, e_call, e_prim, e_isi, e_lc, e_rg, wt_and, wt_or, wt_not, wt_e, vs_nil, vs_cons, vs_star, vb_nil, vb_cons, va_nil, va_cons, vo_no, vo_yes, vc_no, vc_yes, vi_val, vi_valf, vi_rng, vi_zip, vi_zipf, getD_0, getD_s, a_v, a_p, Option.bind_some, x_nil, x_cons, x_ite, exec, koF, parW, sets_n, sets_c, rt_ap, bd_ap, gd_ap, ite_ap, bd_rt, rt_bd, bd_bd, bd_gd, gd_gd, gd_true, bd_ite, ite_rt, ite_gd1, ite_gd2, lift_rt, b_and, b_and2, b_or, b_or2, ite_en, look_z, look_s, lookB_z, lookB_o, lookB_s, lookA_z, lookA_c, lookA_s, lookO_o, lookO_s, List.getElem?_cons_zero, List.getElem?_cons_succ, List.set_cons_zero, List.set_cons_succ, Bool.false_eq_true, if_false, if_true, wipeN_n, wipeN_c, free_n, free_c, nOwn_n, nOwn_s, nOwn_c, Bool.true_and, true_and, List.length_cons, List.length_nil, Nat.zero_add, Nat.reduceAdd, Nat.reduceLeDiff, sz, i_en, b_en, l_en, t_en, tl_en, p_en, l1_en, t1_en, snoc_en, app_en, isL_l, c_eq, c_ne, c_inL, c_inT, c_ninL, c_ninT, c_eqE, c_neE, c_eqU, c_neU, c_lt, c_gt, c_le, c_ge, dp_int, dp_bool, dp_unit, dp_list, dp_tu, dp_pair, Nat.max_self, tr_b, tr_i, tr_l, tr_t, o_add, o_sub, o_mul, o_div, o_mod, o_shl, o_shr, o_band, o_neg, o_addL, o_addT, mulB1, i01, x_list, x_tup, x_p0, x_p1, s_list, s_tup, r_list, lt_list, lt_tup, ls_list, q_lenL, q_lenT, q_tupL, q_tupT, q_listL, q_listT, q_all, q_any, q_sum, q_max, q_min, q_int, q_abs, g_rng, toI_en, lcW_en, lcM_all, lcM_if, lcM_gd, List.map_id', List.all_map, List.any_map, Bool.not_true, Bool.not_false, List.length_map, ii_and, ii_or, Option.getD_some, List.isEmpty_map, isEmpty_filterB, Function.comp_def, id_eq, bo_sset, ar_sset, e_sset, sset_en, ssetL_en, bo_meth, bo_disp, ar_meth, ar_disp, e_meth, e_disp, vp_nil, vp_cons, vi_enum, vi_enumf, vi_rng3, x_dct, c_inD, c_ninD, s_dct, isL_d, q_lenD, q_listD, d_int, d_tu, d_pair, enum_en, index_en, mOk_l, od_1, od_2, false_implies, Bool.and_true, and_true, implies_true, forall_const, ite_some, s_lst, x_frz, frz_o, frz_h, frz_s, Option.getD_none, Int.one_mul, forW_en, gd_ff, sz_lt, List.append_nil, List.nil_append, Bool.not_not, t0_en, l0_en]
  refine forL_inv (fun done ρ => ∃ (s : List (Int × Int)) (x3 x4 : Option B), ρ = [some (.sh (en (od n ps))), some (.sh (en (Tu.mk (cutsL n ps)))), some (.sh (en s)), x3, x4, none, none, none] ∧ s = done.foldl (fun f p => f ++ rowW (cutsL n ps) p.1 p.2) [] ∧ s.length ≤ 64 * done.length) (done := []) ⟨[], none, none, rfl, rfl, by simp⟩ ?_ ?_
  · rintro done ⟨i, one⟩ r ρ e ⟨s, x2, x3, rfl, es, hs⟩ K hK
    have hdl : done.length < (cutsL n ps).length := by
      have := congrArg List.length (show enumT (cutsL n ps) = done ++ (i, one) :: r from e)
      unfold enumT at this
      rw [List.length_map, List.length_zipIdx, List.length_append, List.length_cons] at this; omega
    have hr := rowW_len (cutsL n ps) i one
    unfold b5_0
    simp only [wbo_var, ar_var, bo_cst, bo_bin, bo_neg, bo_not, bo_and, bo_or, bo_cmp, bo_chain, bo_ife, bo_tup, bo_lst, bo_dnew, bo_idx, bo_slc, bo_rev, bo_call, bo_prim, bo_isi, bo_lc, bo_rg, sh_rt, sh_gd, sh_bd, ar_cst, ar_bin, ar_neg, ar_not, ar_and, ar_or, ar_cmp, ar_chain, ar_ife, ar_tup, ar_lst, ar_dnew, ar_idx, ar_slc, ar_rev, ar_call, ar_prim, ar_isi, ar_lc, ar_rg, e_var, e_cst, e_bin, e_neg, e_not, e_and, e_or, e_cmp, e_chain, e_ife, e_tup, e_lst, e_dnew, e_idx, e_slc, e_rev, e_call, e_prim, e_isi, e_lc, e_rg, wt_and, wt_or, wt_not, wt_e, vs_nil, vs_cons, vs_star, vb_nil, vb_cons, va_nil, va_cons, vo_no, vo_yes, vc_no, vc_yes, vi_val, vi_valf, vi_rng, vi_zip, vi_zipf, getD_0, getD_s, a_v, a_p, Option.bind_some, x_nil, x_cons, x_ite, exec, koF, parW, sets_n, sets_c, rt_ap, bd_ap, gd_ap, ite_ap, bd_rt, rt_bd, bd_bd, bd_gd, gd_gd, gd_true, bd_ite, ite_rt, ite_gd1, ite_gd2, lift_rt, b_and, b_and2, b_or, b_or2, ite_en, look_z, look_s, lookB_z, lookB_o, lookB_s, lookA_z, lookA_c, lookA_s, lookO_o, lookO_s, List.getElem?_cons_zero, List.getElem?_cons_succ, List.set_cons_zero, List.set_cons_succ, Bool.false_eq_true, if_false, if_true, wipeN_n, wipeN_c, free_n, free_c, nOwn_n, nOwn_s, nOwn_c, Bool.true_and, true_and, List.length_cons, List.length_nil, Nat.zero_add, Nat.reduceAdd, Nat.reduceLeDiff, sz, i_en, b_en, l_en, t_en, tl_en, p_en, l1_en, t1_en, snoc_en, app_en, isL_l, c_eq, c_ne, c_inL, c_inT, c_ninL, c_ninT, c_eqE, c_neE, c_eqU, c_neU, c_lt, c_gt, c_le, c_ge, dp_int, dp_bool, dp_unit, dp_list, dp_tu, dp_pair, Nat.max_self, tr_b, tr_i, tr_l, tr_t, o_add, o_sub, o_mul, o_div, o_mod, o_shl, o_shr, o_band, o_neg, o_addL, o_addT, mulB1, i01, x_list, x_tup, x_p0, x_p1, s_list, s_tup, r_list, lt_list, lt_tup, ls_list, q_lenL, q_lenT, q_tupL, q_tupT, q_listL, q_listT, q_all, q_any, q_sum, q_max, q_min, q_int, q_abs, g_rng, toI_en, lcW_en, lcM_all, lcM_if, lcM_gd, List.map_id', List.all_map, List.any_map, Bool.not_true, Bool.not_false, List.length_map, ii_and, ii_or, Option.getD_some, List.isEmpty_map, isEmpty_filterB, Function.comp_def, id_eq, bo_sset, ar_sset, e_sset, sset_en, ssetL_en, bo_meth, bo_disp, ar_meth, ar_disp, e_meth, e_disp, vp_nil, vp_cons, vi_enum, vi_enumf, vi_rng3, x_dct, c_inD, c_ninD, s_dct, isL_d, q_lenD, q_listD, d_int, d_tu, d_pair, enum_en, index_en, mOk_l, od_1, od_2, false_implies, Bool.and_true, and_true, implies_true, forall_const, ite_some, s_lst, x_frz, frz_o, frz_h, frz_s, Option.getD_none, Int.one_mul, forW_en, gd_ff, sz_lt, List.append_nil, List.nil_append, Bool.not_not, t0_en, l0_en]
    have er : List.map (fun a : Int × Tu Int => (i, a.1)) (List.filter (fun a => !decide (i = a.1) && one.l.all fun a_1 => mb a_1 a.2.l) (enumT (cutsL n ps))) = rowW (cutsL n ps) i one := rfl
    have hl2 : (List.filter (fun a : Int × Tu Int => !decide (i = a.1) && one.l.all fun a_1 => mb a_1 a.2.l) (enumT (cutsL n ps))).length ≤ (cutsL n ps).length := by
      have := congrArg List.length er
      rw [List.length_map] at this
      omega
    rw [er]
    refine ⟨szl (by omega), hK _ ⟨_, _, _, rfl, ?_, ?_⟩⟩
    · rw [List.foldl_append, ← es]; rfl
    · rw [List.length_append, List.length_append, List.length_cons, List.length_nil]; omega
  · rintro ρ ⟨s, x2, x3, rfl, es, hs⟩
    have es : s = wthL (cutsL n ps) := es
    subst es
    unfold b5_1
    simp only [wbo_var, ar_var, bo_cst, bo_bin, bo_neg, bo_not, bo_and, bo_or, bo_cmp, bo_chain, bo_ife, bo_tup, bo_lst, bo_dnew, bo_idx, bo_slc, bo_rev, bo_call, bo_prim, bo_isi, bo_lc, bo_rg, sh_rt, sh_gd, sh_bd, ar_cst, ar_bin, ar_neg, ar_not, ar_and, ar_or, ar_cmp, ar_chain, ar_ife, ar_tup, ar_lst, ar_dnew, ar_idx, ar_slc, ar_rev, ar_call, ar_prim, ar_isi, ar_lc, ar_rg, e_var, e_cst, e_bin, e_neg, e_not, e_and, e_or, e_cmp, e_chain, e_ife, e_tup, e_lst, e_dnew, e_idx, e_slc, e_rev, e_call, e_prim, e_isi, e_lc, e_rg, wt_and, wt_or, wt_not, wt_e, vs_nil, vs_cons, vs_star, vb_nil, vb_cons, va_nil, va_cons, vo_no, vo_yes, vc_no, vc_yes, vi_val, vi_valf, vi_rng, vi_zip, vi_zipf, getD_0, getD_s, a_v, a_p, Option.bind_some, x_nil, x_cons, x_ite, exec, koF, parW, sets_n, sets_c, rt_ap, bd_ap, gd_ap, ite_ap, bd_rt, rt_bd, bd_bd, bd_gd, gd_gd, gd_true, bd_ite, ite_rt, ite_gd1, ite_gd2, lift_rt, b_and, b_and2, b_or, b_or2, ite_en, look_z, look_s, lookB_z, lookB_o, lookB_s, lookA_z, lookA_c, lookA_s, lookO_o, lookO_s, List.getElem?_cons_zero, List.getElem?_cons_succ, List.set_cons_zero, List.set_cons_succ, Bool.false_eq_true, if_false, if_true, wipeN_n, wipeN_c, free_n, free_c, nOwn_n, nOwn_s, nOwn_c, Bool.true_and, true_and, List.length_cons, List.length_nil, Nat.zero_add, Nat.reduceAdd, Nat.reduceLeDiff, sz, i_en, b_en, l_en, t_en, tl_en, p_en, l1_en, t1_en, snoc_en, app_en, isL_l, c_eq, c_ne, c_inL, c_inT, c_ninL, c_ninT, c_eqE, c_neE, c_eqU, c_neU, c_lt, c_gt, c_le, c_ge, dp_int, dp_bool, dp_unit, dp_list, dp_tu, dp_pair, Nat.max_self, tr_b, tr_i, tr_l, tr_t, o_add, o_sub, o_mul, o_div, o_mod, o_shl, o_shr, o_band, o_neg, o_addL, o_addT, mulB1, i01, x_list, x_tup, x_p0, x_p1, s_list, s_tup, r_list, lt_list, lt_tup, ls_list, q_lenL, q_lenT, q_tupL, q_tupT, q_listL, q_listT, q_all, q_any, q_sum, q_max, q_min, q_int, q_abs, g_rng, toI_en, lcW_en, lcM_all, lcM_if, lcM_gd, List.map_id', List.all_map, List.any_map, Bool.not_true, Bool.not_false, List.length_map, ii_and, ii_or, Option.getD_some, List.isEmpty_map, isEmpty_filterB, Function.comp_def, id_eq, bo_sset, ar_sset, e_sset, sset_en, ssetL_en, bo_meth, bo_disp, ar_meth, ar_disp, e_meth, e_disp, vp_nil, vp_cons, vi_enum, vi_enumf, vi_rng3, x_dct, c_inD, c_ninD, s_dct, isL_d, q_lenD, q_listD, d_int, d_tu, d_pair, enum_en, index_en, mOk_l, od_1, od_2, false_implies, Bool.and_true, and_true, implies_true, forall_const, ite_some, s_lst, x_frz, frz_o, frz_h, frz_s, Option.getD_none, Int.one_mul, forW_en, gd_ff, sz_lt, List.append_nil, List.nil_append, Bool.not_not, t0_en, l0_en]
    exact q
/-- lots with all the cuts -/
structure LotsOk (n : Nat) (ps : List (Int × Int)) (S : List (Tu Int)) : Prop where
  nd : S.Nodup
  sub : ∀ s ∈ S, s.l.Sublist (rg n)
  cut : ∀ c ∈ cutsL n ps, c ∈ S
  len : S.length ≤ 32
theorem lots32 (hn : n ≤ 5) : (lotsL (rg n)).length ≤ 32 := by
  rw [lotsL_len, rg_len]; exact Nat.pow_le_pow_right (by decide) hn
theorem good_all (hn : n ≤ 5) : LotsOk n ps (lotsL (rg n)) := ⟨lotsL_nodup _ (rg_nodup n), lotsL_sub _, fun c hc => (mem_cuts.mp hc).1, lots32 hn⟩
theorem good_cuts (hn : n ≤ 5) : LotsOk n ps (cutsL n ps) := ⟨cuts_nodup, fun s hs => lotsL_sub _ s (mem_cuts.mp hs).1, fun _ h => h, by
  have := len_of_sub (cutsL n ps) (lotsL (rg n)) cuts_nodup fun l hl => (mem_cuts.mp hl).1
  have := lots32 hn
  omega⟩
theorem cut_down (g : GO n ps) (hC : ∀ a b c, (a, b) ∈ ps → (b, c) ∈ ps → (a, c) ∈ ps) {c : Tu Int} (hc : c ∈ cutsL n ps) {a b : Int} (hab : (a, b) ∈ ps) (hb : b ∈ c.l) : a ∈ c.l := by
  have e := cut_und hc
  rw [e] at hb ⊢
  obtain ⟨h1, h2⟩ := mem_und.mp hb
  have hr := g.inr _ hab
  refine mem_und.mpr ⟨mem_rg.mpr ⟨hr.1, hr.2.1⟩, fun x hx => ?_⟩
  have := h2 x hx
  unfold leqB at this ⊢
  rw [Bool.or_eq_true, decide_eq_true_iff, mb_iff] at this ⊢
  rcases this with rfl | h
  · exact .inr hab
  · exact .inr (hC a b x hab h)
theorem good_down (hn : n ≤ 5) (g : GO n ps) (hC : ∀ a b c, (a, b) ∈ ps → (b, c) ∈ ps → (a, c) ∈ ps) : LotsOk n ps (srtL ((lotsL (rg n)).filter fun l => ps.all fun p => !(mb p.2 l.l && !mb p.1 l.l))) := by
  refine ⟨srtL_nodup ((lotsL_nodup _ (rg_nodup n)).sublist List.filter_sublist), fun s hs => ?_, fun c hc => ?_, ?_⟩
  · exact lotsL_sub _ s (List.mem_filter.mp (srtL_mem.mp hs)).1
  · refine srtL_mem.mpr (List.mem_filter.mpr ⟨(mem_cuts.mp hc).1, List.all_eq_true.mpr fun p hp => ?_⟩)
    rw [Bool.not_eq_true', ← Bool.not_eq_true]
    intro z
    rw [Bool.and_eq_true, mb_iff, Bool.not_eq_true', mb_not] at z
    exact z.2 (cut_down g hC hc hp z.1)
  · rw [srtL_len]
    have := List.length_filter_le (fun l : Tu Int => ps.all fun p => !(mb p.2 l.l && !mb p.1 l.l)) (lotsL (rg n))
    have := lots32 hn
    omega
theorem three {c1 c2 : Bool} {A1 A2 A3 : W D} {K : D → Prop} {G : List (Tu Int) → Prop} (h1 : ∀ K' : D → Prop, (∀ S, G S → K' (en S)) → A1 K') (h2 : ∀ K' : D → Prop, (∀ S, G S → K' (en S)) → A2 K') (h3 : ∀ K' : D → Prop, (∀ S, G S → K' (en S)) → A3 K') (hk : ∀ S, G S → K (en S)) : if c1 = true then A1 K else if c2 = true then A2 K else A3 K := by
  split
  · exact h1 K hk
  · split
    · exact h2 K hk
    · exact h3 K hk
theorem fold_len {α β : Type} {f : α → List β} {b : Nat} (h : ∀ a, (f a).length ≤ b) : ∀ (as : List α) (s : List β), (as.foldl (fun s a => s ++ f a) s).length ≤ s.length + as.length * b
  | [], s => by simp
  | a :: as, s => by
    have h1 := fold_len h as (s ++ f a)
    have h2 := h a
    rw [List.length_append] at h1
    rw [List.foldl_cons, List.length_cons, Nat.succ_mul]
    omega
theorem wth_len (S : List (Tu Int)) : (wthL S).length ≤ S.length * S.length := by
  have h := fold_len (fun p : Int × Tu Int => rowW_len S p.1 p.2) (enumT S) []
  unfold wthL
  refine Nat.le_trans h ?_
  unfold enumT
  simp
/-- what the law draws: a lattice with all the cuts -/
theorem s_lawRound (hn1 : 1 ≤ n) (hn : n ≤ 5) (g : GO n ps) (hI : ∀ a b, (a, b) ∈ ps → (b, a) ∉ ps) (hC : ∀ a b c, (a, b) ∈ ps → (b, c) ∈ ps → (a, c) ∈ ps)
    (q : ∀ (S : List (Tu Int)) (m : Nat) (L : List (Int × Int)) (nu : Tu Int → Int), Lat n S m L nu → (∀ c ∈ cutsL n ps, c ∈ S) → m ≤ 32 → L.length ≤ 1024 → Q (en (od m L, Tu.mk ((rg n).map fun w => nu ⟨und n ps [w]⟩)))) : CG (k + 6) 25 [.src, .sh (en (od n ps))] Q := by
  unfold CG; rw [hd25 rfl rfl]
  unfold b25
  simp only [wbo_var, ar_var, bo_cst, bo_bin, bo_neg, bo_not, bo_and, bo_or, bo_cmp, bo_chain, bo_ife, bo_tup, bo_lst, bo_dnew, bo_idx, bo_slc, bo_rev, bo_call, bo_prim, bo_isi, bo_lc, bo_rg, sh_rt, sh_gd, sh_bd, ar_cst, ar_bin, ar_neg, ar_not, ar_and, ar_or, ar_cmp, ar_chain, ar_ife, ar_tup, ar_lst, ar_dnew, ar_idx, ar_slc, ar_rev, ar_call, ar_prim, ar_isi, ar_lc, ar_rg, e_var, e_cst, e_bin, e_neg, e_not, e_and, e_or, e_cmp, e_chain, e_ife, e_tup, e_lst, e_dnew, e_idx, e_slc, e_rev, e_call, e_prim, e_isi, e_lc, e_rg, wt_and, wt_or, wt_not, wt_e, vs_nil, vs_cons, vs_star, vb_nil, vb_cons, va_nil, va_cons, vo_no, vo_yes, vc_no, vc_yes, vi_val, vi_valf, vi_rng, vi_zip, vi_zipf, getD_0, getD_s, a_v, a_p, Option.bind_some, x_nil, x_cons, x_ite, exec, koF, parW, sets_n, sets_c, rt_ap, bd_ap, gd_ap, ite_ap, bd_rt, rt_bd, bd_bd, bd_gd, gd_gd, gd_true, bd_ite, ite_rt, ite_gd1, ite_gd2, lift_rt, b_and, b_and2, b_or, b_or2, ite_en, look_z, look_s, lookB_z, lookB_o, lookB_s, lookA_z, lookA_c, lookA_s, lookO_o, lookO_s, List.getElem?_cons_zero, List.getElem?_cons_succ, List.set_cons_zero, List.set_cons_succ, Bool.false_eq_true, if_false, if_true, wipeN_n, wipeN_c, free_n, free_c, nOwn_n, nOwn_s, nOwn_c, Bool.true_and, true_and, List.length_cons, List.length_nil, Nat.zero_add, Nat.reduceAdd, Nat.reduceLeDiff, sz, i_en, b_en, l_en, t_en, tl_en, p_en, l1_en, t1_en, snoc_en, app_en, isL_l, c_eq, c_ne, c_inL, c_inT, c_ninL, c_ninT, c_eqE, c_neE, c_eqU, c_neU, c_lt, c_gt, c_le, c_ge, dp_int, dp_bool, dp_unit, dp_list, dp_tu, dp_pair, Nat.max_self, tr_b, tr_i, tr_l, tr_t, o_add, o_sub, o_mul, o_div, o_mod, o_shl, o_shr, o_band, o_neg, o_addL, o_addT, mulB1, i01, x_list, x_tup, x_p0, x_p1, s_list, s_tup, r_list, lt_list, lt_tup, ls_list, q_lenL, q_lenT, q_tupL, q_tupT, q_listL, q_listT, q_all, q_any, q_sum, q_max, q_min, q_int, q_abs, g_rng, toI_en, lcW_en, lcM_all, lcM_if, lcM_gd, List.map_id', List.all_map, List.any_map, Bool.not_true, Bool.not_false, List.length_map, ii_and, ii_or, Option.getD_some, List.isEmpty_map, isEmpty_filterB, Function.comp_def, id_eq, bo_sset, ar_sset, e_sset, sset_en, ssetL_en, bo_meth, bo_disp, ar_meth, ar_disp, e_meth, e_disp, vp_nil, vp_cons, vi_enum, vi_enumf, vi_rng3, x_dct, c_inD, c_ninD, s_dct, isL_d, q_lenD, q_listD, d_int, d_tu, d_pair, enum_en, index_en, mOk_l, od_1, od_2, false_implies, Bool.and_true, and_true, implies_true, forall_const, ite_some, s_lst, x_frz, frz_o, frz_h, frz_s, Option.getD_none, Int.one_mul, forW_en, gd_ff, sz_lt, List.append_nil, List.nil_append, Bool.not_not, t0_en, l0_en]
  refine s_pick (k := k + 3) (by decide) fun road r1 r2 => ?_
  simp only [wbo_var, ar_var, bo_cst, bo_bin, bo_neg, bo_not, bo_and, bo_or, bo_cmp, bo_chain, bo_ife, bo_tup, bo_lst, bo_dnew, bo_idx, bo_slc, bo_rev, bo_call, bo_prim, bo_isi, bo_lc, bo_rg, sh_rt, sh_gd, sh_bd, ar_cst, ar_bin, ar_neg, ar_not, ar_and, ar_or, ar_cmp, ar_chain, ar_ife, ar_tup, ar_lst, ar_dnew, ar_idx, ar_slc, ar_rev, ar_call, ar_prim, ar_isi, ar_lc, ar_rg, e_var, e_cst, e_bin, e_neg, e_not, e_and, e_or, e_cmp, e_chain, e_ife, e_tup, e_lst, e_dnew, e_idx, e_slc, e_rev, e_call, e_prim, e_isi, e_lc, e_rg, wt_and, wt_or, wt_not, wt_e, vs_nil, vs_cons, vs_star, vb_nil, vb_cons, va_nil, va_cons, vo_no, vo_yes, vc_no, vc_yes, vi_val, vi_valf, vi_rng, vi_zip, vi_zipf, getD_0, getD_s, a_v, a_p, Option.bind_some, x_nil, x_cons, x_ite, exec, koF, parW, sets_n, sets_c, rt_ap, bd_ap, gd_ap, ite_ap, bd_rt, rt_bd, bd_bd, bd_gd, gd_gd, gd_true, bd_ite, ite_rt, ite_gd1, ite_gd2, lift_rt, b_and, b_and2, b_or, b_or2, ite_en, look_z, look_s, lookB_z, lookB_o, lookB_s, lookA_z, lookA_c, lookA_s, lookO_o, lookO_s, List.getElem?_cons_zero, List.getElem?_cons_succ, List.set_cons_zero, List.set_cons_succ, Bool.false_eq_true, if_false, if_true, wipeN_n, wipeN_c, free_n, free_c, nOwn_n, nOwn_s, nOwn_c, Bool.true_and, true_and, List.length_cons, List.length_nil, Nat.zero_add, Nat.reduceAdd, Nat.reduceLeDiff, sz, i_en, b_en, l_en, t_en, tl_en, p_en, l1_en, t1_en, snoc_en, app_en, isL_l, c_eq, c_ne, c_inL, c_inT, c_ninL, c_ninT, c_eqE, c_neE, c_eqU, c_neU, c_lt, c_gt, c_le, c_ge, dp_int, dp_bool, dp_unit, dp_list, dp_tu, dp_pair, Nat.max_self, tr_b, tr_i, tr_l, tr_t, o_add, o_sub, o_mul, o_div, o_mod, o_shl, o_shr, o_band, o_neg, o_addL, o_addT, mulB1, i01, x_list, x_tup, x_p0, x_p1, s_list, s_tup, r_list, lt_list, lt_tup, ls_list, q_lenL, q_lenT, q_tupL, q_tupT, q_listL, q_listT, q_all, q_any, q_sum, q_max, q_min, q_int, q_abs, g_rng, toI_en, lcW_en, lcM_all, lcM_if, lcM_gd, List.map_id', List.all_map, List.any_map, Bool.not_true, Bool.not_false, List.length_map, ii_and, ii_or, Option.getD_some, List.isEmpty_map, isEmpty_filterB, Function.comp_def, id_eq, bo_sset, ar_sset, e_sset, sset_en, ssetL_en, bo_meth, bo_disp, ar_meth, ar_disp, e_meth, e_disp, vp_nil, vp_cons, vi_enum, vi_enumf, vi_rng3, x_dct, c_inD, c_ninD, s_dct, isL_d, q_lenD, q_listD, d_int, d_tu, d_pair, enum_en, index_en, mOk_l, od_1, od_2, false_implies, Bool.and_true, and_true, implies_true, forall_const, ite_some, s_lst, x_frz, frz_o, frz_h, frz_s, Option.getD_none, Int.one_mul, forW_en, gd_ff, sz_lt, List.append_nil, List.nil_append, Bool.not_not, t0_en, l0_en]
  refine three (A1 := callF (progOf rows) (k + 5) 21 [B.sh (en (od n ps))]) (A2 := callF (progOf rows) (k + 5) 19 [B.sh (en (n : Int))]) (A3 := callF (progOf rows) (k + 5) 20 [B.sh (en (od n ps))]) (G := LotsOk n ps)
    (fun K' h => s_down (k := k + 1) (by omega) (h _ (good_down hn g hC))) (fun K' h => s_lots (k := k + 4) (by omega) (h _ (good_all hn))) (fun K' h => s_lawCuts (k := k + 1) (by omega) (h _ (good_cuts hn))) fun S G => ?_
  have e := @e_lawUnder (k + 3) n ps (by omega)
  unfold CG at e
  simp only [wbo_var, ar_var, bo_cst, bo_bin, bo_neg, bo_not, bo_and, bo_or, bo_cmp, bo_chain, bo_ife, bo_tup, bo_lst, bo_dnew, bo_idx, bo_slc, bo_rev, bo_call, bo_prim, bo_isi, bo_lc, bo_rg, sh_rt, sh_gd, sh_bd, ar_cst, ar_bin, ar_neg, ar_not, ar_and, ar_or, ar_cmp, ar_chain, ar_ife, ar_tup, ar_lst, ar_dnew, ar_idx, ar_slc, ar_rev, ar_call, ar_prim, ar_isi, ar_lc, ar_rg, e_var, e_cst, e_bin, e_neg, e_not, e_and, e_or, e_cmp, e_chain, e_ife, e_tup, e_lst, e_dnew, e_idx, e_slc, e_rev, e_call, e_prim, e_isi, e_lc, e_rg, wt_and, wt_or, wt_not, wt_e, vs_nil, vs_cons, vs_star, vb_nil, vb_cons, va_nil, va_cons, vo_no, vo_yes, vc_no, vc_yes, vi_val, vi_valf, vi_rng, vi_zip, vi_zipf, getD_0, getD_s, a_v, a_p, Option.bind_some, x_nil, x_cons, x_ite, exec, koF, parW, sets_n, sets_c, rt_ap, bd_ap, gd_ap, ite_ap, bd_rt, rt_bd, bd_bd, bd_gd, gd_gd, gd_true, bd_ite, ite_rt, ite_gd1, ite_gd2, lift_rt, b_and, b_and2, b_or, b_or2, ite_en, look_z, look_s, lookB_z, lookB_o, lookB_s, lookA_z, lookA_c, lookA_s, lookO_o, lookO_s, List.getElem?_cons_zero, List.getElem?_cons_succ, List.set_cons_zero, List.set_cons_succ, Bool.false_eq_true, if_false, if_true, wipeN_n, wipeN_c, free_n, free_c, nOwn_n, nOwn_s, nOwn_c, Bool.true_and, true_and, List.length_cons, List.length_nil, Nat.zero_add, Nat.reduceAdd, Nat.reduceLeDiff, sz, i_en, b_en, l_en, t_en, tl_en, p_en, l1_en, t1_en, snoc_en, app_en, isL_l, c_eq, c_ne, c_inL, c_inT, c_ninL, c_ninT, c_eqE, c_neE, c_eqU, c_neU, c_lt, c_gt, c_le, c_ge, dp_int, dp_bool, dp_unit, dp_list, dp_tu, dp_pair, Nat.max_self, tr_b, tr_i, tr_l, tr_t, o_add, o_sub, o_mul, o_div, o_mod, o_shl, o_shr, o_band, o_neg, o_addL, o_addT, mulB1, i01, x_list, x_tup, x_p0, x_p1, s_list, s_tup, r_list, lt_list, lt_tup, ls_list, q_lenL, q_lenT, q_tupL, q_tupT, q_listL, q_listT, q_all, q_any, q_sum, q_max, q_min, q_int, q_abs, g_rng, toI_en, lcW_en, lcM_all, lcM_if, lcM_gd, List.map_id', List.all_map, List.any_map, Bool.not_true, Bool.not_false, List.length_map, ii_and, ii_or, Option.getD_some, List.isEmpty_map, isEmpty_filterB, Function.comp_def, id_eq, bo_sset, ar_sset, e_sset, sset_en, ssetL_en, bo_meth, bo_disp, ar_meth, ar_disp, e_meth, e_disp, vp_nil, vp_cons, vi_enum, vi_enumf, vi_rng3, x_dct, c_inD, c_ninD, s_dct, isL_d, q_lenD, q_listD, d_int, d_tu, d_pair, enum_en, index_en, mOk_l, od_1, od_2, false_implies, Bool.and_true, and_true, implies_true, forall_const, ite_some, s_lst, x_frz, frz_o, frz_h, frz_s, Option.getD_none, Int.one_mul, forW_en, gd_ff, sz_lt, List.append_nil, List.nil_append, Bool.not_not, t0_en, l0_en]
  simp only [e]
  simp only [wbo_var, ar_var, bo_cst, bo_bin, bo_neg, bo_not, bo_and, bo_or, bo_cmp, bo_chain, bo_ife, bo_tup, bo_lst, bo_dnew, bo_idx, bo_slc, bo_rev, bo_call, bo_prim, bo_isi, bo_lc, bo_rg, sh_rt, sh_gd, sh_bd, ar_cst, ar_bin, ar_neg, ar_not, ar_and, ar_or, ar_cmp, ar_chain, ar_ife, ar_tup, ar_lst, ar_dnew, ar_idx, ar_slc, ar_rev, ar_call, ar_prim, ar_isi, ar_lc, ar_rg, e_var, e_cst, e_bin, e_neg, e_not, e_and, e_or, e_cmp, e_chain, e_ife, e_tup, e_lst, e_dnew, e_idx, e_slc, e_rev, e_call, e_prim, e_isi, e_lc, e_rg, wt_and, wt_or, wt_not, wt_e, vs_nil, vs_cons, vs_star, vb_nil, vb_cons, va_nil, va_cons, vo_no, vo_yes, vc_no, vc_yes, vi_val, vi_valf, vi_rng, vi_zip, vi_zipf, getD_0, getD_s, a_v, a_p, Option.bind_some, x_nil, x_cons, x_ite, exec, koF, parW, sets_n, sets_c, rt_ap, bd_ap, gd_ap, ite_ap, bd_rt, rt_bd, bd_bd, bd_gd, gd_gd, gd_true, bd_ite, ite_rt, ite_gd1, ite_gd2, lift_rt, b_and, b_and2, b_or, b_or2, ite_en, look_z, look_s, lookB_z, lookB_o, lookB_s, lookA_z, lookA_c, lookA_s, lookO_o, lookO_s, List.getElem?_cons_zero, List.getElem?_cons_succ, List.set_cons_zero, List.set_cons_succ, Bool.false_eq_true, if_false, if_true, wipeN_n, wipeN_c, free_n, free_c, nOwn_n, nOwn_s, nOwn_c, Bool.true_and, true_and, List.length_cons, List.length_nil, Nat.zero_add, Nat.reduceAdd, Nat.reduceLeDiff, sz, i_en, b_en, l_en, t_en, tl_en, p_en, l1_en, t1_en, snoc_en, app_en, isL_l, c_eq, c_ne, c_inL, c_inT, c_ninL, c_ninT, c_eqE, c_neE, c_eqU, c_neU, c_lt, c_gt, c_le, c_ge, dp_int, dp_bool, dp_unit, dp_list, dp_tu, dp_pair, Nat.max_self, tr_b, tr_i, tr_l, tr_t, o_add, o_sub, o_mul, o_div, o_mod, o_shl, o_shr, o_band, o_neg, o_addL, o_addT, mulB1, i01, x_list, x_tup, x_p0, x_p1, s_list, s_tup, r_list, lt_list, lt_tup, ls_list, q_lenL, q_lenT, q_tupL, q_tupT, q_listL, q_listT, q_all, q_any, q_sum, q_max, q_min, q_int, q_abs, g_rng, toI_en, lcW_en, lcM_all, lcM_if, lcM_gd, List.map_id', List.all_map, List.any_map, Bool.not_true, Bool.not_false, List.length_map, ii_and, ii_or, Option.getD_some, List.isEmpty_map, isEmpty_filterB, Function.comp_def, id_eq, bo_sset, ar_sset, e_sset, sset_en, ssetL_en, bo_meth, bo_disp, ar_meth, ar_disp, e_meth, e_disp, vp_nil, vp_cons, vi_enum, vi_enumf, vi_rng3, x_dct, c_inD, c_ninD, s_dct, isL_d, q_lenD, q_listD, d_int, d_tu, d_pair, enum_en, index_en, mOk_l, od_1, od_2, false_implies, Bool.and_true, and_true, implies_true, forall_const, ite_some, s_lst, x_frz, frz_o, frz_h, frz_s, Option.getD_none, Int.one_mul, forW_en, gd_ff, sz_lt, List.append_nil, List.nil_append, Bool.not_not, t0_en, l0_en]
  rw [rgI_rg]
  have hm : S.length ≤ 32 := G.len
  refine ⟨rng_ok (by omega), fun a ha => G.cut _ (und_cut fun x hx => by rw [List.mem_singleton.mp hx]; exact ha), s_within (k := k + 4) (by omega) ?_⟩
  simp only [wbo_var, ar_var, bo_cst, bo_bin, bo_neg, bo_not, bo_and, bo_or, bo_cmp, bo_chain, bo_ife, bo_tup, bo_lst, bo_dnew, bo_idx, bo_slc, bo_rev, bo_call, bo_prim, bo_isi, bo_lc, bo_rg, sh_rt, sh_gd, sh_bd, ar_cst, ar_bin, ar_neg, ar_not, ar_and, ar_or, ar_cmp, ar_chain, ar_ife, ar_tup, ar_lst, ar_dnew, ar_idx, ar_slc, ar_rev, ar_call, ar_prim, ar_isi, ar_lc, ar_rg, e_var, e_cst, e_bin, e_neg, e_not, e_and, e_or, e_cmp, e_chain, e_ife, e_tup, e_lst, e_dnew, e_idx, e_slc, e_rev, e_call, e_prim, e_isi, e_lc, e_rg, wt_and, wt_or, wt_not, wt_e, vs_nil, vs_cons, vs_star, vb_nil, vb_cons, va_nil, va_cons, vo_no, vo_yes, vc_no, vc_yes, vi_val, vi_valf, vi_rng, vi_zip, vi_zipf, getD_0, getD_s, a_v, a_p, Option.bind_some, x_nil, x_cons, x_ite, exec, koF, parW, sets_n, sets_c, rt_ap, bd_ap, gd_ap, ite_ap, bd_rt, rt_bd, bd_bd, bd_gd, gd_gd, gd_true, bd_ite, ite_rt, ite_gd1, ite_gd2, lift_rt, b_and, b_and2, b_or, b_or2, ite_en, look_z, look_s, lookB_z, lookB_o, lookB_s, lookA_z, lookA_c, lookA_s, lookO_o, lookO_s, List.getElem?_cons_zero, List.getElem?_cons_succ, List.set_cons_zero, List.set_cons_succ, Bool.false_eq_true, if_false, if_true, wipeN_n, wipeN_c, free_n, free_c, nOwn_n, nOwn_s, nOwn_c, Bool.true_and, true_and, List.length_cons, List.length_nil, Nat.zero_add, Nat.reduceAdd, Nat.reduceLeDiff, sz, i_en, b_en, l_en, t_en, tl_en, p_en, l1_en, t1_en, snoc_en, app_en, isL_l, c_eq, c_ne, c_inL, c_inT, c_ninL, c_ninT, c_eqE, c_neE, c_eqU, c_neU, c_lt, c_gt, c_le, c_ge, dp_int, dp_bool, dp_unit, dp_list, dp_tu, dp_pair, Nat.max_self, tr_b, tr_i, tr_l, tr_t, o_add, o_sub, o_mul, o_div, o_mod, o_shl, o_shr, o_band, o_neg, o_addL, o_addT, mulB1, i01, x_list, x_tup, x_p0, x_p1, s_list, s_tup, r_list, lt_list, lt_tup, ls_list, q_lenL, q_lenT, q_tupL, q_tupT, q_listL, q_listT, q_all, q_any, q_sum, q_max, q_min, q_int, q_abs, g_rng, toI_en, lcW_en, lcM_all, lcM_if, lcM_gd, List.map_id', List.all_map, List.any_map, Bool.not_true, Bool.not_false, List.length_map, ii_and, ii_or, Option.getD_some, List.isEmpty_map, isEmpty_filterB, Function.comp_def, id_eq, bo_sset, ar_sset, e_sset, sset_en, ssetL_en, bo_meth, bo_disp, ar_meth, ar_disp, e_meth, e_disp, vp_nil, vp_cons, vi_enum, vi_enumf, vi_rng3, x_dct, c_inD, c_ninD, s_dct, isL_d, q_lenD, q_listD, d_int, d_tu, d_pair, enum_en, index_en, mOk_l, od_1, od_2, false_implies, Bool.and_true, and_true, implies_true, forall_const, ite_some, s_lst, x_frz, frz_o, frz_h, frz_s, Option.getD_none, Int.one_mul, forW_en, gd_ff, sz_lt, List.append_nil, List.nil_append, Bool.not_not, t0_en, l0_en]
  refine ⟨rng_ok (by omega), ?_⟩
  rw [rgI_rg]
  refine s_mixed (k := k + 3) (by rw [rg_len]; omega) fun names hp => ?_
  simp only [wbo_var, ar_var, bo_cst, bo_bin, bo_neg, bo_not, bo_and, bo_or, bo_cmp, bo_chain, bo_ife, bo_tup, bo_lst, bo_dnew, bo_idx, bo_slc, bo_rev, bo_call, bo_prim, bo_isi, bo_lc, bo_rg, sh_rt, sh_gd, sh_bd, ar_cst, ar_bin, ar_neg, ar_not, ar_and, ar_or, ar_cmp, ar_chain, ar_ife, ar_tup, ar_lst, ar_dnew, ar_idx, ar_slc, ar_rev, ar_call, ar_prim, ar_isi, ar_lc, ar_rg, e_var, e_cst, e_bin, e_neg, e_not, e_and, e_or, e_cmp, e_chain, e_ife, e_tup, e_lst, e_dnew, e_idx, e_slc, e_rev, e_call, e_prim, e_isi, e_lc, e_rg, wt_and, wt_or, wt_not, wt_e, vs_nil, vs_cons, vs_star, vb_nil, vb_cons, va_nil, va_cons, vo_no, vo_yes, vc_no, vc_yes, vi_val, vi_valf, vi_rng, vi_zip, vi_zipf, getD_0, getD_s, a_v, a_p, Option.bind_some, x_nil, x_cons, x_ite, exec, koF, parW, sets_n, sets_c, rt_ap, bd_ap, gd_ap, ite_ap, bd_rt, rt_bd, bd_bd, bd_gd, gd_gd, gd_true, bd_ite, ite_rt, ite_gd1, ite_gd2, lift_rt, b_and, b_and2, b_or, b_or2, ite_en, look_z, look_s, lookB_z, lookB_o, lookB_s, lookA_z, lookA_c, lookA_s, lookO_o, lookO_s, List.getElem?_cons_zero, List.getElem?_cons_succ, List.set_cons_zero, List.set_cons_succ, Bool.false_eq_true, if_false, if_true, wipeN_n, wipeN_c, free_n, free_c, nOwn_n, nOwn_s, nOwn_c, Bool.true_and, true_and, List.length_cons, List.length_nil, Nat.zero_add, Nat.reduceAdd, Nat.reduceLeDiff, sz, i_en, b_en, l_en, t_en, tl_en, p_en, l1_en, t1_en, snoc_en, app_en, isL_l, c_eq, c_ne, c_inL, c_inT, c_ninL, c_ninT, c_eqE, c_neE, c_eqU, c_neU, c_lt, c_gt, c_le, c_ge, dp_int, dp_bool, dp_unit, dp_list, dp_tu, dp_pair, Nat.max_self, tr_b, tr_i, tr_l, tr_t, o_add, o_sub, o_mul, o_div, o_mod, o_shl, o_shr, o_band, o_neg, o_addL, o_addT, mulB1, i01, x_list, x_tup, x_p0, x_p1, s_list, s_tup, r_list, lt_list, lt_tup, ls_list, q_lenL, q_lenT, q_tupL, q_tupT, q_listL, q_listT, q_all, q_any, q_sum, q_max, q_min, q_int, q_abs, g_rng, toI_en, lcW_en, lcM_all, lcM_if, lcM_gd, List.map_id', List.all_map, List.any_map, Bool.not_true, Bool.not_false, List.length_map, ii_and, ii_or, Option.getD_some, List.isEmpty_map, isEmpty_filterB, Function.comp_def, id_eq, bo_sset, ar_sset, e_sset, sset_en, ssetL_en, bo_meth, bo_disp, ar_meth, ar_disp, e_meth, e_disp, vp_nil, vp_cons, vi_enum, vi_enumf, vi_rng3, x_dct, c_inD, c_ninD, s_dct, isL_d, q_lenD, q_listD, d_int, d_tu, d_pair, enum_en, index_en, mOk_l, od_1, od_2, false_implies, Bool.and_true, and_true, implies_true, forall_const, ite_some, s_lst, x_frz, frz_o, frz_h, frz_s, Option.getD_none, Int.one_mul, forW_en, gd_ff, sz_lt, List.append_nil, List.nil_append, Bool.not_not, t0_en, l0_en]
  have nl : names.length = S.length := by rw [hp.length_eq, rg_len]
  have lt : ∀ {i : Nat} {a : Tu Int}, S[i]? = some a → i < S.length := fun h => (List.getElem?_eq_some_iff.mp h).1
  refine ⟨fun p hp' => ?_, ?_⟩
  · obtain ⟨i, j, a, b, hi, hj, _, _, rfl⟩ := wth_mem.mp hp'
    have h1 := lt hi
    have h2 := lt hj
    exact ⟨ixOk (by simp) (by simp only; omega), ixOk (by simp) (by simp only; omega)⟩
  rw [q_sortP]
  simp only [wbo_var, ar_var, bo_cst, bo_bin, bo_neg, bo_not, bo_and, bo_or, bo_cmp, bo_chain, bo_ife, bo_tup, bo_lst, bo_dnew, bo_idx, bo_slc, bo_rev, bo_call, bo_prim, bo_isi, bo_lc, bo_rg, sh_rt, sh_gd, sh_bd, ar_cst, ar_bin, ar_neg, ar_not, ar_and, ar_or, ar_cmp, ar_chain, ar_ife, ar_tup, ar_lst, ar_dnew, ar_idx, ar_slc, ar_rev, ar_call, ar_prim, ar_isi, ar_lc, ar_rg, e_var, e_cst, e_bin, e_neg, e_not, e_and, e_or, e_cmp, e_chain, e_ife, e_tup, e_lst, e_dnew, e_idx, e_slc, e_rev, e_call, e_prim, e_isi, e_lc, e_rg, wt_and, wt_or, wt_not, wt_e, vs_nil, vs_cons, vs_star, vb_nil, vb_cons, va_nil, va_cons, vo_no, vo_yes, vc_no, vc_yes, vi_val, vi_valf, vi_rng, vi_zip, vi_zipf, getD_0, getD_s, a_v, a_p, Option.bind_some, x_nil, x_cons, x_ite, exec, koF, parW, sets_n, sets_c, rt_ap, bd_ap, gd_ap, ite_ap, bd_rt, rt_bd, bd_bd, bd_gd, gd_gd, gd_true, bd_ite, ite_rt, ite_gd1, ite_gd2, lift_rt, b_and, b_and2, b_or, b_or2, ite_en, look_z, look_s, lookB_z, lookB_o, lookB_s, lookA_z, lookA_c, lookA_s, lookO_o, lookO_s, List.getElem?_cons_zero, List.getElem?_cons_succ, List.set_cons_zero, List.set_cons_succ, Bool.false_eq_true, if_false, if_true, wipeN_n, wipeN_c, free_n, free_c, nOwn_n, nOwn_s, nOwn_c, Bool.true_and, true_and, List.length_cons, List.length_nil, Nat.zero_add, Nat.reduceAdd, Nat.reduceLeDiff, sz, i_en, b_en, l_en, t_en, tl_en, p_en, l1_en, t1_en, snoc_en, app_en, isL_l, c_eq, c_ne, c_inL, c_inT, c_ninL, c_ninT, c_eqE, c_neE, c_eqU, c_neU, c_lt, c_gt, c_le, c_ge, dp_int, dp_bool, dp_unit, dp_list, dp_tu, dp_pair, Nat.max_self, tr_b, tr_i, tr_l, tr_t, o_add, o_sub, o_mul, o_div, o_mod, o_shl, o_shr, o_band, o_neg, o_addL, o_addT, mulB1, i01, x_list, x_tup, x_p0, x_p1, s_list, s_tup, r_list, lt_list, lt_tup, ls_list, q_lenL, q_lenT, q_tupL, q_tupT, q_listL, q_listT, q_all, q_any, q_sum, q_max, q_min, q_int, q_abs, g_rng, toI_en, lcW_en, lcM_all, lcM_if, lcM_gd, List.map_id', List.all_map, List.any_map, Bool.not_true, Bool.not_false, List.length_map, ii_and, ii_or, Option.getD_some, List.isEmpty_map, isEmpty_filterB, Function.comp_def, id_eq, bo_sset, ar_sset, e_sset, sset_en, ssetL_en, bo_meth, bo_disp, ar_meth, ar_disp, e_meth, e_disp, vp_nil, vp_cons, vi_enum, vi_enumf, vi_rng3, x_dct, c_inD, c_ninD, s_dct, isL_d, q_lenD, q_listD, d_int, d_tu, d_pair, enum_en, index_en, mOk_l, od_1, od_2, false_implies, Bool.and_true, and_true, implies_true, forall_const, ite_some, s_lst, x_frz, frz_o, frz_h, frz_s, Option.getD_none, Int.one_mul, forW_en, gd_ff, sz_lt, List.append_nil, List.nil_append, Bool.not_not, t0_en, l0_en]
  refine ⟨fun a ha => ?_, ?_⟩
  · obtain ⟨w, hw, rfl⟩ := List.mem_map.mp ha
    have h1 : Tu.mk (und n ps [w]) ∈ S := G.cut _ (und_cut fun x hx => by rw [List.mem_singleton.mp hx]; exact hw)
    have := List.idxOf_lt_length_iff.mpr h1
    exact ixOk (by omega) (by omega)
  · have hl := wth_len S
    have hl2 : S.length * S.length ≤ 32 * 32 := Nat.mul_le_mul hm hm
    have := q S S.length (((wthL S).map fun a => (pix names a.1, pix names a.2)).mergeSort leP) (fun s => pix names (S.idxOf s : Int)) (lat_of G.nd G.sub hp _ fun p => by
      rw [(List.mergeSort_perm _ leP).mem_iff, List.mem_map]
      exact ⟨fun ⟨a, h1, h2⟩ => ⟨a, h1, h2.symm⟩, fun ⟨a, h1, h2⟩ => ⟨a, h1, h2.symm⟩⟩) G.cut hm (by rw [List.length_mergeSort, List.length_map]; omega)
    rw [List.map_map]
    exact this
end
end PD
set_option maxHeartbeats 4000000
/-! K59j: cuts stand in each lattice that has them (plain). -/
namespace PD
open PySem L2
section
variable {n m : Nat} {S : List (Tu Int)} {L ps : List (Int × Int)} {nu : Tu Int → Int}
theorem stB_of {f : Int → Int} (h : ∀ a ∈ rg n, ∀ b ∈ rg n, a ≠ b → f a ≠ f b ∧ leqB L (f a) (f b) = leqB ps a b) : stB n ps L f = true := by
  unfold stB
  refine List.all_eq_true.mpr fun a ha => List.all_eq_true.mpr fun b hb => ?_
  by_cases hab : a = b
  · simp [hab]
  · obtain ⟨h1, h2⟩ := h a ha b hb hab
    unfold leqB at h2
    rw [decide_eq_false hab, decide_eq_false h1, Bool.false_or, Bool.false_or] at h2
    rw [decide_eq_false hab, decide_eq_false h1, h2]
    simp
theorem home_le (hC : ∀ a b c, (a, b) ∈ ps → (b, c) ∈ ps → (a, c) ∈ ps) {a b : Int} (ha : a ∈ rg n) : subB ⟨und n ps [a]⟩ ⟨und n ps [b]⟩ = leqB ps a b := by
  rw [Bool.eq_iff_iff, subB_iff]
  constructor
  · intro h
    have := h a (mem_und.mpr ⟨ha, fun x hx => by rw [List.mem_singleton.mp hx]; unfold leqB; simp⟩)
    exact (mem_und.mp this).2 b (by simp)
  · intro h x hx
    obtain ⟨h1, h2⟩ := mem_und.mp hx
    refine mem_und.mpr ⟨h1, fun y hy => ?_⟩
    rw [List.mem_singleton.mp hy]
    have h2 := h2 a (by simp)
    unfold leqB at h h2 ⊢
    rw [Bool.or_eq_true, decide_eq_true_iff, mb_iff] at h h2 ⊢
    rcases h2 with rfl | h2
    · exact h
    · rcases h with rfl | h
      · exact .inr h2
      · exact .inr (hC x a b h2 h)
theorem leq_anti (hI : ∀ a b, (a, b) ∈ ps → (b, a) ∉ ps) {a b : Int} (h1 : leqB ps a b = true) (h2 : leqB ps b a = true) : a = b := by
  unfold leqB at h1 h2
  rw [Bool.or_eq_true, decide_eq_true_iff, mb_iff] at h1 h2
  rcases h1 with h1 | h1
  · exact h1
  · rcases h2 with h2 | h2
    · exact h2.symm
    · exact absurd h2 (hI a b h1)
theorem home_cut {w : Int} (hw : w ∈ rg n) : Tu.mk (und n ps [w]) ∈ cutsL n ps := und_cut fun x hx => by rw [List.mem_singleton.mp hx]; exact hw
/-- the order's works stand in the lattice -/
theorem st_home (hI : ∀ a b, (a, b) ∈ ps → (b, a) ∉ ps) (hC : ∀ a b c, (a, b) ∈ ps → (b, c) ∈ ps → (a, c) ∈ ps) (h : Lat n S m L nu) (hS : ∀ c ∈ cutsL n ps, c ∈ S) {f : Int → Int} (hf : ∀ w ∈ rg n, f w = nu ⟨und n ps [w]⟩) : stB n ps L f = true := by
  refine stB_of fun a ha b hb hab => ?_
  have sa := hS _ (home_cut (n := n) (ps := ps) ha)
  have sb := hS _ (home_cut (n := n) (ps := ps) hb)
  rw [hf a ha, hf b hb, h.le _ sa _ sb, home_le hC ha]
  refine ⟨fun e => hab ?_, rfl⟩
  have e := h.inj sa sb e
  refine leq_anti hI ?_ ?_
  · rw [← home_le hC ha, e]; exact subB_refl _
  · rw [← home_le hC hb, e]; exact subB_refl _
/-- the cuts' own lattice -/
theorem lat_cuts : Lat n (cutsL n ps) (cutsL n ps).length (wthL (cutsL n ps)) fun s => ((cutsL n ps).idxOf s : Int) := by
  have pr : ∀ {i : Nat}, i < (cutsL n ps).length → pix (rg (cutsL n ps).length) (i : Int) = (i : Int) := fun {i} hi => by
    have h2 : i < (rg (cutsL n ps).length).length := by rw [rg_len]; exact hi
    rw [pix_of (List.getElem?_eq_getElem h2), rg_at h2]
  have lt : ∀ {i : Nat} {a : Tu Int}, (cutsL n ps)[i]? = some a → i < (cutsL n ps).length := fun h => (List.getElem?_eq_some_iff.mp h).1
  have h := lat_of (n := n) (some := cutsL n ps) (names := rg (cutsL n ps).length) cuts_nodup (fun s hs => lotsL_sub _ s (mem_cuts.mp hs).1) (List.Perm.refl _) (wthL (cutsL n ps)) fun p => by
    constructor
    · intro hp
      obtain ⟨i, j, a, b, hi, hj, _, _, rfl⟩ := wth_mem.mp hp
      exact ⟨_, hp, by simp only; rw [pr (lt hi), pr (lt hj)]⟩
    · rintro ⟨q, hq, rfl⟩
      obtain ⟨i, j, a, b, hi, hj, _, _, rfl⟩ := wth_mem.mp hq
      simp only
      rw [pr (lt hi), pr (lt hj)]
      exact hq
  have e : ∀ s ∈ cutsL n ps, pix (rg (cutsL n ps).length) ((cutsL n ps).idxOf s : Int) = ((cutsL n ps).idxOf s : Int) := fun s hs => pr (List.idxOf_lt_length_iff.mpr hs)
  exact ⟨h.nd, h.sub, h.len, h.inr, fun s hs => by rw [← e s hs]; exact h.at_ s hs, fun x hx => by
    obtain ⟨s, hs, rfl⟩ := h.all x hx
    exact ⟨s, hs, e s hs⟩, fun s hs t ht => by
    have := h.le s hs t ht
    rw [e s hs, e t ht] at this
    exact this⟩
/-- cuts stand in the lattice -/
theorem st_cuts (h : Lat n S m L nu) (hS : ∀ c ∈ cutsL n ps, c ∈ S) {f : Int → Int} (hf : ∀ c ∈ cutsL n ps, f ((cutsL n ps).idxOf c : Int) = nu c) : stB (cutsL n ps).length (wthL (cutsL n ps)) L f = true := by
  have hd := lat_cuts (n := n) (ps := ps)
  refine stB_of fun a ha b hb hab => ?_
  obtain ⟨s, hs, rfl⟩ := hd.all a ha
  obtain ⟨t, ht, rfl⟩ := hd.all b hb
  rw [hf s hs, hf t ht, h.le _ (hS s hs) _ (hS t ht), hd.le s hs t ht]
  refine ⟨fun e => hab ?_, rfl⟩
  rw [h.inj (hS s hs) (hS t ht) e]
theorem join_cut (g : GO n ps) (hC : ∀ a b c, (a, b) ∈ ps → (b, c) ∈ ps → (a, c) ∈ ps) (h : Lat n S m L nu) (hS : ∀ c ∈ cutsL n ps, c ∈ S) {c : Tu Int} (hc : c ∈ cutsL n ps) {l : List Int} (hl : ∀ y, y ∈ l ↔ ∃ x ∈ c.l, y = nu ⟨und n ps [x]⟩) : joinO m L l = some (nu c) := by
  have cr : ∀ x ∈ c.l, x ∈ rg n := fun x hx => (lotsL_sub _ c (mem_cuts.mp hc).1).subset hx
  refine h.join (hS c hc) (fun y hy => ?_) fun t ht hy => ?_
  · obtain ⟨x, hx, rfl⟩ := (hl y).mp hy
    rw [h.le _ (hS _ (home_cut (cr x hx))) _ (hS c hc), subB_iff]
    intro v hv
    have := (mem_und.mp hv).2 x (by simp)
    unfold leqB at this
    rw [Bool.or_eq_true, decide_eq_true_iff, mb_iff] at this
    rcases this with rfl | this
    · exact hx
    · exact cut_down g hC hc this hx
  · rw [subB_iff]
    intro x hx
    have := hy _ ((hl _).mpr ⟨x, hx, rfl⟩)
    rw [h.le _ (hS _ (home_cut (cr x hx))) _ ht, subB_iff] at this
    exact this x (mem_und.mpr ⟨cr x hx, fun y hy => by rw [List.mem_singleton.mp hy]; unfold leqB; simp⟩)
theorem two_iff {α : Type} {a b : α} {P : α → Prop} : (∀ y ∈ [b, a], P y) ↔ P b ∧ P a := by simp
/-- two cuts have a meet and a join -/
theorem cuts_lat : ∀ a ∈ rg (cutsL n ps).length, ∀ b ∈ rg (cutsL n ps).length, b < a → ∃ x y, meetO (cutsL n ps).length (wthL (cutsL n ps)) [b, a] = some x ∧ joinO (cutsL n ps).length (wthL (cutsL n ps)) [b, a] = some y := by
  have h := lat_cuts (n := n) (ps := ps)
  intro a ha b hb _
  obtain ⟨s, hs, rfl⟩ := h.all a ha
  obtain ⟨t, ht, rfl⟩ := h.all b hb
  have sr : ∀ {s : Tu Int}, s ∈ cutsL n ps → ∀ x ∈ s.l, x ∈ rg n := fun hs x hx => (h.sub _ hs).subset hx
  have hm := cut_meet ht hs
  have hj : Tu.mk (shu n ps (t.l ++ s.l)) ∈ cutsL n ps := shu_cut
  have inj : ∀ x ∈ t.l ++ s.l, x ∈ shu n ps (t.l ++ s.l) := fun x hx => mem_und.mpr ⟨(List.mem_append.mp hx).elim (sr ht x) (sr hs x), fun y hy => (mem_abv.mp hy).2 x hx⟩
  refine ⟨_, _, h.meet hm (two_iff.mpr ⟨?_, ?_⟩) fun u hu hy => ?_, h.join hj (two_iff.mpr ⟨?_, ?_⟩) fun u hu hy => ?_⟩
  · rw [h.le _ hm _ ht, subB_iff]; exact fun x hx => (List.mem_filter.mp hx).1
  · rw [h.le _ hm _ hs, subB_iff]; exact fun x hx => mb_iff.mp (List.mem_filter.mp hx).2
  · obtain ⟨h1, h2⟩ := two_iff.mp hy
    rw [h.le _ hu _ ht, subB_iff] at h1
    rw [h.le _ hu _ hs, subB_iff] at h2
    exact subB_iff.mpr fun x hx => List.mem_filter.mpr ⟨h1 x hx, mb_iff.mpr (h2 x hx)⟩
  · rw [h.le _ ht _ hj, subB_iff]; exact fun x hx => inj x (List.mem_append_left _ hx)
  · rw [h.le _ hs _ hj, subB_iff]; exact fun x hx => inj x (List.mem_append_right _ hx)
  · obtain ⟨h1, h2⟩ := two_iff.mp hy
    rw [h.le _ ht _ hu, subB_iff] at h1
    rw [h.le _ hs _ hu, subB_iff] at h2
    refine subB_iff.mpr fun x hx => ?_
    rw [cut_und hu]
    obtain ⟨x1, x2⟩ := mem_und.mp hx
    refine mem_und.mpr ⟨x1, fun y hy => x2 y (mem_abv.mpr ⟨(mem_abv.mp hy).1, fun z hz => ?_⟩)⟩
    exact (mem_abv.mp hy).2 z ((List.mem_append.mp hz).elim (h1 z) (h2 z))
end
end PD
set_option maxHeartbeats 4000000
/-! K59k: the law is true. -/
namespace PD
open PySem L2
section
variable {k n m : Nat} {S : List (Tu Int)} {L ps : List (Int × Int)} {nu : Tu Int → Int} {K : Ko}
theorem pl_odG (hm : m ≤ 64) (h : ∀ p ∈ L, InR m p) (hl : L.length ≤ 5000) : Pl 3 20000 (en (od m L)) := by
  refine .tup (.cons (a := 0) (b := 19999) (pl_en (i := (m : Int)) (by omega) (by omega)) (.cons (a := 19998) (b := 0) (.tup (PlA.all' (a := 2) (fun x hx => ?_) ?_)) .nil))
  · obtain ⟨p, hp, rfl⟩ := List.mem_map.mp hx
    obtain ⟨h1, h2, h3, h4⟩ := h p hp
    exact .tup (.cons (a := 0) (b := 1) (pl_en (by omega) (by omega)) (.cons (a := 0) (b := 0) (pl_en (by omega) (by omega)) .nil))
  · rw [List.length_map]
    show 3 * L.length ≤ 19998
    omega
theorem shw_odG (hm : m ≤ 64) (h : ∀ p ∈ L, InR m p) (hl : L.length ≤ 5000) : Shw (en (od m L)) := ⟨3, 20000, pl_odG hm h hl, by decide, by decide⟩
theorem pl_intsG {xs : List Int} (h : ∀ x ∈ xs, x ∈ rg m) (hm : m ≤ 64) (hl : xs.length ≤ 2000) : Pl 3 2000 (en (Tu.mk xs)) := .tup (PlA.all' (a := 0) (fun d hd => by
  obtain ⟨i, hi, rfl⟩ := List.mem_map.mp hd
  have := mem_rg.mp (h i hi)
  exact pl_en (by omega) (by omega)) (by rw [List.length_map]; show 1 * xs.length ≤ 2000; omega))
theorem shw_intsG {xs : List Int} (h : ∀ x ∈ xs, x ∈ rg m) (hm : m ≤ 64) (hl : xs.length ≤ 2000) : Shw (en (Tu.mk xs)) := ⟨3, 2000, pl_intsG h hm hl, by decide, by decide⟩
theorem shw_two (hm : m ≤ 64) (h : ∀ p ∈ L, InR m p) (hl : L.length ≤ 5000) {xs : List Int} (h2 : ∀ x ∈ xs, x ∈ rg m) (hl2 : xs.length ≤ 2000) : Shw (.list [en (od m L), en (Tu.mk xs)]) := ⟨4, 30000, .lst (.cons (a := 20000) (b := 9999) (pl_odG hm h hl) (.cons (a := 2000) (b := 7998) (pl_intsG h2 hm hl2) .nil)), by decide, by decide⟩
def plN (n : Nat) (ps : List (Int × Int)) (nu : Tu Int → Int) : List Int := (rg n).map fun w => nu ⟨und n ps [w]⟩
def lsl (n : Nat) (ps : List (Int × Int)) (m : Nat) (L : List (Int × Int)) (nu : Tu Int → Int) (x2 x5 x6 x13 : Option B) : Nv := [none, some .src, x2, some (.sh (en (od n ps))), some (.sh (.str (PyData.list [en (od m L), en (Tu.mk (plN n ps nu))]).shown)), x5, x6, some (.sh (en (n : Int))), some (.sh (en (cutsL n ps))), some (.sh (.str (en (od n ps)).shown)), some (.sh (en (od (cutsL n ps).length (wthL (cutsL n ps))))), some (.sh (en (od m L))), some (.sh (en (Tu.mk (plN n ps nu)))), x13, none, none, none]
/-- all that is known of the lattice drawn -/
structure Env (n : Nat) (ps : List (Int × Int)) (S : List (Tu Int)) (m : Nat) (L : List (Int × Int)) (nu : Tu Int → Int) : Prop where
  n1 : 1 ≤ n
  n5 : n ≤ 5
  g : GO n ps
  hI : ∀ a b, (a, b) ∈ ps → (b, a) ∉ ps
  hC : ∀ a b c, (a, b) ∈ ps → (b, c) ∈ ps → (a, c) ∈ ps
  lat : Lat n S m L nu
  hS : ∀ c ∈ cutsL n ps, c ∈ S
  m32 : m ≤ 32
  L1 : L.length ≤ 1024
variable {x2 x5 x6 x13 : Option B}
theorem pl_len : (plN n ps nu).length = n := by unfold plN; rw [List.length_map, rg_len]
theorem pl_at {w : Int} (hw : w ∈ rg n) : pix (plN n ps nu) w = nu ⟨und n ps [w]⟩ := by
  have := mem_rg.mp hw
  exact pix_mapR this.1 this.2
theorem pl_in (E : Env n ps S m L nu) : ∀ x ∈ plN n ps nu, x ∈ rg m := fun x hx => by
  obtain ⟨w, hw, rfl⟩ := List.mem_map.mp hx
  exact E.lat.at_ _ (E.hS _ (home_cut hw))
theorem pix_idx {c : Tu Int} {C : List (Tu Int)} (hc : c ∈ C) : pix (C.map nu) (C.idxOf c : Int) = nu c := by
  have h := List.idxOf_lt_length_iff.mpr hc
  refine pix_of ?_
  rw [List.getElem?_map, List.getElem?_eq_getElem h, List.getElem_idxOf h]; rfl
theorem l_0 (E : Env n ps S m L nu) (h : ∀ x13, K.nx (lsl n ps m L nu x2 x5 x6 x13)) : execs (CG (k + 6)) lawB_0 (lsl n ps m L nu x2 x5 x6 x13) K := by
  unfold lawB_0
  unfold lsl at h ⊢
  have n1 := E.n1
  have n5 := E.n5
  have m32 := E.m32
  simp only [wbo_var, ar_var, bo_cst, bo_bin, bo_neg, bo_not, bo_and, bo_or, bo_cmp, bo_chain, bo_ife, bo_tup, bo_lst, bo_dnew, bo_idx, bo_slc, bo_rev, bo_call, bo_prim, bo_isi, bo_lc, bo_rg, sh_rt, sh_gd, sh_bd, ar_cst, ar_bin, ar_neg, ar_not, ar_and, ar_or, ar_cmp, ar_chain, ar_ife, ar_tup, ar_lst, ar_dnew, ar_idx, ar_slc, ar_rev, ar_call, ar_prim, ar_isi, ar_lc, ar_rg, e_var, e_cst, e_bin, e_neg, e_not, e_and, e_or, e_cmp, e_chain, e_ife, e_tup, e_lst, e_dnew, e_idx, e_slc, e_rev, e_call, e_prim, e_isi, e_lc, e_rg, wt_and, wt_or, wt_not, wt_e, vs_nil, vs_cons, vs_star, vb_nil, vb_cons, va_nil, va_cons, vo_no, vo_yes, vc_no, vc_yes, vi_val, vi_valf, vi_rng, vi_zip, vi_zipf, getD_0, getD_s, a_v, a_p, Option.bind_some, x_nil, x_cons, x_ite, exec, koF, parW, sets_n, sets_c, rt_ap, bd_ap, gd_ap, ite_ap, bd_rt, rt_bd, bd_bd, bd_gd, gd_gd, gd_true, bd_ite, ite_rt, ite_gd1, ite_gd2, lift_rt, b_and, b_and2, b_or, b_or2, ite_en, look_z, look_s, lookB_z, lookB_o, lookB_s, lookA_z, lookA_c, lookA_s, lookO_o, lookO_s, List.getElem?_cons_zero, List.getElem?_cons_succ, List.set_cons_zero, List.set_cons_succ, Bool.false_eq_true, if_false, if_true, wipeN_n, wipeN_c, free_n, free_c, nOwn_n, nOwn_s, nOwn_c, Bool.true_and, true_and, List.length_cons, List.length_nil, Nat.zero_add, Nat.reduceAdd, Nat.reduceLeDiff, sz, i_en, b_en, l_en, t_en, tl_en, p_en, l1_en, t1_en, snoc_en, app_en, isL_l, c_eq, c_ne, c_inL, c_inT, c_ninL, c_ninT, c_eqE, c_neE, c_eqU, c_neU, c_lt, c_gt, c_le, c_ge, dp_int, dp_bool, dp_unit, dp_list, dp_tu, dp_pair, Nat.max_self, tr_b, tr_i, tr_l, tr_t, o_add, o_sub, o_mul, o_div, o_mod, o_shl, o_shr, o_band, o_neg, o_addL, o_addT, mulB1, i01, x_list, x_tup, x_p0, x_p1, s_list, s_tup, r_list, lt_list, lt_tup, ls_list, q_lenL, q_lenT, q_tupL, q_tupT, q_listL, q_listT, q_all, q_any, q_sum, q_max, q_min, q_int, q_abs, g_rng, toI_en, lcW_en, lcM_all, lcM_if, lcM_gd, List.map_id', List.all_map, List.any_map, Bool.not_true, Bool.not_false, List.length_map, ii_and, ii_or, Option.getD_some, List.isEmpty_map, isEmpty_filterB, Function.comp_def, id_eq, bo_sset, ar_sset, e_sset, sset_en, ssetL_en, bo_meth, bo_disp, ar_meth, ar_disp, e_meth, e_disp, vp_nil, vp_cons, vi_enum, vi_enumf, vi_rng3, x_dct, c_inD, c_ninD, s_dct, isL_d, q_lenD, q_listD, d_int, d_tu, d_pair, enum_en, index_en, mOk_l, od_1, od_2, false_implies, Bool.and_true, and_true, implies_true, forall_const, ite_some, s_lst, x_frz, frz_o, frz_h, frz_s, Option.getD_none, Int.one_mul, forW_en, gd_ff, sz_lt, List.append_nil, List.nil_append, Bool.not_not, t0_en, l0_en]
  refine s_pick (k := k + 4) (by omega) fun x x1 x2 => ?_
  refine s_pick (k := k + 4) (by omega) fun y y1 y2 => ?_
  simp only [wbo_var, ar_var, bo_cst, bo_bin, bo_neg, bo_not, bo_and, bo_or, bo_cmp, bo_chain, bo_ife, bo_tup, bo_lst, bo_dnew, bo_idx, bo_slc, bo_rev, bo_call, bo_prim, bo_isi, bo_lc, bo_rg, sh_rt, sh_gd, sh_bd, ar_cst, ar_bin, ar_neg, ar_not, ar_and, ar_or, ar_cmp, ar_chain, ar_ife, ar_tup, ar_lst, ar_dnew, ar_idx, ar_slc, ar_rev, ar_call, ar_prim, ar_isi, ar_lc, ar_rg, e_var, e_cst, e_bin, e_neg, e_not, e_and, e_or, e_cmp, e_chain, e_ife, e_tup, e_lst, e_dnew, e_idx, e_slc, e_rev, e_call, e_prim, e_isi, e_lc, e_rg, wt_and, wt_or, wt_not, wt_e, vs_nil, vs_cons, vs_star, vb_nil, vb_cons, va_nil, va_cons, vo_no, vo_yes, vc_no, vc_yes, vi_val, vi_valf, vi_rng, vi_zip, vi_zipf, getD_0, getD_s, a_v, a_p, Option.bind_some, x_nil, x_cons, x_ite, exec, koF, parW, sets_n, sets_c, rt_ap, bd_ap, gd_ap, ite_ap, bd_rt, rt_bd, bd_bd, bd_gd, gd_gd, gd_true, bd_ite, ite_rt, ite_gd1, ite_gd2, lift_rt, b_and, b_and2, b_or, b_or2, ite_en, look_z, look_s, lookB_z, lookB_o, lookB_s, lookA_z, lookA_c, lookA_s, lookO_o, lookO_s, List.getElem?_cons_zero, List.getElem?_cons_succ, List.set_cons_zero, List.set_cons_succ, Bool.false_eq_true, if_false, if_true, wipeN_n, wipeN_c, free_n, free_c, nOwn_n, nOwn_s, nOwn_c, Bool.true_and, true_and, List.length_cons, List.length_nil, Nat.zero_add, Nat.reduceAdd, Nat.reduceLeDiff, sz, i_en, b_en, l_en, t_en, tl_en, p_en, l1_en, t1_en, snoc_en, app_en, isL_l, c_eq, c_ne, c_inL, c_inT, c_ninL, c_ninT, c_eqE, c_neE, c_eqU, c_neU, c_lt, c_gt, c_le, c_ge, dp_int, dp_bool, dp_unit, dp_list, dp_tu, dp_pair, Nat.max_self, tr_b, tr_i, tr_l, tr_t, o_add, o_sub, o_mul, o_div, o_mod, o_shl, o_shr, o_band, o_neg, o_addL, o_addT, mulB1, i01, x_list, x_tup, x_p0, x_p1, s_list, s_tup, r_list, lt_list, lt_tup, ls_list, q_lenL, q_lenT, q_tupL, q_tupT, q_listL, q_listT, q_all, q_any, q_sum, q_max, q_min, q_int, q_abs, g_rng, toI_en, lcW_en, lcM_all, lcM_if, lcM_gd, List.map_id', List.all_map, List.any_map, Bool.not_true, Bool.not_false, List.length_map, ii_and, ii_or, Option.getD_some, List.isEmpty_map, isEmpty_filterB, Function.comp_def, id_eq, bo_sset, ar_sset, e_sset, sset_en, ssetL_en, bo_meth, bo_disp, ar_meth, ar_disp, e_meth, e_disp, vp_nil, vp_cons, vi_enum, vi_enumf, vi_rng3, x_dct, c_inD, c_ninD, s_dct, isL_d, q_lenD, q_listD, d_int, d_tu, d_pair, enum_en, index_en, mOk_l, od_1, od_2, false_implies, Bool.and_true, and_true, implies_true, forall_const, ite_some, s_lst, x_frz, frz_o, frz_h, frz_s, Option.getD_none, Int.one_mul, forW_en, gd_ff, sz_lt, List.append_nil, List.nil_append, Bool.not_not, t0_en, l0_en]
  have hy : y < (n : Int) := by omega
  have pl : (plN n ps nu).length = n := pl_len
  refine ⟨ixOk y1 (by omega), ?_⟩
  generalize hl : pset (plN n ps nu) y x = l
  have ll : l.length = n := by rw [← hl]; unfold pset; rw [List.length_set, pl]
  refine s_stands (k := k + 5) (f := pix l) (by omega) ll (fun _ _ => rfl) ?_
  rw [rep_ok (shw_bool _)]
  simp only [rt_ap]
  refine s_lawStands (k := k + 5) (f := pix l) (by omega) (fun a ha => ?_) ?_
  · have := mem_rg.mp ha
    rw [x_list]
    exact gd_ok (ixOk this.1 (by omega)) _
  rw [rep_ok (shw_bool _)]
  simp only [rt_ap]
  rw [rep_ne (shw_bool _)]
  simp only [wbo_var, ar_var, bo_cst, bo_bin, bo_neg, bo_not, bo_and, bo_or, bo_cmp, bo_chain, bo_ife, bo_tup, bo_lst, bo_dnew, bo_idx, bo_slc, bo_rev, bo_call, bo_prim, bo_isi, bo_lc, bo_rg, sh_rt, sh_gd, sh_bd, ar_cst, ar_bin, ar_neg, ar_not, ar_and, ar_or, ar_cmp, ar_chain, ar_ife, ar_tup, ar_lst, ar_dnew, ar_idx, ar_slc, ar_rev, ar_call, ar_prim, ar_isi, ar_lc, ar_rg, e_var, e_cst, e_bin, e_neg, e_not, e_and, e_or, e_cmp, e_chain, e_ife, e_tup, e_lst, e_dnew, e_idx, e_slc, e_rev, e_call, e_prim, e_isi, e_lc, e_rg, wt_and, wt_or, wt_not, wt_e, vs_nil, vs_cons, vs_star, vb_nil, vb_cons, va_nil, va_cons, vo_no, vo_yes, vc_no, vc_yes, vi_val, vi_valf, vi_rng, vi_zip, vi_zipf, getD_0, getD_s, a_v, a_p, Option.bind_some, x_nil, x_cons, x_ite, exec, koF, parW, sets_n, sets_c, rt_ap, bd_ap, gd_ap, ite_ap, bd_rt, rt_bd, bd_bd, bd_gd, gd_gd, gd_true, bd_ite, ite_rt, ite_gd1, ite_gd2, lift_rt, b_and, b_and2, b_or, b_or2, ite_en, look_z, look_s, lookB_z, lookB_o, lookB_s, lookA_z, lookA_c, lookA_s, lookO_o, lookO_s, List.getElem?_cons_zero, List.getElem?_cons_succ, List.set_cons_zero, List.set_cons_succ, Bool.false_eq_true, if_false, if_true, wipeN_n, wipeN_c, free_n, free_c, nOwn_n, nOwn_s, nOwn_c, Bool.true_and, true_and, List.length_cons, List.length_nil, Nat.zero_add, Nat.reduceAdd, Nat.reduceLeDiff, sz, i_en, b_en, l_en, t_en, tl_en, p_en, l1_en, t1_en, snoc_en, app_en, isL_l, c_eq, c_ne, c_inL, c_inT, c_ninL, c_ninT, c_eqE, c_neE, c_eqU, c_neU, c_lt, c_gt, c_le, c_ge, dp_int, dp_bool, dp_unit, dp_list, dp_tu, dp_pair, Nat.max_self, tr_b, tr_i, tr_l, tr_t, o_add, o_sub, o_mul, o_div, o_mod, o_shl, o_shr, o_band, o_neg, o_addL, o_addT, mulB1, i01, x_list, x_tup, x_p0, x_p1, s_list, s_tup, r_list, lt_list, lt_tup, ls_list, q_lenL, q_lenT, q_tupL, q_tupT, q_listL, q_listT, q_all, q_any, q_sum, q_max, q_min, q_int, q_abs, g_rng, toI_en, lcW_en, lcM_all, lcM_if, lcM_gd, List.map_id', List.all_map, List.any_map, Bool.not_true, Bool.not_false, List.length_map, ii_and, ii_or, Option.getD_some, List.isEmpty_map, isEmpty_filterB, Function.comp_def, id_eq, bo_sset, ar_sset, e_sset, sset_en, ssetL_en, bo_meth, bo_disp, ar_meth, ar_disp, e_meth, e_disp, vp_nil, vp_cons, vi_enum, vi_enumf, vi_rng3, x_dct, c_inD, c_ninD, s_dct, isL_d, q_lenD, q_listD, d_int, d_tu, d_pair, enum_en, index_en, mOk_l, od_1, od_2, false_implies, Bool.and_true, and_true, implies_true, forall_const, ite_some, s_lst, x_frz, frz_o, frz_h, frz_s, Option.getD_none, Int.one_mul, forW_en, gd_ff, sz_lt, List.append_nil, List.nil_append, Bool.not_not, t0_en, l0_en]
  exact h _
theorem l_2 (E : Env n ps S m L nu) (h : ∀ x6 x13, K.nx (lsl n ps m L nu x2 x5 x6 x13)) : execs (CG (k + 6)) lawB_2 (lsl n ps m L nu x2 x5 x6 x13) K := by
  unfold lawB_2
  unfold lsl
  simp only [wbo_var, ar_var, bo_cst, bo_bin, bo_neg, bo_not, bo_and, bo_or, bo_cmp, bo_chain, bo_ife, bo_tup, bo_lst, bo_dnew, bo_idx, bo_slc, bo_rev, bo_call, bo_prim, bo_isi, bo_lc, bo_rg, sh_rt, sh_gd, sh_bd, ar_cst, ar_bin, ar_neg, ar_not, ar_and, ar_or, ar_cmp, ar_chain, ar_ife, ar_tup, ar_lst, ar_dnew, ar_idx, ar_slc, ar_rev, ar_call, ar_prim, ar_isi, ar_lc, ar_rg, e_var, e_cst, e_bin, e_neg, e_not, e_and, e_or, e_cmp, e_chain, e_ife, e_tup, e_lst, e_dnew, e_idx, e_slc, e_rev, e_call, e_prim, e_isi, e_lc, e_rg, wt_and, wt_or, wt_not, wt_e, vs_nil, vs_cons, vs_star, vb_nil, vb_cons, va_nil, va_cons, vo_no, vo_yes, vc_no, vc_yes, vi_val, vi_valf, vi_rng, vi_zip, vi_zipf, getD_0, getD_s, a_v, a_p, Option.bind_some, x_nil, x_cons, x_ite, exec, koF, parW, sets_n, sets_c, rt_ap, bd_ap, gd_ap, ite_ap, bd_rt, rt_bd, bd_bd, bd_gd, gd_gd, gd_true, bd_ite, ite_rt, ite_gd1, ite_gd2, lift_rt, b_and, b_and2, b_or, b_or2, ite_en, look_z, look_s, lookB_z, lookB_o, lookB_s, lookA_z, lookA_c, lookA_s, lookO_o, lookO_s, List.getElem?_cons_zero, List.getElem?_cons_succ, List.set_cons_zero, List.set_cons_succ, Bool.false_eq_true, if_false, if_true, wipeN_n, wipeN_c, free_n, free_c, nOwn_n, nOwn_s, nOwn_c, Bool.true_and, true_and, List.length_cons, List.length_nil, Nat.zero_add, Nat.reduceAdd, Nat.reduceLeDiff, sz, i_en, b_en, l_en, t_en, tl_en, p_en, l1_en, t1_en, snoc_en, app_en, isL_l, c_eq, c_ne, c_inL, c_inT, c_ninL, c_ninT, c_eqE, c_neE, c_eqU, c_neU, c_lt, c_gt, c_le, c_ge, dp_int, dp_bool, dp_unit, dp_list, dp_tu, dp_pair, Nat.max_self, tr_b, tr_i, tr_l, tr_t, o_add, o_sub, o_mul, o_div, o_mod, o_shl, o_shr, o_band, o_neg, o_addL, o_addT, mulB1, i01, x_list, x_tup, x_p0, x_p1, s_list, s_tup, r_list, lt_list, lt_tup, ls_list, q_lenL, q_lenT, q_tupL, q_tupT, q_listL, q_listT, q_all, q_any, q_sum, q_max, q_min, q_int, q_abs, g_rng, toI_en, lcW_en, lcM_all, lcM_if, lcM_gd, List.map_id', List.all_map, List.any_map, Bool.not_true, Bool.not_false, List.length_map, ii_and, ii_or, Option.getD_some, List.isEmpty_map, isEmpty_filterB, Function.comp_def, id_eq, bo_sset, ar_sset, e_sset, sset_en, ssetL_en, bo_meth, bo_disp, ar_meth, ar_disp, e_meth, e_disp, vp_nil, vp_cons, vi_enum, vi_enumf, vi_rng3, x_dct, c_inD, c_ninD, s_dct, isL_d, q_lenD, q_listD, d_int, d_tu, d_pair, enum_en, index_en, mOk_l, od_1, od_2, false_implies, Bool.and_true, and_true, implies_true, forall_const, ite_some, s_lst, x_frz, frz_o, frz_h, frz_s, Option.getD_none, Int.one_mul, forW_en, gd_ff, sz_lt, List.append_nil, List.nil_append, Bool.not_not, t0_en, l0_en]
  refine ⟨rng_ok (n := 4) (by decide), ?_⟩
  refine forL_inv (fun _ ρ => ∃ x6 x13, ρ = lsl n ps m L nu x2 x5 x6 x13) (done := []) ⟨x6, x13, rfl⟩ ?_ ?_
  · rintro done a r ρ e ⟨x6, x13, rfl⟩ K2 hK2
    unfold lsl
    simp only [wbo_var, ar_var, bo_cst, bo_bin, bo_neg, bo_not, bo_and, bo_or, bo_cmp, bo_chain, bo_ife, bo_tup, bo_lst, bo_dnew, bo_idx, bo_slc, bo_rev, bo_call, bo_prim, bo_isi, bo_lc, bo_rg, sh_rt, sh_gd, sh_bd, ar_cst, ar_bin, ar_neg, ar_not, ar_and, ar_or, ar_cmp, ar_chain, ar_ife, ar_tup, ar_lst, ar_dnew, ar_idx, ar_slc, ar_rev, ar_call, ar_prim, ar_isi, ar_lc, ar_rg, e_var, e_cst, e_bin, e_neg, e_not, e_and, e_or, e_cmp, e_chain, e_ife, e_tup, e_lst, e_dnew, e_idx, e_slc, e_rev, e_call, e_prim, e_isi, e_lc, e_rg, wt_and, wt_or, wt_not, wt_e, vs_nil, vs_cons, vs_star, vb_nil, vb_cons, va_nil, va_cons, vo_no, vo_yes, vc_no, vc_yes, vi_val, vi_valf, vi_rng, vi_zip, vi_zipf, getD_0, getD_s, a_v, a_p, Option.bind_some, x_nil, x_cons, x_ite, exec, koF, parW, sets_n, sets_c, rt_ap, bd_ap, gd_ap, ite_ap, bd_rt, rt_bd, bd_bd, bd_gd, gd_gd, gd_true, bd_ite, ite_rt, ite_gd1, ite_gd2, lift_rt, b_and, b_and2, b_or, b_or2, ite_en, look_z, look_s, lookB_z, lookB_o, lookB_s, lookA_z, lookA_c, lookA_s, lookO_o, lookO_s, List.getElem?_cons_zero, List.getElem?_cons_succ, List.set_cons_zero, List.set_cons_succ, Bool.false_eq_true, if_false, if_true, wipeN_n, wipeN_c, free_n, free_c, nOwn_n, nOwn_s, nOwn_c, Bool.true_and, true_and, List.length_cons, List.length_nil, Nat.zero_add, Nat.reduceAdd, Nat.reduceLeDiff, sz, i_en, b_en, l_en, t_en, tl_en, p_en, l1_en, t1_en, snoc_en, app_en, isL_l, c_eq, c_ne, c_inL, c_inT, c_ninL, c_ninT, c_eqE, c_neE, c_eqU, c_neU, c_lt, c_gt, c_le, c_ge, dp_int, dp_bool, dp_unit, dp_list, dp_tu, dp_pair, Nat.max_self, tr_b, tr_i, tr_l, tr_t, o_add, o_sub, o_mul, o_div, o_mod, o_shl, o_shr, o_band, o_neg, o_addL, o_addT, mulB1, i01, x_list, x_tup, x_p0, x_p1, s_list, s_tup, r_list, lt_list, lt_tup, ls_list, q_lenL, q_lenT, q_tupL, q_tupT, q_listL, q_listT, q_all, q_any, q_sum, q_max, q_min, q_int, q_abs, g_rng, toI_en, lcW_en, lcM_all, lcM_if, lcM_gd, List.map_id', List.all_map, List.any_map, Bool.not_true, Bool.not_false, List.length_map, ii_and, ii_or, Option.getD_some, List.isEmpty_map, isEmpty_filterB, Function.comp_def, id_eq, bo_sset, ar_sset, e_sset, sset_en, ssetL_en, bo_meth, bo_disp, ar_meth, ar_disp, e_meth, e_disp, vp_nil, vp_cons, vi_enum, vi_enumf, vi_rng3, x_dct, c_inD, c_ninD, s_dct, isL_d, q_lenD, q_listD, d_int, d_tu, d_pair, enum_en, index_en, mOk_l, od_1, od_2, false_implies, Bool.and_true, and_true, implies_true, forall_const, ite_some, s_lst, x_frz, frz_o, frz_h, frz_s, Option.getD_none, Int.one_mul, forW_en, gd_ff, sz_lt, List.append_nil, List.nil_append, Bool.not_not, t0_en, l0_en]
    exact l_0 E fun x13 => hK2 _ ⟨_, _, rfl⟩
  · rintro ρ ⟨x6, x13, rfl⟩
    have h := h x6 x13
    unfold lsl lawB_1
    unfold lsl at h
    simp only [wbo_var, ar_var, bo_cst, bo_bin, bo_neg, bo_not, bo_and, bo_or, bo_cmp, bo_chain, bo_ife, bo_tup, bo_lst, bo_dnew, bo_idx, bo_slc, bo_rev, bo_call, bo_prim, bo_isi, bo_lc, bo_rg, sh_rt, sh_gd, sh_bd, ar_cst, ar_bin, ar_neg, ar_not, ar_and, ar_or, ar_cmp, ar_chain, ar_ife, ar_tup, ar_lst, ar_dnew, ar_idx, ar_slc, ar_rev, ar_call, ar_prim, ar_isi, ar_lc, ar_rg, e_var, e_cst, e_bin, e_neg, e_not, e_and, e_or, e_cmp, e_chain, e_ife, e_tup, e_lst, e_dnew, e_idx, e_slc, e_rev, e_call, e_prim, e_isi, e_lc, e_rg, wt_and, wt_or, wt_not, wt_e, vs_nil, vs_cons, vs_star, vb_nil, vb_cons, va_nil, va_cons, vo_no, vo_yes, vc_no, vc_yes, vi_val, vi_valf, vi_rng, vi_zip, vi_zipf, getD_0, getD_s, a_v, a_p, Option.bind_some, x_nil, x_cons, x_ite, exec, koF, parW, sets_n, sets_c, rt_ap, bd_ap, gd_ap, ite_ap, bd_rt, rt_bd, bd_bd, bd_gd, gd_gd, gd_true, bd_ite, ite_rt, ite_gd1, ite_gd2, lift_rt, b_and, b_and2, b_or, b_or2, ite_en, look_z, look_s, lookB_z, lookB_o, lookB_s, lookA_z, lookA_c, lookA_s, lookO_o, lookO_s, List.getElem?_cons_zero, List.getElem?_cons_succ, List.set_cons_zero, List.set_cons_succ, Bool.false_eq_true, if_false, if_true, wipeN_n, wipeN_c, free_n, free_c, nOwn_n, nOwn_s, nOwn_c, Bool.true_and, true_and, List.length_cons, List.length_nil, Nat.zero_add, Nat.reduceAdd, Nat.reduceLeDiff, sz, i_en, b_en, l_en, t_en, tl_en, p_en, l1_en, t1_en, snoc_en, app_en, isL_l, c_eq, c_ne, c_inL, c_inT, c_ninL, c_ninT, c_eqE, c_neE, c_eqU, c_neU, c_lt, c_gt, c_le, c_ge, dp_int, dp_bool, dp_unit, dp_list, dp_tu, dp_pair, Nat.max_self, tr_b, tr_i, tr_l, tr_t, o_add, o_sub, o_mul, o_div, o_mod, o_shl, o_shr, o_band, o_neg, o_addL, o_addT, mulB1, i01, x_list, x_tup, x_p0, x_p1, s_list, s_tup, r_list, lt_list, lt_tup, ls_list, q_lenL, q_lenT, q_tupL, q_tupT, q_listL, q_listT, q_all, q_any, q_sum, q_max, q_min, q_int, q_abs, g_rng, toI_en, lcW_en, lcM_all, lcM_if, lcM_gd, List.map_id', List.all_map, List.any_map, Bool.not_true, Bool.not_false, List.length_map, ii_and, ii_or, Option.getD_some, List.isEmpty_map, isEmpty_filterB, Function.comp_def, id_eq, bo_sset, ar_sset, e_sset, sset_en, ssetL_en, bo_meth, bo_disp, ar_meth, ar_disp, e_meth, e_disp, vp_nil, vp_cons, vi_enum, vi_enumf, vi_rng3, x_dct, c_inD, c_ninD, s_dct, isL_d, q_lenD, q_listD, d_int, d_tu, d_pair, enum_en, index_en, mOk_l, od_1, od_2, false_implies, Bool.and_true, and_true, implies_true, forall_const, ite_some, s_lst, x_frz, frz_o, frz_h, frz_s, Option.getD_none, Int.one_mul, forW_en, gd_ff, sz_lt, List.append_nil, List.nil_append, Bool.not_not, t0_en, l0_en]
    have s1 := shw_two (by have := E.m32; omega) E.lat.inr (by have := E.L1; omega) (pl_in E) (by rw [pl_len]; have := E.n5; omega)
    have s2 := shw_od (by have := E.n5; omega) E.g
    rw [rep_ok s1]
    simp only [rt_ap]
    rw [rep_ne s1]
    simp only [wbo_var, ar_var, bo_cst, bo_bin, bo_neg, bo_not, bo_and, bo_or, bo_cmp, bo_chain, bo_ife, bo_tup, bo_lst, bo_dnew, bo_idx, bo_slc, bo_rev, bo_call, bo_prim, bo_isi, bo_lc, bo_rg, sh_rt, sh_gd, sh_bd, ar_cst, ar_bin, ar_neg, ar_not, ar_and, ar_or, ar_cmp, ar_chain, ar_ife, ar_tup, ar_lst, ar_dnew, ar_idx, ar_slc, ar_rev, ar_call, ar_prim, ar_isi, ar_lc, ar_rg, e_var, e_cst, e_bin, e_neg, e_not, e_and, e_or, e_cmp, e_chain, e_ife, e_tup, e_lst, e_dnew, e_idx, e_slc, e_rev, e_call, e_prim, e_isi, e_lc, e_rg, wt_and, wt_or, wt_not, wt_e, vs_nil, vs_cons, vs_star, vb_nil, vb_cons, va_nil, va_cons, vo_no, vo_yes, vc_no, vc_yes, vi_val, vi_valf, vi_rng, vi_zip, vi_zipf, getD_0, getD_s, a_v, a_p, Option.bind_some, x_nil, x_cons, x_ite, exec, koF, parW, sets_n, sets_c, rt_ap, bd_ap, gd_ap, ite_ap, bd_rt, rt_bd, bd_bd, bd_gd, gd_gd, gd_true, bd_ite, ite_rt, ite_gd1, ite_gd2, lift_rt, b_and, b_and2, b_or, b_or2, ite_en, look_z, look_s, lookB_z, lookB_o, lookB_s, lookA_z, lookA_c, lookA_s, lookO_o, lookO_s, List.getElem?_cons_zero, List.getElem?_cons_succ, List.set_cons_zero, List.set_cons_succ, Bool.false_eq_true, if_false, if_true, wipeN_n, wipeN_c, free_n, free_c, nOwn_n, nOwn_s, nOwn_c, Bool.true_and, true_and, List.length_cons, List.length_nil, Nat.zero_add, Nat.reduceAdd, Nat.reduceLeDiff, sz, i_en, b_en, l_en, t_en, tl_en, p_en, l1_en, t1_en, snoc_en, app_en, isL_l, c_eq, c_ne, c_inL, c_inT, c_ninL, c_ninT, c_eqE, c_neE, c_eqU, c_neU, c_lt, c_gt, c_le, c_ge, dp_int, dp_bool, dp_unit, dp_list, dp_tu, dp_pair, Nat.max_self, tr_b, tr_i, tr_l, tr_t, o_add, o_sub, o_mul, o_div, o_mod, o_shl, o_shr, o_band, o_neg, o_addL, o_addT, mulB1, i01, x_list, x_tup, x_p0, x_p1, s_list, s_tup, r_list, lt_list, lt_tup, ls_list, q_lenL, q_lenT, q_tupL, q_tupT, q_listL, q_listT, q_all, q_any, q_sum, q_max, q_min, q_int, q_abs, g_rng, toI_en, lcW_en, lcM_all, lcM_if, lcM_gd, List.map_id', List.all_map, List.any_map, Bool.not_true, Bool.not_false, List.length_map, ii_and, ii_or, Option.getD_some, List.isEmpty_map, isEmpty_filterB, Function.comp_def, id_eq, bo_sset, ar_sset, e_sset, sset_en, ssetL_en, bo_meth, bo_disp, ar_meth, ar_disp, e_meth, e_disp, vp_nil, vp_cons, vi_enum, vi_enumf, vi_rng3, x_dct, c_inD, c_ninD, s_dct, isL_d, q_lenD, q_listD, d_int, d_tu, d_pair, enum_en, index_en, mOk_l, od_1, od_2, false_implies, Bool.and_true, and_true, implies_true, forall_const, ite_some, s_lst, x_frz, frz_o, frz_h, frz_s, Option.getD_none, Int.one_mul, forW_en, gd_ff, sz_lt, List.append_nil, List.nil_append, Bool.not_not, t0_en, l0_en]
    rw [rep_ok s2]
    simp only [rt_ap]
    rw [rep_ne s2]
    simp only [wbo_var, ar_var, bo_cst, bo_bin, bo_neg, bo_not, bo_and, bo_or, bo_cmp, bo_chain, bo_ife, bo_tup, bo_lst, bo_dnew, bo_idx, bo_slc, bo_rev, bo_call, bo_prim, bo_isi, bo_lc, bo_rg, sh_rt, sh_gd, sh_bd, ar_cst, ar_bin, ar_neg, ar_not, ar_and, ar_or, ar_cmp, ar_chain, ar_ife, ar_tup, ar_lst, ar_dnew, ar_idx, ar_slc, ar_rev, ar_call, ar_prim, ar_isi, ar_lc, ar_rg, e_var, e_cst, e_bin, e_neg, e_not, e_and, e_or, e_cmp, e_chain, e_ife, e_tup, e_lst, e_dnew, e_idx, e_slc, e_rev, e_call, e_prim, e_isi, e_lc, e_rg, wt_and, wt_or, wt_not, wt_e, vs_nil, vs_cons, vs_star, vb_nil, vb_cons, va_nil, va_cons, vo_no, vo_yes, vc_no, vc_yes, vi_val, vi_valf, vi_rng, vi_zip, vi_zipf, getD_0, getD_s, a_v, a_p, Option.bind_some, x_nil, x_cons, x_ite, exec, koF, parW, sets_n, sets_c, rt_ap, bd_ap, gd_ap, ite_ap, bd_rt, rt_bd, bd_bd, bd_gd, gd_gd, gd_true, bd_ite, ite_rt, ite_gd1, ite_gd2, lift_rt, b_and, b_and2, b_or, b_or2, ite_en, look_z, look_s, lookB_z, lookB_o, lookB_s, lookA_z, lookA_c, lookA_s, lookO_o, lookO_s, List.getElem?_cons_zero, List.getElem?_cons_succ, List.set_cons_zero, List.set_cons_succ, Bool.false_eq_true, if_false, if_true, wipeN_n, wipeN_c, free_n, free_c, nOwn_n, nOwn_s, nOwn_c, Bool.true_and, true_and, List.length_cons, List.length_nil, Nat.zero_add, Nat.reduceAdd, Nat.reduceLeDiff, sz, i_en, b_en, l_en, t_en, tl_en, p_en, l1_en, t1_en, snoc_en, app_en, isL_l, c_eq, c_ne, c_inL, c_inT, c_ninL, c_ninT, c_eqE, c_neE, c_eqU, c_neU, c_lt, c_gt, c_le, c_ge, dp_int, dp_bool, dp_unit, dp_list, dp_tu, dp_pair, Nat.max_self, tr_b, tr_i, tr_l, tr_t, o_add, o_sub, o_mul, o_div, o_mod, o_shl, o_shr, o_band, o_neg, o_addL, o_addT, mulB1, i01, x_list, x_tup, x_p0, x_p1, s_list, s_tup, r_list, lt_list, lt_tup, ls_list, q_lenL, q_lenT, q_tupL, q_tupT, q_listL, q_listT, q_all, q_any, q_sum, q_max, q_min, q_int, q_abs, g_rng, toI_en, lcW_en, lcM_all, lcM_if, lcM_gd, List.map_id', List.all_map, List.any_map, Bool.not_true, Bool.not_false, List.length_map, ii_and, ii_or, Option.getD_some, List.isEmpty_map, isEmpty_filterB, Function.comp_def, id_eq, bo_sset, ar_sset, e_sset, sset_en, ssetL_en, bo_meth, bo_disp, ar_meth, ar_disp, e_meth, e_disp, vp_nil, vp_cons, vi_enum, vi_enumf, vi_rng3, x_dct, c_inD, c_ninD, s_dct, isL_d, q_lenD, q_listD, d_int, d_tu, d_pair, enum_en, index_en, mOk_l, od_1, od_2, false_implies, Bool.and_true, and_true, implies_true, forall_const, ite_some, s_lst, x_frz, frz_o, frz_h, frz_s, Option.getD_none, Int.one_mul, forW_en, gd_ff, sz_lt, List.append_nil, List.nil_append, Bool.not_not, t0_en, l0_en]
    exact h
theorem l_3 (E : Env n ps S m L nu) (h : ∀ x6 x13, K.nx (lsl n ps m L nu x2 (some (.sh (en (Tu.mk ((cutsL n ps).map nu))))) x6 x13)) : execs (CG (k + 6)) lawB_3 (lsl n ps m L nu x2 (some (.sh (en (Tu.mk ((cutsL n ps).map nu))))) x6 x13) K := by
  have h2 := l_2 (k := k) (x2 := x2) (x5 := some (.sh (en (Tu.mk ((cutsL n ps).map nu))))) (x6 := x6) (x13 := x13) E h
  unfold lawB_3
  unfold lsl at h2 ⊢
  have e := @e_lawUnder (k + 4) n ps (by have := E.n5; omega)
  simp only [wbo_var, ar_var, bo_cst, bo_bin, bo_neg, bo_not, bo_and, bo_or, bo_cmp, bo_chain, bo_ife, bo_tup, bo_lst, bo_dnew, bo_idx, bo_slc, bo_rev, bo_call, bo_prim, bo_isi, bo_lc, bo_rg, sh_rt, sh_gd, sh_bd, ar_cst, ar_bin, ar_neg, ar_not, ar_and, ar_or, ar_cmp, ar_chain, ar_ife, ar_tup, ar_lst, ar_dnew, ar_idx, ar_slc, ar_rev, ar_call, ar_prim, ar_isi, ar_lc, ar_rg, e_var, e_cst, e_bin, e_neg, e_not, e_and, e_or, e_cmp, e_chain, e_ife, e_tup, e_lst, e_dnew, e_idx, e_slc, e_rev, e_call, e_prim, e_isi, e_lc, e_rg, wt_and, wt_or, wt_not, wt_e, vs_nil, vs_cons, vs_star, vb_nil, vb_cons, va_nil, va_cons, vo_no, vo_yes, vc_no, vc_yes, vi_val, vi_valf, vi_rng, vi_zip, vi_zipf, getD_0, getD_s, a_v, a_p, Option.bind_some, x_nil, x_cons, x_ite, exec, koF, parW, sets_n, sets_c, rt_ap, bd_ap, gd_ap, ite_ap, bd_rt, rt_bd, bd_bd, bd_gd, gd_gd, gd_true, bd_ite, ite_rt, ite_gd1, ite_gd2, lift_rt, b_and, b_and2, b_or, b_or2, ite_en, look_z, look_s, lookB_z, lookB_o, lookB_s, lookA_z, lookA_c, lookA_s, lookO_o, lookO_s, List.getElem?_cons_zero, List.getElem?_cons_succ, List.set_cons_zero, List.set_cons_succ, Bool.false_eq_true, if_false, if_true, wipeN_n, wipeN_c, free_n, free_c, nOwn_n, nOwn_s, nOwn_c, Bool.true_and, true_and, List.length_cons, List.length_nil, Nat.zero_add, Nat.reduceAdd, Nat.reduceLeDiff, sz, i_en, b_en, l_en, t_en, tl_en, p_en, l1_en, t1_en, snoc_en, app_en, isL_l, c_eq, c_ne, c_inL, c_inT, c_ninL, c_ninT, c_eqE, c_neE, c_eqU, c_neU, c_lt, c_gt, c_le, c_ge, dp_int, dp_bool, dp_unit, dp_list, dp_tu, dp_pair, Nat.max_self, tr_b, tr_i, tr_l, tr_t, o_add, o_sub, o_mul, o_div, o_mod, o_shl, o_shr, o_band, o_neg, o_addL, o_addT, mulB1, i01, x_list, x_tup, x_p0, x_p1, s_list, s_tup, r_list, lt_list, lt_tup, ls_list, q_lenL, q_lenT, q_tupL, q_tupT, q_listL, q_listT, q_all, q_any, q_sum, q_max, q_min, q_int, q_abs, g_rng, toI_en, lcW_en, lcM_all, lcM_if, lcM_gd, List.map_id', List.all_map, List.any_map, Bool.not_true, Bool.not_false, List.length_map, ii_and, ii_or, Option.getD_some, List.isEmpty_map, isEmpty_filterB, Function.comp_def, id_eq, bo_sset, ar_sset, e_sset, sset_en, ssetL_en, bo_meth, bo_disp, ar_meth, ar_disp, e_meth, e_disp, vp_nil, vp_cons, vi_enum, vi_enumf, vi_rng3, x_dct, c_inD, c_ninD, s_dct, isL_d, q_lenD, q_listD, d_int, d_tu, d_pair, enum_en, index_en, mOk_l, od_1, od_2, false_implies, Bool.and_true, and_true, implies_true, forall_const, ite_some, s_lst, x_frz, frz_o, frz_h, frz_s, Option.getD_none, Int.one_mul, forW_en, gd_ff, sz_lt, List.append_nil, List.nil_append, Bool.not_not, t0_en, l0_en]
  simp only [e]
  simp only [wbo_var, ar_var, bo_cst, bo_bin, bo_neg, bo_not, bo_and, bo_or, bo_cmp, bo_chain, bo_ife, bo_tup, bo_lst, bo_dnew, bo_idx, bo_slc, bo_rev, bo_call, bo_prim, bo_isi, bo_lc, bo_rg, sh_rt, sh_gd, sh_bd, ar_cst, ar_bin, ar_neg, ar_not, ar_and, ar_or, ar_cmp, ar_chain, ar_ife, ar_tup, ar_lst, ar_dnew, ar_idx, ar_slc, ar_rev, ar_call, ar_prim, ar_isi, ar_lc, ar_rg, e_var, e_cst, e_bin, e_neg, e_not, e_and, e_or, e_cmp, e_chain, e_ife, e_tup, e_lst, e_dnew, e_idx, e_slc, e_rev, e_call, e_prim, e_isi, e_lc, e_rg, wt_and, wt_or, wt_not, wt_e, vs_nil, vs_cons, vs_star, vb_nil, vb_cons, va_nil, va_cons, vo_no, vo_yes, vc_no, vc_yes, vi_val, vi_valf, vi_rng, vi_zip, vi_zipf, getD_0, getD_s, a_v, a_p, Option.bind_some, x_nil, x_cons, x_ite, exec, koF, parW, sets_n, sets_c, rt_ap, bd_ap, gd_ap, ite_ap, bd_rt, rt_bd, bd_bd, bd_gd, gd_gd, gd_true, bd_ite, ite_rt, ite_gd1, ite_gd2, lift_rt, b_and, b_and2, b_or, b_or2, ite_en, look_z, look_s, lookB_z, lookB_o, lookB_s, lookA_z, lookA_c, lookA_s, lookO_o, lookO_s, List.getElem?_cons_zero, List.getElem?_cons_succ, List.set_cons_zero, List.set_cons_succ, Bool.false_eq_true, if_false, if_true, wipeN_n, wipeN_c, free_n, free_c, nOwn_n, nOwn_s, nOwn_c, Bool.true_and, true_and, List.length_cons, List.length_nil, Nat.zero_add, Nat.reduceAdd, Nat.reduceLeDiff, sz, i_en, b_en, l_en, t_en, tl_en, p_en, l1_en, t1_en, snoc_en, app_en, isL_l, c_eq, c_ne, c_inL, c_inT, c_ninL, c_ninT, c_eqE, c_neE, c_eqU, c_neU, c_lt, c_gt, c_le, c_ge, dp_int, dp_bool, dp_unit, dp_list, dp_tu, dp_pair, Nat.max_self, tr_b, tr_i, tr_l, tr_t, o_add, o_sub, o_mul, o_div, o_mod, o_shl, o_shr, o_band, o_neg, o_addL, o_addT, mulB1, i01, x_list, x_tup, x_p0, x_p1, s_list, s_tup, r_list, lt_list, lt_tup, ls_list, q_lenL, q_lenT, q_tupL, q_tupT, q_listL, q_listT, q_all, q_any, q_sum, q_max, q_min, q_int, q_abs, g_rng, toI_en, lcW_en, lcM_all, lcM_if, lcM_gd, List.map_id', List.all_map, List.any_map, Bool.not_true, Bool.not_false, List.length_map, ii_and, ii_or, Option.getD_some, List.isEmpty_map, isEmpty_filterB, Function.comp_def, id_eq, bo_sset, ar_sset, e_sset, sset_en, ssetL_en, bo_meth, bo_disp, ar_meth, ar_disp, e_meth, e_disp, vp_nil, vp_cons, vi_enum, vi_enumf, vi_rng3, x_dct, c_inD, c_ninD, s_dct, isL_d, q_lenD, q_listD, d_int, d_tu, d_pair, enum_en, index_en, mOk_l, od_1, od_2, false_implies, Bool.and_true, and_true, implies_true, forall_const, ite_some, s_lst, x_frz, frz_o, frz_h, frz_s, Option.getD_none, Int.one_mul, forW_en, gd_ff, sz_lt, List.append_nil, List.nil_append, Bool.not_not, t0_en, l0_en]
  rw [rgI_rg]
  refine ⟨rng_ok (by have := E.n5; omega), fun a ha => ?_, ?_⟩
  · have hc := home_cut (n := n) (ps := ps) ha
    have := mem_rg.mp ha
    have h3 := List.idxOf_lt_length_iff.mpr hc
    exact ⟨hc, ixOk (by omega) (by omega), ixOk this.1 (by rw [pl_len]; exact this.2)⟩
  · rw [if_neg]
    · exact h2
    · rw [Bool.not_eq_true, List.any_eq_false]
      intro a ha
      rw [pix_idx (home_cut ha), pl_at ha]
      simp
theorem l_4 (E : Env n ps S m L nu) (h : ∀ x6 x13, K.nx (lsl n ps m L nu x2 (some (.sh (en (Tu.mk ((cutsL n ps).map nu))))) x6 x13)) : execs (CG (k + 6)) lawB_4 (lsl n ps m L nu x2 (some (.sh (en (Tu.mk ((cutsL n ps).map nu))))) x6 x13) K := by
  have h2 := l_3 (k := k) (x2 := x2) (x6 := x6) (x13 := x13) E h
  unfold lawB_4
  unfold lsl at h2 ⊢
  simp only [wbo_var, ar_var, bo_cst, bo_bin, bo_neg, bo_not, bo_and, bo_or, bo_cmp, bo_chain, bo_ife, bo_tup, bo_lst, bo_dnew, bo_idx, bo_slc, bo_rev, bo_call, bo_prim, bo_isi, bo_lc, bo_rg, sh_rt, sh_gd, sh_bd, ar_cst, ar_bin, ar_neg, ar_not, ar_and, ar_or, ar_cmp, ar_chain, ar_ife, ar_tup, ar_lst, ar_dnew, ar_idx, ar_slc, ar_rev, ar_call, ar_prim, ar_isi, ar_lc, ar_rg, e_var, e_cst, e_bin, e_neg, e_not, e_and, e_or, e_cmp, e_chain, e_ife, e_tup, e_lst, e_dnew, e_idx, e_slc, e_rev, e_call, e_prim, e_isi, e_lc, e_rg, wt_and, wt_or, wt_not, wt_e, vs_nil, vs_cons, vs_star, vb_nil, vb_cons, va_nil, va_cons, vo_no, vo_yes, vc_no, vc_yes, vi_val, vi_valf, vi_rng, vi_zip, vi_zipf, getD_0, getD_s, a_v, a_p, Option.bind_some, x_nil, x_cons, x_ite, exec, koF, parW, sets_n, sets_c, rt_ap, bd_ap, gd_ap, ite_ap, bd_rt, rt_bd, bd_bd, bd_gd, gd_gd, gd_true, bd_ite, ite_rt, ite_gd1, ite_gd2, lift_rt, b_and, b_and2, b_or, b_or2, ite_en, look_z, look_s, lookB_z, lookB_o, lookB_s, lookA_z, lookA_c, lookA_s, lookO_o, lookO_s, List.getElem?_cons_zero, List.getElem?_cons_succ, List.set_cons_zero, List.set_cons_succ, Bool.false_eq_true, if_false, if_true, wipeN_n, wipeN_c, free_n, free_c, nOwn_n, nOwn_s, nOwn_c, Bool.true_and, true_and, List.length_cons, List.length_nil, Nat.zero_add, Nat.reduceAdd, Nat.reduceLeDiff, sz, i_en, b_en, l_en, t_en, tl_en, p_en, l1_en, t1_en, snoc_en, app_en, isL_l, c_eq, c_ne, c_inL, c_inT, c_ninL, c_ninT, c_eqE, c_neE, c_eqU, c_neU, c_lt, c_gt, c_le, c_ge, dp_int, dp_bool, dp_unit, dp_list, dp_tu, dp_pair, Nat.max_self, tr_b, tr_i, tr_l, tr_t, o_add, o_sub, o_mul, o_div, o_mod, o_shl, o_shr, o_band, o_neg, o_addL, o_addT, mulB1, i01, x_list, x_tup, x_p0, x_p1, s_list, s_tup, r_list, lt_list, lt_tup, ls_list, q_lenL, q_lenT, q_tupL, q_tupT, q_listL, q_listT, q_all, q_any, q_sum, q_max, q_min, q_int, q_abs, g_rng, toI_en, lcW_en, lcM_all, lcM_if, lcM_gd, List.map_id', List.all_map, List.any_map, Bool.not_true, Bool.not_false, List.length_map, ii_and, ii_or, Option.getD_some, List.isEmpty_map, isEmpty_filterB, Function.comp_def, id_eq, bo_sset, ar_sset, e_sset, sset_en, ssetL_en, bo_meth, bo_disp, ar_meth, ar_disp, e_meth, e_disp, vp_nil, vp_cons, vi_enum, vi_enumf, vi_rng3, x_dct, c_inD, c_ninD, s_dct, isL_d, q_lenD, q_listD, d_int, d_tu, d_pair, enum_en, index_en, mOk_l, od_1, od_2, false_implies, Bool.and_true, and_true, implies_true, forall_const, ite_some, s_lst, x_frz, frz_o, frz_h, frz_s, Option.getD_none, Int.one_mul, forW_en, gd_ff, sz_lt, List.append_nil, List.nil_append, Bool.not_not, t0_en, l0_en]
  have hl := (good_cuts (ps := ps) E.n5).len
  refine s_lawStands (k := k + 5) (f := pix ((cutsL n ps).map nu)) (by omega) (fun a ha => ?_) ?_
  · have := mem_rg.mp ha
    rw [x_tup]
    exact gd_ok (ixOk this.1 (by rw [List.length_map]; exact this.2)) _
  rw [st_cuts E.lat E.hS fun c hc => pix_idx hc]
  simp only [wbo_var, ar_var, bo_cst, bo_bin, bo_neg, bo_not, bo_and, bo_or, bo_cmp, bo_chain, bo_ife, bo_tup, bo_lst, bo_dnew, bo_idx, bo_slc, bo_rev, bo_call, bo_prim, bo_isi, bo_lc, bo_rg, sh_rt, sh_gd, sh_bd, ar_cst, ar_bin, ar_neg, ar_not, ar_and, ar_or, ar_cmp, ar_chain, ar_ife, ar_tup, ar_lst, ar_dnew, ar_idx, ar_slc, ar_rev, ar_call, ar_prim, ar_isi, ar_lc, ar_rg, e_var, e_cst, e_bin, e_neg, e_not, e_and, e_or, e_cmp, e_chain, e_ife, e_tup, e_lst, e_dnew, e_idx, e_slc, e_rev, e_call, e_prim, e_isi, e_lc, e_rg, wt_and, wt_or, wt_not, wt_e, vs_nil, vs_cons, vs_star, vb_nil, vb_cons, va_nil, va_cons, vo_no, vo_yes, vc_no, vc_yes, vi_val, vi_valf, vi_rng, vi_zip, vi_zipf, getD_0, getD_s, a_v, a_p, Option.bind_some, x_nil, x_cons, x_ite, exec, koF, parW, sets_n, sets_c, rt_ap, bd_ap, gd_ap, ite_ap, bd_rt, rt_bd, bd_bd, bd_gd, gd_gd, gd_true, bd_ite, ite_rt, ite_gd1, ite_gd2, lift_rt, b_and, b_and2, b_or, b_or2, ite_en, look_z, look_s, lookB_z, lookB_o, lookB_s, lookA_z, lookA_c, lookA_s, lookO_o, lookO_s, List.getElem?_cons_zero, List.getElem?_cons_succ, List.set_cons_zero, List.set_cons_succ, Bool.false_eq_true, if_false, if_true, wipeN_n, wipeN_c, free_n, free_c, nOwn_n, nOwn_s, nOwn_c, Bool.true_and, true_and, List.length_cons, List.length_nil, Nat.zero_add, Nat.reduceAdd, Nat.reduceLeDiff, sz, i_en, b_en, l_en, t_en, tl_en, p_en, l1_en, t1_en, snoc_en, app_en, isL_l, c_eq, c_ne, c_inL, c_inT, c_ninL, c_ninT, c_eqE, c_neE, c_eqU, c_neU, c_lt, c_gt, c_le, c_ge, dp_int, dp_bool, dp_unit, dp_list, dp_tu, dp_pair, Nat.max_self, tr_b, tr_i, tr_l, tr_t, o_add, o_sub, o_mul, o_div, o_mod, o_shl, o_shr, o_band, o_neg, o_addL, o_addT, mulB1, i01, x_list, x_tup, x_p0, x_p1, s_list, s_tup, r_list, lt_list, lt_tup, ls_list, q_lenL, q_lenT, q_tupL, q_tupT, q_listL, q_listT, q_all, q_any, q_sum, q_max, q_min, q_int, q_abs, g_rng, toI_en, lcW_en, lcM_all, lcM_if, lcM_gd, List.map_id', List.all_map, List.any_map, Bool.not_true, Bool.not_false, List.length_map, ii_and, ii_or, Option.getD_some, List.isEmpty_map, isEmpty_filterB, Function.comp_def, id_eq, bo_sset, ar_sset, e_sset, sset_en, ssetL_en, bo_meth, bo_disp, ar_meth, ar_disp, e_meth, e_disp, vp_nil, vp_cons, vi_enum, vi_enumf, vi_rng3, x_dct, c_inD, c_ninD, s_dct, isL_d, q_lenD, q_listD, d_int, d_tu, d_pair, enum_en, index_en, mOk_l, od_1, od_2, false_implies, Bool.and_true, and_true, implies_true, forall_const, ite_some, s_lst, x_frz, frz_o, frz_h, frz_s, Option.getD_none, Int.one_mul, forW_en, gd_ff, sz_lt, List.append_nil, List.nil_append, Bool.not_not, t0_en, l0_en]
  exact h2
theorem all2_map {α β : Type} {f : α → β} : ∀ {xs : List α} {bs : List β}, All2 (fun a b => b = f a) xs bs → bs = xs.map f
  | _, _, .nil => rfl
  | _, _, .cons h t => by rw [h, all2_map t]; rfl
theorem l_5 (E : Env n ps S m L nu) (h : ∀ x5 x6 x13, K.nx (lsl n ps m L nu x2 x5 x6 x13)) : execs (CG (k + 6)) lawB_5 (lsl n ps m L nu x2 x5 x6 x13) K := by
  have h4 := l_4 (k := k) (x2 := x2) (x6 := x6) (x13 := x13) E fun x6 x13 => h _ x6 x13
  unfold lawB_5
  unfold lsl at h4 ⊢
  have n5 := E.n5
  have m32 := E.m32
  have hl := (good_cuts (ps := ps) E.n5).len
  have cr : ∀ {c : Tu Int}, c ∈ cutsL n ps → ∀ x ∈ c.l, x ∈ rg n := fun hc x hx => (lotsL_sub _ _ (mem_cuts.mp hc).1).subset hx
  have mp : ∀ {c : Tu Int}, c ∈ cutsL n ps → ∀ y, y ∈ c.l.map (pix (plN n ps nu)) ↔ ∃ x ∈ c.l, y = nu ⟨und n ps [x]⟩ := fun {c} hc y => by
    rw [List.mem_map]
    exact ⟨fun ⟨x, hx, e⟩ => ⟨x, hx, by rw [← e, pl_at (cr hc x hx)]⟩, fun ⟨x, hx, e⟩ => ⟨x, hx, by rw [e, pl_at (cr hc x hx)]⟩⟩
  have s := shw_intsG (m := m) (xs := (cutsL n ps).map nu) (fun x hx => by
    obtain ⟨c, hc, rfl⟩ := List.mem_map.mp hx
    exact E.lat.at_ _ (E.hS c hc)) (by omega) (by rw [List.length_map]; omega)
  simp only [wbo_var, ar_var, bo_cst, bo_bin, bo_neg, bo_not, bo_and, bo_or, bo_cmp, bo_chain, bo_ife, bo_tup, bo_lst, bo_dnew, bo_idx, bo_slc, bo_rev, bo_call, bo_prim, bo_isi, bo_lc, bo_rg, sh_rt, sh_gd, sh_bd, ar_cst, ar_bin, ar_neg, ar_not, ar_and, ar_or, ar_cmp, ar_chain, ar_ife, ar_tup, ar_lst, ar_dnew, ar_idx, ar_slc, ar_rev, ar_call, ar_prim, ar_isi, ar_lc, ar_rg, e_var, e_cst, e_bin, e_neg, e_not, e_and, e_or, e_cmp, e_chain, e_ife, e_tup, e_lst, e_dnew, e_idx, e_slc, e_rev, e_call, e_prim, e_isi, e_lc, e_rg, wt_and, wt_or, wt_not, wt_e, vs_nil, vs_cons, vs_star, vb_nil, vb_cons, va_nil, va_cons, vo_no, vo_yes, vc_no, vc_yes, vi_val, vi_valf, vi_rng, vi_zip, vi_zipf, getD_0, getD_s, a_v, a_p, Option.bind_some, x_nil, x_cons, x_ite, exec, koF, parW, sets_n, sets_c, rt_ap, bd_ap, gd_ap, ite_ap, bd_rt, rt_bd, bd_bd, bd_gd, gd_gd, gd_true, bd_ite, ite_rt, ite_gd1, ite_gd2, lift_rt, b_and, b_and2, b_or, b_or2, ite_en, look_z, look_s, lookB_z, lookB_o, lookB_s, lookA_z, lookA_c, lookA_s, lookO_o, lookO_s, List.getElem?_cons_zero, List.getElem?_cons_succ, List.set_cons_zero, List.set_cons_succ, Bool.false_eq_true, if_false, if_true, wipeN_n, wipeN_c, free_n, free_c, nOwn_n, nOwn_s, nOwn_c, Bool.true_and, true_and, List.length_cons, List.length_nil, Nat.zero_add, Nat.reduceAdd, Nat.reduceLeDiff, sz, i_en, b_en, l_en, t_en, tl_en, p_en, l1_en, t1_en, snoc_en, app_en, isL_l, c_eq, c_ne, c_inL, c_inT, c_ninL, c_ninT, c_eqE, c_neE, c_eqU, c_neU, c_lt, c_gt, c_le, c_ge, dp_int, dp_bool, dp_unit, dp_list, dp_tu, dp_pair, Nat.max_self, tr_b, tr_i, tr_l, tr_t, o_add, o_sub, o_mul, o_div, o_mod, o_shl, o_shr, o_band, o_neg, o_addL, o_addT, mulB1, i01, x_list, x_tup, x_p0, x_p1, s_list, s_tup, r_list, lt_list, lt_tup, ls_list, q_lenL, q_lenT, q_tupL, q_tupT, q_listL, q_listT, q_all, q_any, q_sum, q_max, q_min, q_int, q_abs, g_rng, toI_en, lcW_en, lcM_all, lcM_if, lcM_gd, List.map_id', List.all_map, List.any_map, Bool.not_true, Bool.not_false, List.length_map, ii_and, ii_or, Option.getD_some, List.isEmpty_map, isEmpty_filterB, Function.comp_def, id_eq, bo_sset, ar_sset, e_sset, sset_en, ssetL_en, bo_meth, bo_disp, ar_meth, ar_disp, e_meth, e_disp, vp_nil, vp_cons, vi_enum, vi_enumf, vi_rng3, x_dct, c_inD, c_ninD, s_dct, isL_d, q_lenD, q_listD, d_int, d_tu, d_pair, enum_en, index_en, mOk_l, od_1, od_2, false_implies, Bool.and_true, and_true, implies_true, forall_const, ite_some, s_lst, x_frz, frz_o, frz_h, frz_s, Option.getD_none, Int.one_mul, forW_en, gd_ff, sz_lt, List.append_nil, List.nil_append, Bool.not_not, t0_en, l0_en]
  refine s_ledCuts (k := k + 1) (T := nu) (by omega) (by omega) pl_len (fun c hc => ?_) ?_
  · refine join_cut E.g E.hC E.lat E.hS hc fun y => ?_
    rw [sortU_mem]
    exact mp hc y
  rw [rep_ok s]
  simp only [rt_ap]
  refine lcM_each (P := fun c (v : Int) => v = nu c) (fun c hc K2 hK2 => ?_) fun bs hb => ?_
  · rw [@e_lawJoin (k + 3) m L (by omega) _ _ (join_cut E.g E.hC E.lat E.hS hc (mp hc))]
    refine ⟨fun x hx => ?_, hK2 _ rfl⟩
    have := mem_rg.mp (cr hc x hx)
    exact ixOk this.1 (by rw [pl_len]; exact this.2)
  · rw [all2_map hb]
    simp only [wbo_var, ar_var, bo_cst, bo_bin, bo_neg, bo_not, bo_and, bo_or, bo_cmp, bo_chain, bo_ife, bo_tup, bo_lst, bo_dnew, bo_idx, bo_slc, bo_rev, bo_call, bo_prim, bo_isi, bo_lc, bo_rg, sh_rt, sh_gd, sh_bd, ar_cst, ar_bin, ar_neg, ar_not, ar_and, ar_or, ar_cmp, ar_chain, ar_ife, ar_tup, ar_lst, ar_dnew, ar_idx, ar_slc, ar_rev, ar_call, ar_prim, ar_isi, ar_lc, ar_rg, e_var, e_cst, e_bin, e_neg, e_not, e_and, e_or, e_cmp, e_chain, e_ife, e_tup, e_lst, e_dnew, e_idx, e_slc, e_rev, e_call, e_prim, e_isi, e_lc, e_rg, wt_and, wt_or, wt_not, wt_e, vs_nil, vs_cons, vs_star, vb_nil, vb_cons, va_nil, va_cons, vo_no, vo_yes, vc_no, vc_yes, vi_val, vi_valf, vi_rng, vi_zip, vi_zipf, getD_0, getD_s, a_v, a_p, Option.bind_some, x_nil, x_cons, x_ite, exec, koF, parW, sets_n, sets_c, rt_ap, bd_ap, gd_ap, ite_ap, bd_rt, rt_bd, bd_bd, bd_gd, gd_gd, gd_true, bd_ite, ite_rt, ite_gd1, ite_gd2, lift_rt, b_and, b_and2, b_or, b_or2, ite_en, look_z, look_s, lookB_z, lookB_o, lookB_s, lookA_z, lookA_c, lookA_s, lookO_o, lookO_s, List.getElem?_cons_zero, List.getElem?_cons_succ, List.set_cons_zero, List.set_cons_succ, Bool.false_eq_true, if_false, if_true, wipeN_n, wipeN_c, free_n, free_c, nOwn_n, nOwn_s, nOwn_c, Bool.true_and, true_and, List.length_cons, List.length_nil, Nat.zero_add, Nat.reduceAdd, Nat.reduceLeDiff, sz, i_en, b_en, l_en, t_en, tl_en, p_en, l1_en, t1_en, snoc_en, app_en, isL_l, c_eq, c_ne, c_inL, c_inT, c_ninL, c_ninT, c_eqE, c_neE, c_eqU, c_neU, c_lt, c_gt, c_le, c_ge, dp_int, dp_bool, dp_unit, dp_list, dp_tu, dp_pair, Nat.max_self, tr_b, tr_i, tr_l, tr_t, o_add, o_sub, o_mul, o_div, o_mod, o_shl, o_shr, o_band, o_neg, o_addL, o_addT, mulB1, i01, x_list, x_tup, x_p0, x_p1, s_list, s_tup, r_list, lt_list, lt_tup, ls_list, q_lenL, q_lenT, q_tupL, q_tupT, q_listL, q_listT, q_all, q_any, q_sum, q_max, q_min, q_int, q_abs, g_rng, toI_en, lcW_en, lcM_all, lcM_if, lcM_gd, List.map_id', List.all_map, List.any_map, Bool.not_true, Bool.not_false, List.length_map, ii_and, ii_or, Option.getD_some, List.isEmpty_map, isEmpty_filterB, Function.comp_def, id_eq, bo_sset, ar_sset, e_sset, sset_en, ssetL_en, bo_meth, bo_disp, ar_meth, ar_disp, e_meth, e_disp, vp_nil, vp_cons, vi_enum, vi_enumf, vi_rng3, x_dct, c_inD, c_ninD, s_dct, isL_d, q_lenD, q_listD, d_int, d_tu, d_pair, enum_en, index_en, mOk_l, od_1, od_2, false_implies, Bool.and_true, and_true, implies_true, forall_const, ite_some, s_lst, x_frz, frz_o, frz_h, frz_s, Option.getD_none, Int.one_mul, forW_en, gd_ff, sz_lt, List.append_nil, List.nil_append, Bool.not_not, t0_en, l0_en]
    rw [rep_ok s]
    simp only [rt_ap]
    rw [rep_ne s]
    simp only [wbo_var, ar_var, bo_cst, bo_bin, bo_neg, bo_not, bo_and, bo_or, bo_cmp, bo_chain, bo_ife, bo_tup, bo_lst, bo_dnew, bo_idx, bo_slc, bo_rev, bo_call, bo_prim, bo_isi, bo_lc, bo_rg, sh_rt, sh_gd, sh_bd, ar_cst, ar_bin, ar_neg, ar_not, ar_and, ar_or, ar_cmp, ar_chain, ar_ife, ar_tup, ar_lst, ar_dnew, ar_idx, ar_slc, ar_rev, ar_call, ar_prim, ar_isi, ar_lc, ar_rg, e_var, e_cst, e_bin, e_neg, e_not, e_and, e_or, e_cmp, e_chain, e_ife, e_tup, e_lst, e_dnew, e_idx, e_slc, e_rev, e_call, e_prim, e_isi, e_lc, e_rg, wt_and, wt_or, wt_not, wt_e, vs_nil, vs_cons, vs_star, vb_nil, vb_cons, va_nil, va_cons, vo_no, vo_yes, vc_no, vc_yes, vi_val, vi_valf, vi_rng, vi_zip, vi_zipf, getD_0, getD_s, a_v, a_p, Option.bind_some, x_nil, x_cons, x_ite, exec, koF, parW, sets_n, sets_c, rt_ap, bd_ap, gd_ap, ite_ap, bd_rt, rt_bd, bd_bd, bd_gd, gd_gd, gd_true, bd_ite, ite_rt, ite_gd1, ite_gd2, lift_rt, b_and, b_and2, b_or, b_or2, ite_en, look_z, look_s, lookB_z, lookB_o, lookB_s, lookA_z, lookA_c, lookA_s, lookO_o, lookO_s, List.getElem?_cons_zero, List.getElem?_cons_succ, List.set_cons_zero, List.set_cons_succ, Bool.false_eq_true, if_false, if_true, wipeN_n, wipeN_c, free_n, free_c, nOwn_n, nOwn_s, nOwn_c, Bool.true_and, true_and, List.length_cons, List.length_nil, Nat.zero_add, Nat.reduceAdd, Nat.reduceLeDiff, sz, i_en, b_en, l_en, t_en, tl_en, p_en, l1_en, t1_en, snoc_en, app_en, isL_l, c_eq, c_ne, c_inL, c_inT, c_ninL, c_ninT, c_eqE, c_neE, c_eqU, c_neU, c_lt, c_gt, c_le, c_ge, dp_int, dp_bool, dp_unit, dp_list, dp_tu, dp_pair, Nat.max_self, tr_b, tr_i, tr_l, tr_t, o_add, o_sub, o_mul, o_div, o_mod, o_shl, o_shr, o_band, o_neg, o_addL, o_addT, mulB1, i01, x_list, x_tup, x_p0, x_p1, s_list, s_tup, r_list, lt_list, lt_tup, ls_list, q_lenL, q_lenT, q_tupL, q_tupT, q_listL, q_listT, q_all, q_any, q_sum, q_max, q_min, q_int, q_abs, g_rng, toI_en, lcW_en, lcM_all, lcM_if, lcM_gd, List.map_id', List.all_map, List.any_map, Bool.not_true, Bool.not_false, List.length_map, ii_and, ii_or, Option.getD_some, List.isEmpty_map, isEmpty_filterB, Function.comp_def, id_eq, bo_sset, ar_sset, e_sset, sset_en, ssetL_en, bo_meth, bo_disp, ar_meth, ar_disp, e_meth, e_disp, vp_nil, vp_cons, vi_enum, vi_enumf, vi_rng3, x_dct, c_inD, c_ninD, s_dct, isL_d, q_lenD, q_listD, d_int, d_tu, d_pair, enum_en, index_en, mOk_l, od_1, od_2, false_implies, Bool.and_true, and_true, implies_true, forall_const, ite_some, s_lst, x_frz, frz_o, frz_h, frz_s, Option.getD_none, Int.one_mul, forW_en, gd_ff, sz_lt, List.append_nil, List.nil_append, Bool.not_not, t0_en, l0_en]
    exact h4
theorem l_6 (hn1 : 1 ≤ n) (hn : n ≤ 5) (g : GO n ps) (hI : ∀ a b, (a, b) ∈ ps → (b, a) ∉ ps) (hC : ∀ a b c, (a, b) ∈ ps → (b, c) ∈ ps → (a, c) ∈ ps) {x4 x11 x12 : Option B}
    (h : ∀ m L nu x5 x6 x13, K.nx (lsl n ps m L nu x2 x5 x6 x13)) : execs (CG (k + 6)) lawB_6 [none, some .src, x2, some (.sh (en (od n ps))), x4, x5, x6, some (.sh (en (n : Int))), some (.sh (en (cutsL n ps))), some (.sh (.str (en (od n ps)).shown)), some (.sh (en (od (cutsL n ps).length (wthL (cutsL n ps))))), x11, x12, x13, none, none, none] K := by
  unfold lawB_6
  simp only [wbo_var, ar_var, bo_cst, bo_bin, bo_neg, bo_not, bo_and, bo_or, bo_cmp, bo_chain, bo_ife, bo_tup, bo_lst, bo_dnew, bo_idx, bo_slc, bo_rev, bo_call, bo_prim, bo_isi, bo_lc, bo_rg, sh_rt, sh_gd, sh_bd, ar_cst, ar_bin, ar_neg, ar_not, ar_and, ar_or, ar_cmp, ar_chain, ar_ife, ar_tup, ar_lst, ar_dnew, ar_idx, ar_slc, ar_rev, ar_call, ar_prim, ar_isi, ar_lc, ar_rg, e_var, e_cst, e_bin, e_neg, e_not, e_and, e_or, e_cmp, e_chain, e_ife, e_tup, e_lst, e_dnew, e_idx, e_slc, e_rev, e_call, e_prim, e_isi, e_lc, e_rg, wt_and, wt_or, wt_not, wt_e, vs_nil, vs_cons, vs_star, vb_nil, vb_cons, va_nil, va_cons, vo_no, vo_yes, vc_no, vc_yes, vi_val, vi_valf, vi_rng, vi_zip, vi_zipf, getD_0, getD_s, a_v, a_p, Option.bind_some, x_nil, x_cons, x_ite, exec, koF, parW, sets_n, sets_c, rt_ap, bd_ap, gd_ap, ite_ap, bd_rt, rt_bd, bd_bd, bd_gd, gd_gd, gd_true, bd_ite, ite_rt, ite_gd1, ite_gd2, lift_rt, b_and, b_and2, b_or, b_or2, ite_en, look_z, look_s, lookB_z, lookB_o, lookB_s, lookA_z, lookA_c, lookA_s, lookO_o, lookO_s, List.getElem?_cons_zero, List.getElem?_cons_succ, List.set_cons_zero, List.set_cons_succ, Bool.false_eq_true, if_false, if_true, wipeN_n, wipeN_c, free_n, free_c, nOwn_n, nOwn_s, nOwn_c, Bool.true_and, true_and, List.length_cons, List.length_nil, Nat.zero_add, Nat.reduceAdd, Nat.reduceLeDiff, sz, i_en, b_en, l_en, t_en, tl_en, p_en, l1_en, t1_en, snoc_en, app_en, isL_l, c_eq, c_ne, c_inL, c_inT, c_ninL, c_ninT, c_eqE, c_neE, c_eqU, c_neU, c_lt, c_gt, c_le, c_ge, dp_int, dp_bool, dp_unit, dp_list, dp_tu, dp_pair, Nat.max_self, tr_b, tr_i, tr_l, tr_t, o_add, o_sub, o_mul, o_div, o_mod, o_shl, o_shr, o_band, o_neg, o_addL, o_addT, mulB1, i01, x_list, x_tup, x_p0, x_p1, s_list, s_tup, r_list, lt_list, lt_tup, ls_list, q_lenL, q_lenT, q_tupL, q_tupT, q_listL, q_listT, q_all, q_any, q_sum, q_max, q_min, q_int, q_abs, g_rng, toI_en, lcW_en, lcM_all, lcM_if, lcM_gd, List.map_id', List.all_map, List.any_map, Bool.not_true, Bool.not_false, List.length_map, ii_and, ii_or, Option.getD_some, List.isEmpty_map, isEmpty_filterB, Function.comp_def, id_eq, bo_sset, ar_sset, e_sset, sset_en, ssetL_en, bo_meth, bo_disp, ar_meth, ar_disp, e_meth, e_disp, vp_nil, vp_cons, vi_enum, vi_enumf, vi_rng3, x_dct, c_inD, c_ninD, s_dct, isL_d, q_lenD, q_listD, d_int, d_tu, d_pair, enum_en, index_en, mOk_l, od_1, od_2, false_implies, Bool.and_true, and_true, implies_true, forall_const, ite_some, s_lst, x_frz, frz_o, frz_h, frz_s, Option.getD_none, Int.one_mul, forW_en, gd_ff, sz_lt, List.append_nil, List.nil_append, Bool.not_not, t0_en, l0_en]
  refine s_lawRound (k := k) hn1 hn g hI hC fun S m L nu lat hS m32 L1 => ?_
  have E : Env n ps S m L nu := ⟨hn1, hn, g, hI, hC, lat, hS, m32, L1⟩
  have h5 := fun x5 x6 x13 => l_5 (k := k) (K := K) (x2 := x2) (x5 := x5) (x6 := x6) (x13 := x13) E fun x5 x6 x13 => h m L nu x5 x6 x13
  unfold lsl at h5
  rw [show ((rg n).map fun w => nu ⟨und n ps [w]⟩) = plN n ps nu from rfl]
  simp only [wbo_var, ar_var, bo_cst, bo_bin, bo_neg, bo_not, bo_and, bo_or, bo_cmp, bo_chain, bo_ife, bo_tup, bo_lst, bo_dnew, bo_idx, bo_slc, bo_rev, bo_call, bo_prim, bo_isi, bo_lc, bo_rg, sh_rt, sh_gd, sh_bd, ar_cst, ar_bin, ar_neg, ar_not, ar_and, ar_or, ar_cmp, ar_chain, ar_ife, ar_tup, ar_lst, ar_dnew, ar_idx, ar_slc, ar_rev, ar_call, ar_prim, ar_isi, ar_lc, ar_rg, e_var, e_cst, e_bin, e_neg, e_not, e_and, e_or, e_cmp, e_chain, e_ife, e_tup, e_lst, e_dnew, e_idx, e_slc, e_rev, e_call, e_prim, e_isi, e_lc, e_rg, wt_and, wt_or, wt_not, wt_e, vs_nil, vs_cons, vs_star, vb_nil, vb_cons, va_nil, va_cons, vo_no, vo_yes, vc_no, vc_yes, vi_val, vi_valf, vi_rng, vi_zip, vi_zipf, getD_0, getD_s, a_v, a_p, Option.bind_some, x_nil, x_cons, x_ite, exec, koF, parW, sets_n, sets_c, rt_ap, bd_ap, gd_ap, ite_ap, bd_rt, rt_bd, bd_bd, bd_gd, gd_gd, gd_true, bd_ite, ite_rt, ite_gd1, ite_gd2, lift_rt, b_and, b_and2, b_or, b_or2, ite_en, look_z, look_s, lookB_z, lookB_o, lookB_s, lookA_z, lookA_c, lookA_s, lookO_o, lookO_s, List.getElem?_cons_zero, List.getElem?_cons_succ, List.set_cons_zero, List.set_cons_succ, Bool.false_eq_true, if_false, if_true, wipeN_n, wipeN_c, free_n, free_c, nOwn_n, nOwn_s, nOwn_c, Bool.true_and, true_and, List.length_cons, List.length_nil, Nat.zero_add, Nat.reduceAdd, Nat.reduceLeDiff, sz, i_en, b_en, l_en, t_en, tl_en, p_en, l1_en, t1_en, snoc_en, app_en, isL_l, c_eq, c_ne, c_inL, c_inT, c_ninL, c_ninT, c_eqE, c_neE, c_eqU, c_neU, c_lt, c_gt, c_le, c_ge, dp_int, dp_bool, dp_unit, dp_list, dp_tu, dp_pair, Nat.max_self, tr_b, tr_i, tr_l, tr_t, o_add, o_sub, o_mul, o_div, o_mod, o_shl, o_shr, o_band, o_neg, o_addL, o_addT, mulB1, i01, x_list, x_tup, x_p0, x_p1, s_list, s_tup, r_list, lt_list, lt_tup, ls_list, q_lenL, q_lenT, q_tupL, q_tupT, q_listL, q_listT, q_all, q_any, q_sum, q_max, q_min, q_int, q_abs, g_rng, toI_en, lcW_en, lcM_all, lcM_if, lcM_gd, List.map_id', List.all_map, List.any_map, Bool.not_true, Bool.not_false, List.length_map, ii_and, ii_or, Option.getD_some, List.isEmpty_map, isEmpty_filterB, Function.comp_def, id_eq, bo_sset, ar_sset, e_sset, sset_en, ssetL_en, bo_meth, bo_disp, ar_meth, ar_disp, e_meth, e_disp, vp_nil, vp_cons, vi_enum, vi_enumf, vi_rng3, x_dct, c_inD, c_ninD, s_dct, isL_d, q_lenD, q_listD, d_int, d_tu, d_pair, enum_en, index_en, mOk_l, od_1, od_2, false_implies, Bool.and_true, and_true, implies_true, forall_const, ite_some, s_lst, x_frz, frz_o, frz_h, frz_s, Option.getD_none, Int.one_mul, forW_en, gd_ff, sz_lt, List.append_nil, List.nil_append, Bool.not_not, t0_en, l0_en]
  have s1 := shw_two (by omega) lat.inr (by omega) (pl_in E) (by rw [pl_len]; omega)
  rw [rep_ok s1]
  simp only [rt_ap]
  refine s_stands (k := k + 5) (f := pix (plN n ps nu)) (by omega) pl_len (fun _ _ => rfl) ?_
  rw [st_home hI hC lat hS fun w hw => pl_at hw]
  rw [show copD .isn (en true) (en true) = some (en false) from rfl]
  simp only [wbo_var, ar_var, bo_cst, bo_bin, bo_neg, bo_not, bo_and, bo_or, bo_cmp, bo_chain, bo_ife, bo_tup, bo_lst, bo_dnew, bo_idx, bo_slc, bo_rev, bo_call, bo_prim, bo_isi, bo_lc, bo_rg, sh_rt, sh_gd, sh_bd, ar_cst, ar_bin, ar_neg, ar_not, ar_and, ar_or, ar_cmp, ar_chain, ar_ife, ar_tup, ar_lst, ar_dnew, ar_idx, ar_slc, ar_rev, ar_call, ar_prim, ar_isi, ar_lc, ar_rg, e_var, e_cst, e_bin, e_neg, e_not, e_and, e_or, e_cmp, e_chain, e_ife, e_tup, e_lst, e_dnew, e_idx, e_slc, e_rev, e_call, e_prim, e_isi, e_lc, e_rg, wt_and, wt_or, wt_not, wt_e, vs_nil, vs_cons, vs_star, vb_nil, vb_cons, va_nil, va_cons, vo_no, vo_yes, vc_no, vc_yes, vi_val, vi_valf, vi_rng, vi_zip, vi_zipf, getD_0, getD_s, a_v, a_p, Option.bind_some, x_nil, x_cons, x_ite, exec, koF, parW, sets_n, sets_c, rt_ap, bd_ap, gd_ap, ite_ap, bd_rt, rt_bd, bd_bd, bd_gd, gd_gd, gd_true, bd_ite, ite_rt, ite_gd1, ite_gd2, lift_rt, b_and, b_and2, b_or, b_or2, ite_en, look_z, look_s, lookB_z, lookB_o, lookB_s, lookA_z, lookA_c, lookA_s, lookO_o, lookO_s, List.getElem?_cons_zero, List.getElem?_cons_succ, List.set_cons_zero, List.set_cons_succ, Bool.false_eq_true, if_false, if_true, wipeN_n, wipeN_c, free_n, free_c, nOwn_n, nOwn_s, nOwn_c, Bool.true_and, true_and, List.length_cons, List.length_nil, Nat.zero_add, Nat.reduceAdd, Nat.reduceLeDiff, sz, i_en, b_en, l_en, t_en, tl_en, p_en, l1_en, t1_en, snoc_en, app_en, isL_l, c_eq, c_ne, c_inL, c_inT, c_ninL, c_ninT, c_eqE, c_neE, c_eqU, c_neU, c_lt, c_gt, c_le, c_ge, dp_int, dp_bool, dp_unit, dp_list, dp_tu, dp_pair, Nat.max_self, tr_b, tr_i, tr_l, tr_t, o_add, o_sub, o_mul, o_div, o_mod, o_shl, o_shr, o_band, o_neg, o_addL, o_addT, mulB1, i01, x_list, x_tup, x_p0, x_p1, s_list, s_tup, r_list, lt_list, lt_tup, ls_list, q_lenL, q_lenT, q_tupL, q_tupT, q_listL, q_listT, q_all, q_any, q_sum, q_max, q_min, q_int, q_abs, g_rng, toI_en, lcW_en, lcM_all, lcM_if, lcM_gd, List.map_id', List.all_map, List.any_map, Bool.not_true, Bool.not_false, List.length_map, ii_and, ii_or, Option.getD_some, List.isEmpty_map, isEmpty_filterB, Function.comp_def, id_eq, bo_sset, ar_sset, e_sset, sset_en, ssetL_en, bo_meth, bo_disp, ar_meth, ar_disp, e_meth, e_disp, vp_nil, vp_cons, vi_enum, vi_enumf, vi_rng3, x_dct, c_inD, c_ninD, s_dct, isL_d, q_lenD, q_listD, d_int, d_tu, d_pair, enum_en, index_en, mOk_l, od_1, od_2, false_implies, Bool.and_true, and_true, implies_true, forall_const, ite_some, s_lst, x_frz, frz_o, frz_h, frz_s, Option.getD_none, Int.one_mul, forW_en, gd_ff, sz_lt, List.append_nil, List.nil_append, Bool.not_not, t0_en, l0_en]
  have hm : (cutsL n ps).length ≤ m := by
    rw [lat.len]; exact len_of_sub _ _ cuts_nodup hS
  rw [if_neg (by simp; omega)]
  exact h5 _ _ _
theorem l_7 {lap : Int} {x3 x4 x7 x8 x9 x10 x11 x12 : Option B} (h0 : 0 ≤ lap) (h3 : lap < 3) (h : ∀ n ps m L nu x5 x6 x13, K.nx (lsl n ps m L nu (some (.sh (en lap))) x5 x6 x13)) : execs (CG (k + 6)) lawB_7 [none, some .src, some (.sh (en lap)), x3, x4, x5, x6, x7, x8, x9, x10, x11, x12, x13, none, none, none] K := by
  unfold lawB_7
  simp only [wbo_var, ar_var, bo_cst, bo_bin, bo_neg, bo_not, bo_and, bo_or, bo_cmp, bo_chain, bo_ife, bo_tup, bo_lst, bo_dnew, bo_idx, bo_slc, bo_rev, bo_call, bo_prim, bo_isi, bo_lc, bo_rg, sh_rt, sh_gd, sh_bd, ar_cst, ar_bin, ar_neg, ar_not, ar_and, ar_or, ar_cmp, ar_chain, ar_ife, ar_tup, ar_lst, ar_dnew, ar_idx, ar_slc, ar_rev, ar_call, ar_prim, ar_isi, ar_lc, ar_rg, e_var, e_cst, e_bin, e_neg, e_not, e_and, e_or, e_cmp, e_chain, e_ife, e_tup, e_lst, e_dnew, e_idx, e_slc, e_rev, e_call, e_prim, e_isi, e_lc, e_rg, wt_and, wt_or, wt_not, wt_e, vs_nil, vs_cons, vs_star, vb_nil, vb_cons, va_nil, va_cons, vo_no, vo_yes, vc_no, vc_yes, vi_val, vi_valf, vi_rng, vi_zip, vi_zipf, getD_0, getD_s, a_v, a_p, Option.bind_some, x_nil, x_cons, x_ite, exec, koF, parW, sets_n, sets_c, rt_ap, bd_ap, gd_ap, ite_ap, bd_rt, rt_bd, bd_bd, bd_gd, gd_gd, gd_true, bd_ite, ite_rt, ite_gd1, ite_gd2, lift_rt, b_and, b_and2, b_or, b_or2, ite_en, look_z, look_s, lookB_z, lookB_o, lookB_s, lookA_z, lookA_c, lookA_s, lookO_o, lookO_s, List.getElem?_cons_zero, List.getElem?_cons_succ, List.set_cons_zero, List.set_cons_succ, Bool.false_eq_true, if_false, if_true, wipeN_n, wipeN_c, free_n, free_c, nOwn_n, nOwn_s, nOwn_c, Bool.true_and, true_and, List.length_cons, List.length_nil, Nat.zero_add, Nat.reduceAdd, Nat.reduceLeDiff, sz, i_en, b_en, l_en, t_en, tl_en, p_en, l1_en, t1_en, snoc_en, app_en, isL_l, c_eq, c_ne, c_inL, c_inT, c_ninL, c_ninT, c_eqE, c_neE, c_eqU, c_neU, c_lt, c_gt, c_le, c_ge, dp_int, dp_bool, dp_unit, dp_list, dp_tu, dp_pair, Nat.max_self, tr_b, tr_i, tr_l, tr_t, o_add, o_sub, o_mul, o_div, o_mod, o_shl, o_shr, o_band, o_neg, o_addL, o_addT, mulB1, i01, x_list, x_tup, x_p0, x_p1, s_list, s_tup, r_list, lt_list, lt_tup, ls_list, q_lenL, q_lenT, q_tupL, q_tupT, q_listL, q_listT, q_all, q_any, q_sum, q_max, q_min, q_int, q_abs, g_rng, toI_en, lcW_en, lcM_all, lcM_if, lcM_gd, List.map_id', List.all_map, List.any_map, Bool.not_true, Bool.not_false, List.length_map, ii_and, ii_or, Option.getD_some, List.isEmpty_map, isEmpty_filterB, Function.comp_def, id_eq, bo_sset, ar_sset, e_sset, sset_en, ssetL_en, bo_meth, bo_disp, ar_meth, ar_disp, e_meth, e_disp, vp_nil, vp_cons, vi_enum, vi_enumf, vi_rng3, x_dct, c_inD, c_ninD, s_dct, isL_d, q_lenD, q_listD, d_int, d_tu, d_pair, enum_en, index_en, mOk_l, od_1, od_2, false_implies, Bool.and_true, and_true, implies_true, forall_const, ite_some, s_lst, x_frz, frz_o, frz_h, frz_s, Option.getD_none, Int.one_mul, forW_en, gd_ff, sz_lt, List.append_nil, List.nil_append, Bool.not_not, t0_en, l0_en]
  rw [show (PyData.list [en (3 : Int), en (4 : Int), en (5 : Int)]) = en [(3 : Int), 4, 5] from rfl]
  simp only [wbo_var, ar_var, bo_cst, bo_bin, bo_neg, bo_not, bo_and, bo_or, bo_cmp, bo_chain, bo_ife, bo_tup, bo_lst, bo_dnew, bo_idx, bo_slc, bo_rev, bo_call, bo_prim, bo_isi, bo_lc, bo_rg, sh_rt, sh_gd, sh_bd, ar_cst, ar_bin, ar_neg, ar_not, ar_and, ar_or, ar_cmp, ar_chain, ar_ife, ar_tup, ar_lst, ar_dnew, ar_idx, ar_slc, ar_rev, ar_call, ar_prim, ar_isi, ar_lc, ar_rg, e_var, e_cst, e_bin, e_neg, e_not, e_and, e_or, e_cmp, e_chain, e_ife, e_tup, e_lst, e_dnew, e_idx, e_slc, e_rev, e_call, e_prim, e_isi, e_lc, e_rg, wt_and, wt_or, wt_not, wt_e, vs_nil, vs_cons, vs_star, vb_nil, vb_cons, va_nil, va_cons, vo_no, vo_yes, vc_no, vc_yes, vi_val, vi_valf, vi_rng, vi_zip, vi_zipf, getD_0, getD_s, a_v, a_p, Option.bind_some, x_nil, x_cons, x_ite, exec, koF, parW, sets_n, sets_c, rt_ap, bd_ap, gd_ap, ite_ap, bd_rt, rt_bd, bd_bd, bd_gd, gd_gd, gd_true, bd_ite, ite_rt, ite_gd1, ite_gd2, lift_rt, b_and, b_and2, b_or, b_or2, ite_en, look_z, look_s, lookB_z, lookB_o, lookB_s, lookA_z, lookA_c, lookA_s, lookO_o, lookO_s, List.getElem?_cons_zero, List.getElem?_cons_succ, List.set_cons_zero, List.set_cons_succ, Bool.false_eq_true, if_false, if_true, wipeN_n, wipeN_c, free_n, free_c, nOwn_n, nOwn_s, nOwn_c, Bool.true_and, true_and, List.length_cons, List.length_nil, Nat.zero_add, Nat.reduceAdd, Nat.reduceLeDiff, sz, i_en, b_en, l_en, t_en, tl_en, p_en, l1_en, t1_en, snoc_en, app_en, isL_l, c_eq, c_ne, c_inL, c_inT, c_ninL, c_ninT, c_eqE, c_neE, c_eqU, c_neU, c_lt, c_gt, c_le, c_ge, dp_int, dp_bool, dp_unit, dp_list, dp_tu, dp_pair, Nat.max_self, tr_b, tr_i, tr_l, tr_t, o_add, o_sub, o_mul, o_div, o_mod, o_shl, o_shr, o_band, o_neg, o_addL, o_addT, mulB1, i01, x_list, x_tup, x_p0, x_p1, s_list, s_tup, r_list, lt_list, lt_tup, ls_list, q_lenL, q_lenT, q_tupL, q_tupT, q_listL, q_listT, q_all, q_any, q_sum, q_max, q_min, q_int, q_abs, g_rng, toI_en, lcW_en, lcM_all, lcM_if, lcM_gd, List.map_id', List.all_map, List.any_map, Bool.not_true, Bool.not_false, List.length_map, ii_and, ii_or, Option.getD_some, List.isEmpty_map, isEmpty_filterB, Function.comp_def, id_eq, bo_sset, ar_sset, e_sset, sset_en, ssetL_en, bo_meth, bo_disp, ar_meth, ar_disp, e_meth, e_disp, vp_nil, vp_cons, vi_enum, vi_enumf, vi_rng3, x_dct, c_inD, c_ninD, s_dct, isL_d, q_lenD, q_listD, d_int, d_tu, d_pair, enum_en, index_en, mOk_l, od_1, od_2, false_implies, Bool.and_true, and_true, implies_true, forall_const, ite_some, s_lst, x_frz, frz_o, frz_h, frz_s, Option.getD_none, Int.one_mul, forW_en, gd_ff, sz_lt, List.append_nil, List.nil_append, Bool.not_not, t0_en, l0_en]
  have hl : lap = 0 ∨ lap = 1 ∨ lap = 2 := by omega
  have hp : 1 ≤ pix [(3 : Int), 4, 5] lap ∧ pix [(3 : Int), 4, 5] lap ≤ 5 := by
    rcases hl with rfl | rfl | rfl
    · decide
    · decide
    · decide
  refine ⟨⟨by omega, by simpa using h3⟩, s_order (k := k + 2) hp.1 (by omega) fun n ps hn1 hn g hI hC => ?_⟩
  have hn5 : n ≤ 5 := by omega
  have hl64 := (good_cuts (ps := ps) hn5).len
  simp only [wbo_var, ar_var, bo_cst, bo_bin, bo_neg, bo_not, bo_and, bo_or, bo_cmp, bo_chain, bo_ife, bo_tup, bo_lst, bo_dnew, bo_idx, bo_slc, bo_rev, bo_call, bo_prim, bo_isi, bo_lc, bo_rg, sh_rt, sh_gd, sh_bd, ar_cst, ar_bin, ar_neg, ar_not, ar_and, ar_or, ar_cmp, ar_chain, ar_ife, ar_tup, ar_lst, ar_dnew, ar_idx, ar_slc, ar_rev, ar_call, ar_prim, ar_isi, ar_lc, ar_rg, e_var, e_cst, e_bin, e_neg, e_not, e_and, e_or, e_cmp, e_chain, e_ife, e_tup, e_lst, e_dnew, e_idx, e_slc, e_rev, e_call, e_prim, e_isi, e_lc, e_rg, wt_and, wt_or, wt_not, wt_e, vs_nil, vs_cons, vs_star, vb_nil, vb_cons, va_nil, va_cons, vo_no, vo_yes, vc_no, vc_yes, vi_val, vi_valf, vi_rng, vi_zip, vi_zipf, getD_0, getD_s, a_v, a_p, Option.bind_some, x_nil, x_cons, x_ite, exec, koF, parW, sets_n, sets_c, rt_ap, bd_ap, gd_ap, ite_ap, bd_rt, rt_bd, bd_bd, bd_gd, gd_gd, gd_true, bd_ite, ite_rt, ite_gd1, ite_gd2, lift_rt, b_and, b_and2, b_or, b_or2, ite_en, look_z, look_s, lookB_z, lookB_o, lookB_s, lookA_z, lookA_c, lookA_s, lookO_o, lookO_s, List.getElem?_cons_zero, List.getElem?_cons_succ, List.set_cons_zero, List.set_cons_succ, Bool.false_eq_true, if_false, if_true, wipeN_n, wipeN_c, free_n, free_c, nOwn_n, nOwn_s, nOwn_c, Bool.true_and, true_and, List.length_cons, List.length_nil, Nat.zero_add, Nat.reduceAdd, Nat.reduceLeDiff, sz, i_en, b_en, l_en, t_en, tl_en, p_en, l1_en, t1_en, snoc_en, app_en, isL_l, c_eq, c_ne, c_inL, c_inT, c_ninL, c_ninT, c_eqE, c_neE, c_eqU, c_neU, c_lt, c_gt, c_le, c_ge, dp_int, dp_bool, dp_unit, dp_list, dp_tu, dp_pair, Nat.max_self, tr_b, tr_i, tr_l, tr_t, o_add, o_sub, o_mul, o_div, o_mod, o_shl, o_shr, o_band, o_neg, o_addL, o_addT, mulB1, i01, x_list, x_tup, x_p0, x_p1, s_list, s_tup, r_list, lt_list, lt_tup, ls_list, q_lenL, q_lenT, q_tupL, q_tupT, q_listL, q_listT, q_all, q_any, q_sum, q_max, q_min, q_int, q_abs, g_rng, toI_en, lcW_en, lcM_all, lcM_if, lcM_gd, List.map_id', List.all_map, List.any_map, Bool.not_true, Bool.not_false, List.length_map, ii_and, ii_or, Option.getD_some, List.isEmpty_map, isEmpty_filterB, Function.comp_def, id_eq, bo_sset, ar_sset, e_sset, sset_en, ssetL_en, bo_meth, bo_disp, ar_meth, ar_disp, e_meth, e_disp, vp_nil, vp_cons, vi_enum, vi_enumf, vi_rng3, x_dct, c_inD, c_ninD, s_dct, isL_d, q_lenD, q_listD, d_int, d_tu, d_pair, enum_en, index_en, mOk_l, od_1, od_2, false_implies, Bool.and_true, and_true, implies_true, forall_const, ite_some, s_lst, x_frz, frz_o, frz_h, frz_s, Option.getD_none, Int.one_mul, forW_en, gd_ff, sz_lt, List.append_nil, List.nil_append, Bool.not_not, t0_en, l0_en]
  refine s_lawCuts (k := k + 2) (by omega) ?_
  have so := shw_od (n := n) (ps := ps) (by omega) g
  rw [rep_ok so]
  simp only [rt_ap]
  refine s_within (k := k + 5) (by omega) ?_
  refine s_round (k := k + 1) (by omega) ?_ (by omega)
  have wl := wth_len (cutsL n ps)
  have wl2 : (cutsL n ps).length * (cutsL n ps).length ≤ 32 * 32 := Nat.mul_le_mul hl64 hl64
  have sd := shw_odG (m := (cutsL n ps).length) (L := wthL (cutsL n ps)) (by omega) lat_cuts.inr (by omega)
  rw [rep_ok sd]
  simp only [rt_ap]
  rw [rep_ne sd]
  simp only [wbo_var, ar_var, bo_cst, bo_bin, bo_neg, bo_not, bo_and, bo_or, bo_cmp, bo_chain, bo_ife, bo_tup, bo_lst, bo_dnew, bo_idx, bo_slc, bo_rev, bo_call, bo_prim, bo_isi, bo_lc, bo_rg, sh_rt, sh_gd, sh_bd, ar_cst, ar_bin, ar_neg, ar_not, ar_and, ar_or, ar_cmp, ar_chain, ar_ife, ar_tup, ar_lst, ar_dnew, ar_idx, ar_slc, ar_rev, ar_call, ar_prim, ar_isi, ar_lc, ar_rg, e_var, e_cst, e_bin, e_neg, e_not, e_and, e_or, e_cmp, e_chain, e_ife, e_tup, e_lst, e_dnew, e_idx, e_slc, e_rev, e_call, e_prim, e_isi, e_lc, e_rg, wt_and, wt_or, wt_not, wt_e, vs_nil, vs_cons, vs_star, vb_nil, vb_cons, va_nil, va_cons, vo_no, vo_yes, vc_no, vc_yes, vi_val, vi_valf, vi_rng, vi_zip, vi_zipf, getD_0, getD_s, a_v, a_p, Option.bind_some, x_nil, x_cons, x_ite, exec, koF, parW, sets_n, sets_c, rt_ap, bd_ap, gd_ap, ite_ap, bd_rt, rt_bd, bd_bd, bd_gd, gd_gd, gd_true, bd_ite, ite_rt, ite_gd1, ite_gd2, lift_rt, b_and, b_and2, b_or, b_or2, ite_en, look_z, look_s, lookB_z, lookB_o, lookB_s, lookA_z, lookA_c, lookA_s, lookO_o, lookO_s, List.getElem?_cons_zero, List.getElem?_cons_succ, List.set_cons_zero, List.set_cons_succ, Bool.false_eq_true, if_false, if_true, wipeN_n, wipeN_c, free_n, free_c, nOwn_n, nOwn_s, nOwn_c, Bool.true_and, true_and, List.length_cons, List.length_nil, Nat.zero_add, Nat.reduceAdd, Nat.reduceLeDiff, sz, i_en, b_en, l_en, t_en, tl_en, p_en, l1_en, t1_en, snoc_en, app_en, isL_l, c_eq, c_ne, c_inL, c_inT, c_ninL, c_ninT, c_eqE, c_neE, c_eqU, c_neU, c_lt, c_gt, c_le, c_ge, dp_int, dp_bool, dp_unit, dp_list, dp_tu, dp_pair, Nat.max_self, tr_b, tr_i, tr_l, tr_t, o_add, o_sub, o_mul, o_div, o_mod, o_shl, o_shr, o_band, o_neg, o_addL, o_addT, mulB1, i01, x_list, x_tup, x_p0, x_p1, s_list, s_tup, r_list, lt_list, lt_tup, ls_list, q_lenL, q_lenT, q_tupL, q_tupT, q_listL, q_listT, q_all, q_any, q_sum, q_max, q_min, q_int, q_abs, g_rng, toI_en, lcW_en, lcM_all, lcM_if, lcM_gd, List.map_id', List.all_map, List.any_map, Bool.not_true, Bool.not_false, List.length_map, ii_and, ii_or, Option.getD_some, List.isEmpty_map, isEmpty_filterB, Function.comp_def, id_eq, bo_sset, ar_sset, e_sset, sset_en, ssetL_en, bo_meth, bo_disp, ar_meth, ar_disp, e_meth, e_disp, vp_nil, vp_cons, vi_enum, vi_enumf, vi_rng3, x_dct, c_inD, c_ninD, s_dct, isL_d, q_lenD, q_listD, d_int, d_tu, d_pair, enum_en, index_en, mOk_l, od_1, od_2, false_implies, Bool.and_true, and_true, implies_true, forall_const, ite_some, s_lst, x_frz, frz_o, frz_h, frz_s, Option.getD_none, Int.one_mul, forW_en, gd_ff, sz_lt, List.append_nil, List.nil_append, Bool.not_not, t0_en, l0_en]
  refine s_isLat (k := k + 2) (by omega) cuts_lat ?_
  rw [show copD .isn (en true) (en true) = some (en false) from rfl]
  simp only [wbo_var, ar_var, bo_cst, bo_bin, bo_neg, bo_not, bo_and, bo_or, bo_cmp, bo_chain, bo_ife, bo_tup, bo_lst, bo_dnew, bo_idx, bo_slc, bo_rev, bo_call, bo_prim, bo_isi, bo_lc, bo_rg, sh_rt, sh_gd, sh_bd, ar_cst, ar_bin, ar_neg, ar_not, ar_and, ar_or, ar_cmp, ar_chain, ar_ife, ar_tup, ar_lst, ar_dnew, ar_idx, ar_slc, ar_rev, ar_call, ar_prim, ar_isi, ar_lc, ar_rg, e_var, e_cst, e_bin, e_neg, e_not, e_and, e_or, e_cmp, e_chain, e_ife, e_tup, e_lst, e_dnew, e_idx, e_slc, e_rev, e_call, e_prim, e_isi, e_lc, e_rg, wt_and, wt_or, wt_not, wt_e, vs_nil, vs_cons, vs_star, vb_nil, vb_cons, va_nil, va_cons, vo_no, vo_yes, vc_no, vc_yes, vi_val, vi_valf, vi_rng, vi_zip, vi_zipf, getD_0, getD_s, a_v, a_p, Option.bind_some, x_nil, x_cons, x_ite, exec, koF, parW, sets_n, sets_c, rt_ap, bd_ap, gd_ap, ite_ap, bd_rt, rt_bd, bd_bd, bd_gd, gd_gd, gd_true, bd_ite, ite_rt, ite_gd1, ite_gd2, lift_rt, b_and, b_and2, b_or, b_or2, ite_en, look_z, look_s, lookB_z, lookB_o, lookB_s, lookA_z, lookA_c, lookA_s, lookO_o, lookO_s, List.getElem?_cons_zero, List.getElem?_cons_succ, List.set_cons_zero, List.set_cons_succ, Bool.false_eq_true, if_false, if_true, wipeN_n, wipeN_c, free_n, free_c, nOwn_n, nOwn_s, nOwn_c, Bool.true_and, true_and, List.length_cons, List.length_nil, Nat.zero_add, Nat.reduceAdd, Nat.reduceLeDiff, sz, i_en, b_en, l_en, t_en, tl_en, p_en, l1_en, t1_en, snoc_en, app_en, isL_l, c_eq, c_ne, c_inL, c_inT, c_ninL, c_ninT, c_eqE, c_neE, c_eqU, c_neU, c_lt, c_gt, c_le, c_ge, dp_int, dp_bool, dp_unit, dp_list, dp_tu, dp_pair, Nat.max_self, tr_b, tr_i, tr_l, tr_t, o_add, o_sub, o_mul, o_div, o_mod, o_shl, o_shr, o_band, o_neg, o_addL, o_addT, mulB1, i01, x_list, x_tup, x_p0, x_p1, s_list, s_tup, r_list, lt_list, lt_tup, ls_list, q_lenL, q_lenT, q_tupL, q_tupT, q_listL, q_listT, q_all, q_any, q_sum, q_max, q_min, q_int, q_abs, g_rng, toI_en, lcW_en, lcM_all, lcM_if, lcM_gd, List.map_id', List.all_map, List.any_map, Bool.not_true, Bool.not_false, List.length_map, ii_and, ii_or, Option.getD_some, List.isEmpty_map, isEmpty_filterB, Function.comp_def, id_eq, bo_sset, ar_sset, e_sset, sset_en, ssetL_en, bo_meth, bo_disp, ar_meth, ar_disp, e_meth, e_disp, vp_nil, vp_cons, vi_enum, vi_enumf, vi_rng3, x_dct, c_inD, c_ninD, s_dct, isL_d, q_lenD, q_listD, d_int, d_tu, d_pair, enum_en, index_en, mOk_l, od_1, od_2, false_implies, Bool.and_true, and_true, implies_true, forall_const, ite_some, s_lst, x_frz, frz_o, frz_h, frz_s, Option.getD_none, Int.one_mul, forW_en, gd_ff, sz_lt, List.append_nil, List.nil_append, Bool.not_not, t0_en, l0_en]
  exact l_6 hn1 hn5 g hI hC fun m L nu x5 x6 x13 => h _ _ _ _ _ _ _ _
end
theorem law_true : execs (callF (progOf rows) 30) lawB (rho0 lawN 1) (koF (fun d => d = .bool true)) := by
  rw [show rho0 lawN 1 = [none, some .src, none, none, none, none, none, none, none, none, none, none, none, none, none, none, none] from rfl]
  show execs (CG 30) _ _ _
  unfold lawB
  simp only [wbo_var, ar_var, bo_cst, bo_bin, bo_neg, bo_not, bo_and, bo_or, bo_cmp, bo_chain, bo_ife, bo_tup, bo_lst, bo_dnew, bo_idx, bo_slc, bo_rev, bo_call, bo_prim, bo_isi, bo_lc, bo_rg, sh_rt, sh_gd, sh_bd, ar_cst, ar_bin, ar_neg, ar_not, ar_and, ar_or, ar_cmp, ar_chain, ar_ife, ar_tup, ar_lst, ar_dnew, ar_idx, ar_slc, ar_rev, ar_call, ar_prim, ar_isi, ar_lc, ar_rg, e_var, e_cst, e_bin, e_neg, e_not, e_and, e_or, e_cmp, e_chain, e_ife, e_tup, e_lst, e_dnew, e_idx, e_slc, e_rev, e_call, e_prim, e_isi, e_lc, e_rg, wt_and, wt_or, wt_not, wt_e, vs_nil, vs_cons, vs_star, vb_nil, vb_cons, va_nil, va_cons, vo_no, vo_yes, vc_no, vc_yes, vi_val, vi_valf, vi_rng, vi_zip, vi_zipf, getD_0, getD_s, a_v, a_p, Option.bind_some, x_nil, x_cons, x_ite, exec, koF, parW, sets_n, sets_c, rt_ap, bd_ap, gd_ap, ite_ap, bd_rt, rt_bd, bd_bd, bd_gd, gd_gd, gd_true, bd_ite, ite_rt, ite_gd1, ite_gd2, lift_rt, b_and, b_and2, b_or, b_or2, ite_en, look_z, look_s, lookB_z, lookB_o, lookB_s, lookA_z, lookA_c, lookA_s, lookO_o, lookO_s, List.getElem?_cons_zero, List.getElem?_cons_succ, List.set_cons_zero, List.set_cons_succ, Bool.false_eq_true, if_false, if_true, wipeN_n, wipeN_c, free_n, free_c, nOwn_n, nOwn_s, nOwn_c, Bool.true_and, true_and, List.length_cons, List.length_nil, Nat.zero_add, Nat.reduceAdd, Nat.reduceLeDiff, sz, i_en, b_en, l_en, t_en, tl_en, p_en, l1_en, t1_en, snoc_en, app_en, isL_l, c_eq, c_ne, c_inL, c_inT, c_ninL, c_ninT, c_eqE, c_neE, c_eqU, c_neU, c_lt, c_gt, c_le, c_ge, dp_int, dp_bool, dp_unit, dp_list, dp_tu, dp_pair, Nat.max_self, tr_b, tr_i, tr_l, tr_t, o_add, o_sub, o_mul, o_div, o_mod, o_shl, o_shr, o_band, o_neg, o_addL, o_addT, mulB1, i01, x_list, x_tup, x_p0, x_p1, s_list, s_tup, r_list, lt_list, lt_tup, ls_list, q_lenL, q_lenT, q_tupL, q_tupT, q_listL, q_listT, q_all, q_any, q_sum, q_max, q_min, q_int, q_abs, g_rng, toI_en, lcW_en, lcM_all, lcM_if, lcM_gd, List.map_id', List.all_map, List.any_map, Bool.not_true, Bool.not_false, List.length_map, ii_and, ii_or, Option.getD_some, List.isEmpty_map, isEmpty_filterB, Function.comp_def, id_eq, bo_sset, ar_sset, e_sset, sset_en, ssetL_en, bo_meth, bo_disp, ar_meth, ar_disp, e_meth, e_disp, vp_nil, vp_cons, vi_enum, vi_enumf, vi_rng3, x_dct, c_inD, c_ninD, s_dct, isL_d, q_lenD, q_listD, d_int, d_tu, d_pair, enum_en, index_en, mOk_l, od_1, od_2, false_implies, Bool.and_true, and_true, implies_true, forall_const, ite_some, s_lst, x_frz, frz_o, frz_h, frz_s, Option.getD_none, Int.one_mul, forW_en, gd_ff, sz_lt, List.append_nil, List.nil_append, Bool.not_not, t0_en, l0_en]
  refine ⟨rng_ok (n := 3) (by decide), ?_⟩
  refine forL_inv (fun _ ρ => ∃ x2 x3 x4 x5 x6 x7 x8 x9 x10 x11 x12 x13 : Option B, ρ = [none, some .src, x2, x3, x4, x5, x6, x7, x8, x9, x10, x11, x12, x13, none, none, none]) (done := []) ⟨none, none, none, none, none, none, none, none, none, none, none, none, rfl⟩ ?_ ?_
  · rintro done a r ρ e ⟨x2, x3, x4, x5, x6, x7, x8, x9, x10, x11, x12, x13, rfl⟩ K hK
    have hm : a ∈ rgI 0 3 := by rw [show rgI 0 3 = done ++ a :: r from e]; simp
    have hr := mem_rgI.mp hm
    simp only [wbo_var, ar_var, bo_cst, bo_bin, bo_neg, bo_not, bo_and, bo_or, bo_cmp, bo_chain, bo_ife, bo_tup, bo_lst, bo_dnew, bo_idx, bo_slc, bo_rev, bo_call, bo_prim, bo_isi, bo_lc, bo_rg, sh_rt, sh_gd, sh_bd, ar_cst, ar_bin, ar_neg, ar_not, ar_and, ar_or, ar_cmp, ar_chain, ar_ife, ar_tup, ar_lst, ar_dnew, ar_idx, ar_slc, ar_rev, ar_call, ar_prim, ar_isi, ar_lc, ar_rg, e_var, e_cst, e_bin, e_neg, e_not, e_and, e_or, e_cmp, e_chain, e_ife, e_tup, e_lst, e_dnew, e_idx, e_slc, e_rev, e_call, e_prim, e_isi, e_lc, e_rg, wt_and, wt_or, wt_not, wt_e, vs_nil, vs_cons, vs_star, vb_nil, vb_cons, va_nil, va_cons, vo_no, vo_yes, vc_no, vc_yes, vi_val, vi_valf, vi_rng, vi_zip, vi_zipf, getD_0, getD_s, a_v, a_p, Option.bind_some, x_nil, x_cons, x_ite, exec, koF, parW, sets_n, sets_c, rt_ap, bd_ap, gd_ap, ite_ap, bd_rt, rt_bd, bd_bd, bd_gd, gd_gd, gd_true, bd_ite, ite_rt, ite_gd1, ite_gd2, lift_rt, b_and, b_and2, b_or, b_or2, ite_en, look_z, look_s, lookB_z, lookB_o, lookB_s, lookA_z, lookA_c, lookA_s, lookO_o, lookO_s, List.getElem?_cons_zero, List.getElem?_cons_succ, List.set_cons_zero, List.set_cons_succ, Bool.false_eq_true, if_false, if_true, wipeN_n, wipeN_c, free_n, free_c, nOwn_n, nOwn_s, nOwn_c, Bool.true_and, true_and, List.length_cons, List.length_nil, Nat.zero_add, Nat.reduceAdd, Nat.reduceLeDiff, sz, i_en, b_en, l_en, t_en, tl_en, p_en, l1_en, t1_en, snoc_en, app_en, isL_l, c_eq, c_ne, c_inL, c_inT, c_ninL, c_ninT, c_eqE, c_neE, c_eqU, c_neU, c_lt, c_gt, c_le, c_ge, dp_int, dp_bool, dp_unit, dp_list, dp_tu, dp_pair, Nat.max_self, tr_b, tr_i, tr_l, tr_t, o_add, o_sub, o_mul, o_div, o_mod, o_shl, o_shr, o_band, o_neg, o_addL, o_addT, mulB1, i01, x_list, x_tup, x_p0, x_p1, s_list, s_tup, r_list, lt_list, lt_tup, ls_list, q_lenL, q_lenT, q_tupL, q_tupT, q_listL, q_listT, q_all, q_any, q_sum, q_max, q_min, q_int, q_abs, g_rng, toI_en, lcW_en, lcM_all, lcM_if, lcM_gd, List.map_id', List.all_map, List.any_map, Bool.not_true, Bool.not_false, List.length_map, ii_and, ii_or, Option.getD_some, List.isEmpty_map, isEmpty_filterB, Function.comp_def, id_eq, bo_sset, ar_sset, e_sset, sset_en, ssetL_en, bo_meth, bo_disp, ar_meth, ar_disp, e_meth, e_disp, vp_nil, vp_cons, vi_enum, vi_enumf, vi_rng3, x_dct, c_inD, c_ninD, s_dct, isL_d, q_lenD, q_listD, d_int, d_tu, d_pair, enum_en, index_en, mOk_l, od_1, od_2, false_implies, Bool.and_true, and_true, implies_true, forall_const, ite_some, s_lst, x_frz, frz_o, frz_h, frz_s, Option.getD_none, Int.one_mul, forW_en, gd_ff, sz_lt, List.append_nil, List.nil_append, Bool.not_not, t0_en, l0_en]
    exact l_7 (k := 24) hr.1 hr.2 fun n ps m L nu x5 x6 x13 => hK _ ⟨_, _, _, _, _, _, _, _, _, _, _, _, rfl⟩
  · rintro ρ ⟨x2, x3, x4, x5, x6, x7, x8, x9, x10, x11, x12, x13, rfl⟩
    trivial
end PD
/-! K59l: the law (K59k) -/
set_option maxHeartbeats 4000000
/-! K59c: the law's proof put together. -/
namespace PD
open PySem L2 PySem.Spec PyProof.Rows
theorem bd0 : BdOk "is_not_behind" (topS 1) (["order", "a", "b"]) := fun _ _ _ _ _ _ us hl => match us, hl with | [_, _, _], _ => rfl
theorem bd1 : BdOk "above" (topS 2) (["order", "lot"]) := fun _ _ _ _ _ _ us hl => match us, hl with | [_, _], _ => rfl
theorem bd2 : BdOk "under" (topS 3) (["order", "lot"]) := fun _ _ _ _ _ _ us hl => match us, hl with | [_, _], _ => rfl
theorem bd3 : BdOk "home" (topS 4) (["order", "work"]) := fun _ _ _ _ _ _ us hl => match us, hl with | [_, _], _ => rfl
theorem bd4 : BdOk "cuts" (topS 5) (["order"]) := fun _ _ _ _ _ _ us hl => match us, hl with | [_], _ => rfl
theorem bd5 : BdOk "round_lattice" (topS 7) (["order"]) := fun _ _ _ _ _ _ us hl => match us, hl with | [_], _ => rfl
theorem bd6 : BdOk "meet_of" (topS 8) (["order", "lot"]) := fun _ _ _ _ _ _ us hl => match us, hl with | [_, _], _ => rfl
theorem bd7 : BdOk "join_of" (topS 9) (["order", "lot"]) := fun _ _ _ _ _ _ us hl => match us, hl with | [_, _], _ => rfl
theorem bd8 : BdOk "is_lattice" (topS 10) (["order"]) := fun _ _ _ _ _ _ us hl => match us, hl with | [_], _ => rfl
theorem bd9 : BdOk "stands_in" (topS 11) (["order", "lattice", "places"]) := fun _ _ _ _ _ _ us hl => match us, hl with | [_, _, _], _ => rfl
theorem bd10 : BdOk "led_cuts" (topS 12) (["order", "lattice", "places"]) := fun _ _ _ _ _ _ us hl => match us, hl with | [_, _, _], _ => rfl
theorem bd11 : BdOk "_law_pick" (topS 15) (["source", "most"]) := fun _ _ _ _ _ _ us hl => match us, hl with | [_, _], _ => rfl
theorem bd12 : BdOk "_law_any_order" (topS 16) (["source", "things"]) := fun _ _ _ _ _ _ us hl => match us, hl with | [_, _], _ => rfl
theorem bd13 : BdOk "_law_closed" (topS 17) (["n", "told"]) := fun _ _ _ _ _ _ us hl => match us, hl with | [_, _], _ => rfl
theorem bd14 : BdOk "_law_draw_order" (topS 18) (["source", "most"]) := fun _ _ _ _ _ _ us hl => match us, hl with | [_, _], _ => rfl
theorem bd15 : BdOk "_law_leq" (topS 19) (["order", "a", "b"]) := fun _ _ _ _ _ _ us hl => match us, hl with | [_, _, _], _ => rfl
theorem bd16 : BdOk "_law_above" (topS 20) (["order", "lot"]) := fun _ _ _ _ _ _ us hl => match us, hl with | [_, _], _ => rfl
theorem bd17 : BdOk "_law_under" (topS 21) (["order", "lot"]) := fun _ _ _ _ _ _ us hl => match us, hl with | [_, _], _ => rfl
theorem bd18 : BdOk "_law_shut" (topS 22) (["order", "lot"]) := fun _ _ _ _ _ _ us hl => match us, hl with | [_, _], _ => rfl
theorem bd19 : BdOk "_law_all_lots" (topS 23) (["n"]) := fun _ _ _ _ _ _ us hl => match us, hl with | [_], _ => rfl
theorem bd20 : BdOk "_law_cuts" (topS 24) (["order"]) := fun _ _ _ _ _ _ us hl => match us, hl with | [_], _ => rfl
theorem bd21 : BdOk "_law_down_lots" (topS 25) (["order"]) := fun _ _ _ _ _ _ us hl => match us, hl with | [_], _ => rfl
theorem bd22 : BdOk "_law_within" (topS 26) (["some"]) := fun _ _ _ _ _ _ us hl => match us, hl with | [_], _ => rfl
theorem bd23 : BdOk "_law_join" (topS 27) (["lattice", "lot"]) := fun _ _ _ _ _ _ us hl => match us, hl with | [_, _], _ => rfl
theorem bd24 : BdOk "_law_stands" (topS 28) (["order", "lattice", "places"]) := fun _ _ _ _ _ _ us hl => match us, hl with | [_, _, _], _ => rfl
theorem bd25 : BdOk "_law_round" (topS 29) (["source", "order"]) := fun _ _ _ _ _ _ us hl => match us, hl with | [_, _], _ => rfl
theorem bdS : BdOk "_law_open_cells" (topS 14) (["script"]) := fun _ _ _ _ _ _ us hl => match us, hl with | [_], _ => rfl
theorem bdL : BdOk "law" (topS 30) (["script"]) := fun _ _ _ _ _ _ us hl => match us, hl with | [_], _ => rfl
theorem bds : ∀ r ∈ rows, BdOk r.nm r.st r.ps := by
  intro r hr
  simp only [rows, List.mem_cons, List.not_mem_nil, or_false] at hr
  rcases hr with rfl | rfl | rfl | rfl | rfl | rfl | rfl | rfl | rfl | rfl | rfl | rfl | rfl | rfl | rfl | rfl | rfl | rfl | rfl | rfl | rfl | rfl | rfl | rfl | rfl | rfl
  · exact bd0
  · exact bd1
  · exact bd2
  · exact bd3
  · exact bd4
  · exact bd5
  · exact bd6
  · exact bd7
  · exact bd8
  · exact bd9
  · exact bd10
  · exact bd11
  · exact bd12
  · exact bd13
  · exact bd14
  · exact bd15
  · exact bd16
  · exact bd17
  · exact bd18
  · exact bd19
  · exact bd20
  · exact bd21
  · exact bd22
  · exact bd23
  · exact bd24
  · exact bd25
theorem rws {K : PySem.W.Frag} (L0 : Lk K "is_not_behind" (topS 1)) (L1 : Lk K "above" (topS 2)) (L2 : Lk K "under" (topS 3)) (L3 : Lk K "home" (topS 4)) (L4 : Lk K "cuts" (topS 5)) (L5 : Lk K "round_lattice" (topS 7)) (L6 : Lk K "meet_of" (topS 8)) (L7 : Lk K "join_of" (topS 9)) (L8 : Lk K "is_lattice" (topS 10)) (L9 : Lk K "stands_in" (topS 11)) (L10 : Lk K "led_cuts" (topS 12)) (L11 : Lk K "_law_pick" (topS 15)) (L12 : Lk K "_law_any_order" (topS 16)) (L13 : Lk K "_law_closed" (topS 17)) (L14 : Lk K "_law_draw_order" (topS 18)) (L15 : Lk K "_law_leq" (topS 19)) (L16 : Lk K "_law_above" (topS 20)) (L17 : Lk K "_law_under" (topS 21)) (L18 : Lk K "_law_shut" (topS 22)) (L19 : Lk K "_law_all_lots" (topS 23)) (L20 : Lk K "_law_cuts" (topS 24)) (L21 : Lk K "_law_down_lots" (topS 25)) (L22 : Lk K "_law_within" (topS 26)) (L23 : Lk K "_law_join" (topS 27)) (L24 : Lk K "_law_stands" (topS 28)) (L25 : Lk K "_law_round" (topS 29)) : Rws K rows := by
  intro r hr
  simp only [rows, List.mem_cons, List.not_mem_nil, or_false] at hr
  rcases hr with rfl | rfl | rfl | rfl | rfl | rfl | rfl | rfl | rfl | rfl | rfl | rfl | rfl | rfl | rfl | rfl | rfl | rfl | rfl | rfl | rfl | rfl | rfl | rfl | rfl | rfl
  · exact L0
  · exact L1
  · exact L2
  · exact L3
  · exact L4
  · exact L5
  · exact L6
  · exact L7
  · exact L8
  · exact L9
  · exact L10
  · exact L11
  · exact L12
  · exact L13
  · exact L14
  · exact L15
  · exact L16
  · exact L17
  · exact L18
  · exact L19
  · exact L20
  · exact L21
  · exact L22
  · exact L23
  · exact L24
  · exact L25
theorem zs_mk {K : PySem.W.Frag} {h : Heap} {mg : Str → Option Value} (X : K.In h) (G : h.Ns mainGlobals mg) (z0 : PySem.W.nsIn K mainGlobals "len" = some none) (z1 : PySem.W.nsIn K mainGlobals "tuple" = some none) (z2 : PySem.W.nsIn K mainGlobals "list" = some none) (z3 : PySem.W.nsIn K mainGlobals "sorted" = some none) (z4 : PySem.W.nsIn K mainGlobals "sum" = some none) (z5 : PySem.W.nsIn K mainGlobals "max" = some none) (z6 : PySem.W.nsIn K mainGlobals "min" = some none) (z7 : PySem.W.nsIn K mainGlobals "abs" = some none) (z8 : PySem.W.nsIn K mainGlobals "all" = some none) (z9 : PySem.W.nsIn K mainGlobals "any" = some none) (z10 : PySem.W.nsIn K mainGlobals "int" = some none) (z11 : PySem.W.nsIn K mainGlobals "repr" = some none) (z12 : PySem.W.nsIn K mainGlobals "range" = some none) (z13 : PySem.W.nsIn K mainGlobals "isinstance" = some none) (z14 : PySem.W.nsIn K mainGlobals "dict" = some none) (z15 : PySem.W.nsIn K mainGlobals "zip" = some none) (z16 : PySem.W.nsIn K mainGlobals "enumerate" = some none) (z17 : PySem.W.nsIn K mainGlobals "reversed" = some none) (z18 : PySem.W.nsIn K mainGlobals "str" = some none) (z19 : PySem.W.nsIn K mainGlobals "set" = some none) (z20 : PySem.W.nsIn K mainGlobals "bool" = some none) : ∀ x ∈ bltNames, mg x = none := by
  intro x hx
  simp only [bltNames, List.mem_cons, List.not_mem_nil, or_false] at hx
  rcases hx with rfl | rfl | rfl | rfl | rfl | rfl | rfl | rfl | rfl | rfl | rfl | rfl | rfl | rfl | rfl | rfl | rfl | rfl | rfl | rfl | rfl
  · exact PySem.W.mg_none_of X G z0
  · exact PySem.W.mg_none_of X G z1
  · exact PySem.W.mg_none_of X G z2
  · exact PySem.W.mg_none_of X G z3
  · exact PySem.W.mg_none_of X G z4
  · exact PySem.W.mg_none_of X G z5
  · exact PySem.W.mg_none_of X G z6
  · exact PySem.W.mg_none_of X G z7
  · exact PySem.W.mg_none_of X G z8
  · exact PySem.W.mg_none_of X G z9
  · exact PySem.W.mg_none_of X G z10
  · exact PySem.W.mg_none_of X G z11
  · exact PySem.W.mg_none_of X G z12
  · exact PySem.W.mg_none_of X G z13
  · exact PySem.W.mg_none_of X G z14
  · exact PySem.W.mg_none_of X G z15
  · exact PySem.W.mg_none_of X G z16
  · exact PySem.W.mg_none_of X G z17
  · exact PySem.W.mg_none_of X G z18
  · exact PySem.W.mg_none_of X G z19
  · exact PySem.W.mg_none_of X G z20
theorem all_mk {P : Program} {w : World} {K : PySem.W.Frag} {h : Heap} {mg : Str → Option Value} {fa : Addr} (X : K.In h) (G : h.Ns mainGlobals mg) (hfa : mg "law" = some (.ref fa)) (R : Rws K rows) (LS : Lk K "_law_open_cells" (topS 14)) (LL : Lk K "law" (topS 30)) (hb : ∀ x ∈ bltNames, mg x = none) :
    ∃ fd : FuncData, (∀ (s : Shared) (v : Value), BindsTo s fd ⟨[v], []⟩ [("script", v)]) ∧ ∀ base : Heap, TopH K mg base → FnG P w K mg base 31 fa fd ["script"] (spLaw K) := by
  obtain ⟨fL, fdL, FL, gL, bL⟩ := LL.fn X G bdL
  obtain ⟨fS, fdS, FS, gS, bS⟩ := LS.fn X G bdS
  have e : fa = fL := by rw [hfa] at gL; cases gL; rfl
  subst e
  have laid := laid_of X G R bds
  have hx : ∀ (base : Heap) (sm : ∃ o, base.get? sysModules = some o) (f k : Nat) (r : Row) (np : Nat) (sem : List B → W D), rows[f]? = some r → r.fn = .ext np sem → Kept P w K mg base rows k → ∀ a fd, Fun K r.nm r.nm r.st a fd → mg r.nm = some (.ref a) → FnG P w K mg base (k + 1) a fd r.ps (spC (callF (progOf rows) (k + 1)) f) := by
    intro base sm f k r np sem hf he hk a fd F hm
    have hC : ∀ bs Q, callF (progOf rows) (k + 1) f bs Q → 1 ≤ k ∧ bs.length = np ∧ sem bs Q := by
      intro bs Q c
      have hp : (progOf rows)[f]? = some (.ext np sem) := by unfold progOf; rw [List.getElem?_map, hf]; simp [he]
      unfold callF at c
      simp only [hp] at c
      exact ⟨c.2.1, c.1, c.2.2⟩
    have len : ∀ (vs : List V) (H : Hp) (Q : VK) (E : XK), spC (callF (progOf rows) (k + 1)) f vs H Q E → vs.length = np := fun vs H Q E ⟨S, Z, bs, Q0, _, _, _, h4, h5, _⟩ => by
      rw [h4.length]; exact (hC _ _ h5).2.1
    have hmem : f < rows.length := by
      rcases Nat.lt_or_ge f rows.length with q | q
      · exact q
      · rw [List.getElem?_eq_none q] at hf; cases hf
    match f, hmem with
    | 0, _ => have e : r = r0 := (Option.some.inj hf).symm; subst e; cases he
    | 1, _ => have e : r = r1 := (Option.some.inj hf).symm; subst e; cases he
    | 2, _ => have e : r = r2 := (Option.some.inj hf).symm; subst e; cases he
    | 3, _ => have e : r = r3 := (Option.some.inj hf).symm; subst e; cases he
    | 4, _ => have e : r = r4 := (Option.some.inj hf).symm; subst e; cases he
    | 5, _ => have e : r = r5 := (Option.some.inj hf).symm; subst e; cases he
    | 6, _ => have e : r = r6 := (Option.some.inj hf).symm; subst e; cases he
    | 7, _ => have e : r = r7 := (Option.some.inj hf).symm; subst e; cases he
    | 8, _ => have e : r = r8 := (Option.some.inj hf).symm; subst e; cases he
    | 9, _ => have e : r = r9 := (Option.some.inj hf).symm; subst e; cases he
    | 10, _ => have e : r = r10 := (Option.some.inj hf).symm; subst e; cases he
    | 11, _ =>
      have e : r = r11 := (Option.some.inj hf).symm
      subst e
      cases he
      exact pick_fn F hb len hC
    | 12, _ =>
      have e : r = r12 := (Option.some.inj hf).symm
      subst e
      cases he
      exact mixed_fn laid F hb len hC
    | 13, _ => have e : r = r13 := (Option.some.inj hf).symm; subst e; cases he
    | 14, _ => have e : r = r14 := (Option.some.inj hf).symm; subst e; cases he
    | 15, _ => have e : r = r15 := (Option.some.inj hf).symm; subst e; cases he
    | 16, _ => have e : r = r16 := (Option.some.inj hf).symm; subst e; cases he
    | 17, _ => have e : r = r17 := (Option.some.inj hf).symm; subst e; cases he
    | 18, _ => have e : r = r18 := (Option.some.inj hf).symm; subst e; cases he
    | 19, _ => have e : r = r19 := (Option.some.inj hf).symm; subst e; cases he
    | 20, _ => have e : r = r20 := (Option.some.inj hf).symm; subst e; cases he
    | 21, _ => have e : r = r21 := (Option.some.inj hf).symm; subst e; cases he
    | 22, _ => have e : r = r22 := (Option.some.inj hf).symm; subst e; cases he
    | 23, _ => have e : r = r23 := (Option.some.inj hf).symm; subst e; cases he
    | 24, _ => have e : r = r24 := (Option.some.inj hf).symm; subst e; cases he
    | 25, _ => have e : r = r25 := (Option.some.inj hf).symm; subst e; cases he
  refine ⟨fdL, ?_, fun base T => ?_⟩
  · intro s v
    obtain ⟨oc, od, kV, doc, pm, an, cdv, ct, osl, e, _⟩ := FL.ex
    subst e
    exact .of_eq rfl
  · have kept := all_kept (P := P) (w := w) laid rows_ok T.smod hb (hx base T.smod)
    have lk := law_ok
    rw [Bool.and_eq_true] at lk
    exact law_fn FL lk.1 rfl lk.2 rfl rfl (by decide +kernel) (by decide +kernel) (by decide +kernel) (by decide +kernel) FS bS gS (ok_source FS hb) T.smod hb (kept 30) law_true
end PD
open PySem PySem.W PyProof.Rows
set_option maxHeartbeats 0 in
theorem PySem.Challenge.cw_eachorder_k59_whole_least_lattice_round_holds : PySem.Challenge.rw_eachorder_k59_whole_least_lattice_round.Holds := by
  w_on; o_law; k_head; (case hw => w_witness2)
  k_fill
  refine PD.walkG (l := PySem.Challenge.rw_eachorder_k59_whole_least_lattice_round) (n := 63) (k := 31) (x := "script") rfl (by decide) rfl ⟨rfl, by decide, by decide⟩ (by decide +kernel) (fun w h Y => PySem.W.kIn_of Y) ?F
  case F =>
    intro w mg fa h KX G hmg
    have hL0 : PD.Lk (_root_.L2.KOf KX) "is_not_behind" (PD.topS 1) := by refine' PD.lk_mk KX ?a ?l ?c ?k; (case a => k_is); (case l => k_is); (case c => k_is); (case k => k_is)
    have hL1 : PD.Lk (_root_.L2.KOf KX) "above" (PD.topS 2) := by refine' PD.lk_mk KX ?a ?l ?c ?k; (case a => k_is); (case l => k_is); (case c => k_is); (case k => k_is)
    have hL2 : PD.Lk (_root_.L2.KOf KX) "under" (PD.topS 3) := by refine' PD.lk_mk KX ?a ?l ?c ?k; (case a => k_is); (case l => k_is); (case c => k_is); (case k => k_is)
    have hL3 : PD.Lk (_root_.L2.KOf KX) "home" (PD.topS 4) := by refine' PD.lk_mk KX ?a ?l ?c ?k; (case a => k_is); (case l => k_is); (case c => k_is); (case k => k_is)
    have hL4 : PD.Lk (_root_.L2.KOf KX) "cuts" (PD.topS 5) := by refine' PD.lk_mk KX ?a ?l ?c ?k; (case a => k_is); (case l => k_is); (case c => k_is); (case k => k_is)
    have hL5 : PD.Lk (_root_.L2.KOf KX) "round_lattice" (PD.topS 7) := by refine' PD.lk_mk KX ?a ?l ?c ?k; (case a => k_is); (case l => k_is); (case c => k_is); (case k => k_is)
    have hL6 : PD.Lk (_root_.L2.KOf KX) "meet_of" (PD.topS 8) := by refine' PD.lk_mk KX ?a ?l ?c ?k; (case a => k_is); (case l => k_is); (case c => k_is); (case k => k_is)
    have hL7 : PD.Lk (_root_.L2.KOf KX) "join_of" (PD.topS 9) := by refine' PD.lk_mk KX ?a ?l ?c ?k; (case a => k_is); (case l => k_is); (case c => k_is); (case k => k_is)
    have hL8 : PD.Lk (_root_.L2.KOf KX) "is_lattice" (PD.topS 10) := by refine' PD.lk_mk KX ?a ?l ?c ?k; (case a => k_is); (case l => k_is); (case c => k_is); (case k => k_is)
    have hL9 : PD.Lk (_root_.L2.KOf KX) "stands_in" (PD.topS 11) := by refine' PD.lk_mk KX ?a ?l ?c ?k; (case a => k_is); (case l => k_is); (case c => k_is); (case k => k_is)
    have hL10 : PD.Lk (_root_.L2.KOf KX) "led_cuts" (PD.topS 12) := by refine' PD.lk_mk KX ?a ?l ?c ?k; (case a => k_is); (case l => k_is); (case c => k_is); (case k => k_is)
    have hL11 : PD.Lk (_root_.L2.KOf KX) "_law_pick" (PD.topS 15) := by refine' PD.lk_mk KX ?a ?l ?c ?k; (case a => k_is); (case l => k_is); (case c => k_is); (case k => k_is)
    have hL12 : PD.Lk (_root_.L2.KOf KX) "_law_any_order" (PD.topS 16) := by refine' PD.lk_mk KX ?a ?l ?c ?k; (case a => k_is); (case l => k_is); (case c => k_is); (case k => k_is)
    have hL13 : PD.Lk (_root_.L2.KOf KX) "_law_closed" (PD.topS 17) := by refine' PD.lk_mk KX ?a ?l ?c ?k; (case a => k_is); (case l => k_is); (case c => k_is); (case k => k_is)
    have hL14 : PD.Lk (_root_.L2.KOf KX) "_law_draw_order" (PD.topS 18) := by refine' PD.lk_mk KX ?a ?l ?c ?k; (case a => k_is); (case l => k_is); (case c => k_is); (case k => k_is)
    have hL15 : PD.Lk (_root_.L2.KOf KX) "_law_leq" (PD.topS 19) := by refine' PD.lk_mk KX ?a ?l ?c ?k; (case a => k_is); (case l => k_is); (case c => k_is); (case k => k_is)
    have hL16 : PD.Lk (_root_.L2.KOf KX) "_law_above" (PD.topS 20) := by refine' PD.lk_mk KX ?a ?l ?c ?k; (case a => k_is); (case l => k_is); (case c => k_is); (case k => k_is)
    have hL17 : PD.Lk (_root_.L2.KOf KX) "_law_under" (PD.topS 21) := by refine' PD.lk_mk KX ?a ?l ?c ?k; (case a => k_is); (case l => k_is); (case c => k_is); (case k => k_is)
    have hL18 : PD.Lk (_root_.L2.KOf KX) "_law_shut" (PD.topS 22) := by refine' PD.lk_mk KX ?a ?l ?c ?k; (case a => k_is); (case l => k_is); (case c => k_is); (case k => k_is)
    have hL19 : PD.Lk (_root_.L2.KOf KX) "_law_all_lots" (PD.topS 23) := by refine' PD.lk_mk KX ?a ?l ?c ?k; (case a => k_is); (case l => k_is); (case c => k_is); (case k => k_is)
    have hL20 : PD.Lk (_root_.L2.KOf KX) "_law_cuts" (PD.topS 24) := by refine' PD.lk_mk KX ?a ?l ?c ?k; (case a => k_is); (case l => k_is); (case c => k_is); (case k => k_is)
    have hL21 : PD.Lk (_root_.L2.KOf KX) "_law_down_lots" (PD.topS 25) := by refine' PD.lk_mk KX ?a ?l ?c ?k; (case a => k_is); (case l => k_is); (case c => k_is); (case k => k_is)
    have hL22 : PD.Lk (_root_.L2.KOf KX) "_law_within" (PD.topS 26) := by refine' PD.lk_mk KX ?a ?l ?c ?k; (case a => k_is); (case l => k_is); (case c => k_is); (case k => k_is)
    have hL23 : PD.Lk (_root_.L2.KOf KX) "_law_join" (PD.topS 27) := by refine' PD.lk_mk KX ?a ?l ?c ?k; (case a => k_is); (case l => k_is); (case c => k_is); (case k => k_is)
    have hL24 : PD.Lk (_root_.L2.KOf KX) "_law_stands" (PD.topS 28) := by refine' PD.lk_mk KX ?a ?l ?c ?k; (case a => k_is); (case l => k_is); (case c => k_is); (case k => k_is)
    have hL25 : PD.Lk (_root_.L2.KOf KX) "_law_round" (PD.topS 29) := by refine' PD.lk_mk KX ?a ?l ?c ?k; (case a => k_is); (case l => k_is); (case c => k_is); (case k => k_is)
    have hLS : PD.Lk (_root_.L2.KOf KX) "_law_open_cells" (PD.topS 14) := by refine' PD.lk_mk KX ?a ?l ?c ?k; (case a => k_is); (case l => k_is); (case c => k_is); (case k => k_is)
    have hLL : PD.Lk (_root_.L2.KOf KX) "law" (PD.topS 30) := by refine' PD.lk_mk KX ?a ?l ?c ?k; (case a => k_is); (case l => k_is); (case c => k_is); (case k => k_is)
    refine PD.all_mk KX G hmg (PD.rws hL0 hL1 hL2 hL3 hL4 hL5 hL6 hL7 hL8 hL9 hL10 hL11 hL12 hL13 hL14 hL15 hL16 hL17 hL18 hL19 hL20 hL21 hL22 hL23 hL24 hL25) hLS hLL ?Z
    refine' PD.zs_mk KX G ?z0 ?z1 ?z2 ?z3 ?z4 ?z5 ?z6 ?z7 ?z8 ?z9 ?z10 ?z11 ?z12 ?z13 ?z14 ?z15 ?z16 ?z17 ?z18 ?z19 ?z20
    all_goals k_is
