import PyProof.Rows.All
import Wide.All
import OpenK.AllK
import Wide.FinOn
import HandS.ForMost
import HandS.Flow
import HandS.Star
import HandS.Deep
import HandS.Conv
import HandS.More
import KE.DataCmp
import KE.SortData
import HandS.TupAny
import HandS.Wide
import PyProof.P3In
import HandS.Style
import HandS.TupLen
import KE.KDictPairs
import HandS.NoneIn
import HandS.Zip
import HandS.IsInst
import HandS.EndBits
import HandS.WordsDict
import PyProof.ReprBulk
import PyProof.FitsInt
import PySem.Challenge.RW_eachorder_k49_jumps_runs_greedy_lists
set_option Elab.async false
set_option linter.all false
set_option maxRecDepth 100000
/-! PDa: data behind values (Rp), what stays, slots. -/
namespace PD
open PySem L2

abbrev D := PyData
abbrev Zn := Addr → Prop

def keyD : Key → D
  | .inl i => .int i
  | .inr x => .str x
def tkeyD (ks : List Key) : D := .tuple (ks.map keyD)

mutual
/-- v is the datum d; no list or dict of it stands at a place of N -/
inductive Rp (N : Zn) (H : Hp) : V → D → Prop
  | non : Rp N H .non .none
  | bl (b : Bool) : Rp N H (.bl b) (.bool b)
  | int (i : Int) : Rp N H (.int i) (.int i)
  | str (x : Str) : Rp N H (.str x) (.str x)
  | lst {a xs ds} : ¬ N a → H a = some (.lst xs) → RpAll N H xs ds → Rp N H (.ref a) (.list ds)
  | tup {a xs ds} : H a = some (.tup xs) → RpAll N H xs ds → Rp N H (.ref a) (.tuple ds)
  | dK {a kvs ds} : ¬ N a → H a = some (.dK kvs) → RpAll N H (kvs.map (·.2)) ds → Rp N H (.ref a) (.dict ((kvs.map (fun p => keyD p.1)).zip ds))
  | dT {a kvs ds} : ¬ N a → kvs ≠ [] → H a = some (.dT kvs) → RpAll N H (kvs.map (·.2)) ds → Rp N H (.ref a) (.dict ((kvs.map (fun p => tkeyD p.1)).zip ds))
inductive RpAll (N : Zn) (H : Hp) : List V → List D → Prop
  | nil : RpAll N H [] []
  | cons {v vs d ds} : Rp N H v d → RpAll N H vs ds → RpAll N H (v :: vs) (d :: ds)
end

/-- the top may stand anywhere, what is within not in N -/
inductive RpB (N : Zn) (H : Hp) : V → D → Prop
  | of {v d} : Rp N H v d → RpB N H v d
  | lst {a xs ds} : H a = some (.lst xs) → RpAll N H xs ds → RpB N H (.ref a) (.list ds)
  | dK {a kvs ds} : H a = some (.dK kvs) → RpAll N H (kvs.map (·.2)) ds → RpB N H (.ref a) (.dict ((kvs.map (fun p => keyD p.1)).zip ds))
  | dT {a kvs ds} : kvs ≠ [] → H a = some (.dT kvs) → RpAll N H (kvs.map (·.2)) ds → RpB N H (.ref a) (.dict ((kvs.map (fun p => tkeyD p.1)).zip ds))

/-- what is not in N (nor any tuple) stays -/
def Ext (N : Zn) (H H' : Hp) : Prop := ∀ a o, H a = some o → ¬ N a → H' a = some o
theorem Ext.refl {N : Zn} {H : Hp} : Ext N H H := fun _ _ e _ => e
theorem Ext.trans {N : Zn} {H H1 H2 : Hp} (a : Ext N H H1) (b : Ext N H1 H2) : Ext N H H2 := fun c o e n => b c o (a c o e n) n
theorem Ext.new {N : Zn} {H : Hp} {p : Addr} {o : HO} (h : H p = none) : Ext N H (upd H p o) := fun a u e _ => by
  rw [upd_ne (ne_of_none e h)]; exact e
theorem Ext.mono {N N' : Zn} {H H' : Hp} (e : Ext N H H') (h : ∀ a, N a → N' a) : Ext N' H H' := fun a o q n => e a o q fun z => n (h a z)

abbrev No : Zn := fun _ => False

/-- no tuple, no thing that is read only, stands in N -/
structure Fit (N : Zn) (H : Hp) : Prop where
  dom : ∀ a, N a → ∃ o, H a = some o ∧ Mut (some o)

theorem Fit.ne {N : Zn} {H : Hp} (f : Fit N H) {p : Addr} (h : H p = none) : ¬ N p := fun z => by
  obtain ⟨o, e, _⟩ := f.dom p z
  rw [h] at e; cases e

section
variable {N N' : Zn} {H H' : Hp}
theorem tup_ext {a : Addr} {xs : List V} (e : Ext N H H') (f : Fit N H) (h : H a = some (.tup xs)) : H' a = some (.tup xs) := by
  refine e _ _ h fun z => ?_
  obtain ⟨o, q, m⟩ := f.dom a z
  rw [h] at q; cases q; exact m
mutual
theorem Rp.ext (e : Ext N H H') (f : Fit N H) : ∀ {v : V} {d : D}, Rp N H v d → Rp N H' v d
  | _, _, .non => .non
  | _, _, .bl b => .bl b
  | _, _, .int i => .int i
  | _, _, .str x => .str x
  | _, _, .lst n h r => .lst n (e _ _ h n) (RpAll.ext e f r)
  | _, _, .tup h r => .tup (tup_ext e f h) (RpAll.ext e f r)
  | _, _, .dK n h r => .dK n (e _ _ h n) (RpAll.ext e f r)
  | _, _, .dT n z h r => .dT n z (e _ _ h n) (RpAll.ext e f r)
theorem RpAll.ext (e : Ext N H H') (f : Fit N H) : ∀ {vs : List V} {ds : List D}, RpAll N H vs ds → RpAll N H' vs ds
  | _, _, .nil => .nil
  | _, _, .cons r rs => .cons (Rp.ext e f r) (RpAll.ext e f rs)
end
mutual
theorem Rp.less (h : ∀ a, N' a → N a) : ∀ {v : V} {d : D}, Rp N H v d → Rp N' H v d
  | _, _, .non => .non
  | _, _, .bl b => .bl b
  | _, _, .int i => .int i
  | _, _, .str x => .str x
  | _, _, .lst n q r => .lst (fun z => n (h _ z)) q (RpAll.less h r)
  | _, _, .tup q r => .tup q (RpAll.less h r)
  | _, _, .dK n q r => .dK (fun z => n (h _ z)) q (RpAll.less h r)
  | _, _, .dT n z q r => .dT (fun z => n (h _ z)) z q (RpAll.less h r)
theorem RpAll.less (h : ∀ a, N' a → N a) : ∀ {vs : List V} {ds : List D}, RpAll N H vs ds → RpAll N' H vs ds
  | _, _, .nil => .nil
  | _, _, .cons r rs => .cons (Rp.less h r) (RpAll.less h rs)
end
theorem RpAll.length : ∀ {vs : List V} {ds : List D}, RpAll N H vs ds → vs.length = ds.length
  | _, _, .nil => rfl
  | _, _, .cons _ r => by simp [RpAll.length r]
theorem RpAll.append : ∀ {vs ws : List V} {ds es : List D}, RpAll N H vs ds → RpAll N H ws es → RpAll N H (vs ++ ws) (ds ++ es)
  | _, _, _, _, .nil, s => s
  | _, _, _, _, .cons r t, s => .cons r (RpAll.append t s)
theorem RpAll.get : ∀ {vs : List V} {ds : List D} {i : Nat} {v : V}, RpAll N H vs ds → vs[i]? = some v → ∃ d, ds[i]? = some d ∧ Rp N H v d
  | _, _, _, _, .nil, e => by simp at e
  | _, _, 0, _, .cons r _, e => by simp at e; subst e; exact ⟨_, rfl, r⟩
  | _, _, i + 1, _, .cons _ t, e => by
    obtain ⟨d, h1, h2⟩ := RpAll.get (i := i) t (by simpa using e)
    exact ⟨d, by simpa using h1, h2⟩
theorem RpAll.get' : ∀ {vs : List V} {ds : List D} {i : Nat} {d : D}, RpAll N H vs ds → ds[i]? = some d → ∃ v, vs[i]? = some v ∧ Rp N H v d
  | _, _, _, _, .nil, e => by simp at e
  | _, _, 0, _, .cons r _, e => by simp at e; subst e; exact ⟨_, rfl, r⟩
  | _, _, i + 1, _, .cons _ t, e => by
    obtain ⟨d, h1, h2⟩ := RpAll.get' (i := i) t (by simpa using e)
    exact ⟨d, by simpa using h1, h2⟩
theorem RpAll.set : ∀ {vs : List V} {ds : List D} {v : V} {d : D} (i : Nat), RpAll N H vs ds → Rp N H v d → RpAll N H (vs.set i v) (ds.set i d)
  | _, _, _, _, _, .nil, _ => .nil
  | _, _, _, _, 0, .cons _ t, r => .cons r t
  | _, _, _, _, i + 1, .cons q t, r => .cons q (RpAll.set i t r)
theorem RpAll.take : ∀ {vs : List V} {ds : List D} (n : Nat), RpAll N H vs ds → RpAll N H (vs.take n) (ds.take n)
  | _, _, 0, _ => .nil
  | _, _, _ + 1, .nil => .nil
  | _, _, n + 1, .cons r t => .cons r (RpAll.take n t)
theorem RpAll.drop : ∀ {vs : List V} {ds : List D} (n : Nat), RpAll N H vs ds → RpAll N H (vs.drop n) (ds.drop n)
  | _, _, 0, r => r
  | _, _, _ + 1, .nil => .nil
  | _, _, n + 1, .cons _ t => RpAll.drop n t
theorem RpAll.reverse {vs : List V} {ds : List D} (h : RpAll N H vs ds) : RpAll N H vs.reverse ds.reverse := by
  induction vs generalizing ds with
  | nil => cases h; exact .nil
  | cons v vs ih =>
    cases h with
    | cons r t =>
      rw [List.reverse_cons, List.reverse_cons]
      exact (ih t).append (.cons r .nil)
theorem RpAll.eraseIdx : ∀ {vs : List V} {ds : List D} (i : Nat), RpAll N H vs ds → RpAll N H (vs.eraseIdx i) (ds.eraseIdx i)
  | _, _, _, .nil => .nil
  | _, _, 0, .cons _ t => t
  | _, _, i + 1, .cons q t => .cons q (RpAll.eraseIdx i t)
theorem RpAll.dropLast {vs : List V} {ds : List D} (h : RpAll N H vs ds) : RpAll N H vs.dropLast ds.dropLast := by
  rw [List.dropLast_eq_take, List.dropLast_eq_take, h.length]; exact h.take _
theorem RpAll.flatRep {vs : List V} {ds : List D} (h : RpAll N H vs ds) : ∀ k : Nat, RpAll N H (List.replicate k vs).flatten (List.replicate k ds).flatten
  | 0 => .nil
  | k + 1 => by rw [List.replicate_succ, List.replicate_succ, List.flatten_cons, List.flatten_cons]; exact h.append (RpAll.flatRep h k)
theorem RpAll.ints : ∀ {vs : List V} {ns : List Int}, RpAll N H vs (ns.map PyData.int) → vs = ns.map V.int
  | _, [], .nil => rfl
  | _, n :: ns, .cons r t => by cases r; rw [RpAll.ints t]; rfl
theorem RpAll.ofInts : ∀ (ns : List Int), RpAll N H (ns.map V.int) (ns.map PyData.int)
  | [] => .nil
  | n :: ns => .cons (.int n) (RpAll.ofInts ns)
theorem RpAll.bools : ∀ {vs : List V} {ns : List Bool}, RpAll N H vs (ns.map PyData.bool) → vs = ns.map V.bl
  | _, [], .nil => rfl
  | _, n :: ns, .cons r t => by cases r; rw [RpAll.bools t]; rfl
theorem Rp.fresh {v : V} {d : D} (h : Rp N H v d) {p : Addr} (hp : H p = none) : True := trivial

theorem RpB.ext {v : V} {d : D} (e : Ext No H H') (f : Fit N H) (h : RpB N H v d) : RpB N H' v d := by
  have e' : Ext N H H' := fun a o q _ => e a o q (fun z => z)
  cases h with
  | of r => exact .of (r.ext e' f)
  | lst q r => exact .lst (e _ _ q (fun z => z)) (r.ext e' f)
  | dK q r => exact .dK (e _ _ q (fun z => z)) (r.ext e' f)
  | dT z q r => exact .dT z (e _ _ q (fun z => z)) (r.ext e' f)
theorem RpB.less (h : ∀ a, N' a → N a) {v : V} {d : D} (r : RpB N H v d) : RpB N' H v d := by
  cases r with
  | of r => exact .of (r.less h)
  | lst q r => exact .lst q (r.less h)
  | dK q r => exact .dK q (r.less h)
  | dT z q r => exact .dT z q (r.less h)
mutual
theorem Rp.move {H1 : Hp} (e : Ext N H1 H) (f : Fit N H1) (hN : ∀ a, N' a → N a ∨ H1 a = none) : ∀ {v : V} {d : D}, Rp N H1 v d → Rp N' H v d
  | _, _, .non => .non
  | _, _, .bl b => .bl b
  | _, _, .int i => .int i
  | _, _, .str x => .str x
  | _, _, .lst n h r => .lst (fun z => (hN _ z).elim n fun q => by rw [h] at q; cases q) (e _ _ h n) (RpAll.move e f hN r)
  | _, _, .tup h r => .tup (tup_ext e f h) (RpAll.move e f hN r)
  | _, _, .dK n h r => .dK (fun z => (hN _ z).elim n fun q => by rw [h] at q; cases q) (e _ _ h n) (RpAll.move e f hN r)
  | _, _, .dT n z h r => .dT (fun z => (hN _ z).elim n fun q => by rw [h] at q; cases q) z (e _ _ h n) (RpAll.move e f hN r)
theorem RpAll.move {H1 : Hp} (e : Ext N H1 H) (f : Fit N H1) (hN : ∀ a, N' a → N a ∨ H1 a = none) : ∀ {vs : List V} {ds : List D}, RpAll N H1 vs ds → RpAll N' H vs ds
  | _, _, .nil => .nil
  | _, _, .cons r rs => .cons (Rp.move e f hN r) (RpAll.move e f hN rs)
end
theorem RpB.move {H1 : Hp} (e : Ext N H1 H) (f : Fit N H1) (hN : ∀ a, N' a → N a ∨ H1 a = none) {v : V} {d : D} (t : ∀ a o, v = .ref a → H1 a = some o → H a = some o) (h : RpB N H1 v d) : RpB N' H v d := by
  cases h with
  | of r => exact .of (r.move e f hN)
  | lst q r => exact .lst (t _ _ rfl q) (r.move e f hN)
  | dK q r => exact .dK (t _ _ rfl q) (r.move e f hN)
  | dT z q r => exact .dT z (t _ _ rfl q) (r.move e f hN)

/-- shapes -/
theorem RpB.int_of {v : V} {i : Int} (h : RpB N H v (.int i)) : v = .int i := by
  cases h with | of r => cases r; rfl
theorem RpB.bl_of {v : V} {i : Bool} (h : RpB N H v (.bool i)) : v = .bl i := by
  cases h with | of r => cases r; rfl
theorem RpB.str_of {v : V} {i : Str} (h : RpB N H v (.str i)) : v = .str i := by
  cases h with | of r => cases r; rfl
theorem RpB.non_of {v : V} (h : RpB N H v .none) : v = .non := by
  cases h with | of r => cases r; rfl
theorem RpB.list_of {v : V} {ds : List D} (h : RpB N H v (.list ds)) : ∃ a xs, v = .ref a ∧ H a = some (.lst xs) ∧ RpAll N H xs ds := by
  cases h with
  | of r => cases r with | lst n q r => exact ⟨_, _, rfl, q, r⟩
  | lst q r => exact ⟨_, _, rfl, q, r⟩
theorem RpB.tup_of {v : V} {ds : List D} (h : RpB N H v (.tuple ds)) : ∃ a xs, v = .ref a ∧ H a = some (.tup xs) ∧ RpAll N H xs ds := by
  cases h with
  | of r => cases r with | tup q r => exact ⟨_, _, rfl, q, r⟩
theorem RpB.dict_of {v : V} {ds : List (D × D)} (h : RpB N H v (.dict ds)) : ∃ a, v = .ref a ∧
    ((∃ kvs es, H a = some (.dK kvs) ∧ RpAll N H (kvs.map (·.2)) es ∧ ds = (kvs.map (fun p => keyD p.1)).zip es) ∨
     (∃ kvs es, kvs ≠ [] ∧ H a = some (.dT kvs) ∧ RpAll N H (kvs.map (·.2)) es ∧ ds = (kvs.map (fun p => tkeyD p.1)).zip es)) := by
  cases h with
  | of r => cases r with
    | dK n q r => exact ⟨_, rfl, .inl ⟨_, _, q, r, rfl⟩⟩
    | dT n z q r => exact ⟨_, rfl, .inr ⟨_, _, z, q, r, rfl⟩⟩
  | dK q r => exact ⟨_, rfl, .inl ⟨_, _, q, r, rfl⟩⟩
  | dT z q r => exact ⟨_, rfl, .inr ⟨_, _, z, q, r, rfl⟩⟩
end

/-! ### to Reads: data read off the heap -/
end PD
/-! PDb: what operators make of data, and that they do. -/
namespace PD
open PySem L2

/-! ### data read off the heap -/
section
variable {X : Cx} {pins : List (Addr × Obj)} {σ : St} {H : Hp} {s : Shared} {N : Zn}
theorem reads_keysK {h : Heap} {P : Program} {w : World} : ∀ {es : List DictEntry} {vs : List (Key × Value)}, Pairs (mixKind P w) es vs → ∃ as, ReadsAll h (es.map (·.key)) (vs.map (fun p => keyD p.1)) as ∧ as = []
  | _, _, .nil => ⟨_, .nil, rfl⟩
  | _, _, .cons (e := e) (kv := kv) r _ t => by
    obtain ⟨as, q, rfl⟩ := reads_keysK (h := h) t
    rcases keyIs_shape (k := kv.1) (v := e.key) r with ⟨i, u, e1, e2⟩ | ⟨x, u, e1, e2⟩
    · refine ⟨_, .cons (as := []) (d := keyD kv.1) ?_ q, rfl⟩; show Reads h e.key _ _; rw [e1, e2]; exact .int i u
    · refine ⟨_, .cons (as := []) (d := keyD kv.1) ?_ q, rfl⟩; show Reads h e.key _ _; rw [e1, e2]; exact .str x u
theorem pairs_vals {P : Program} {w : World} : ∀ {es : List DictEntry} {vs : List (Key × Value)}, Pairs (mixKind P w) es vs → es.map (·.val) = vs.map (·.2)
  | _, _, .nil => rfl
  | _, _, .cons _ e t => by simp [e, pairs_vals t]
theorem KV.vals {κ : Type} : ∀ {l : List (κ × V)} {m : List (κ × Value)}, KV l m → Vals (l.map (·.2)) (m.map (·.2))
  | _, _, .nil => .nil
  | _, _, .cons r t => .cons r.2 (KV.vals t)
theorem KT.vals {H : Hp} : ∀ {l : List (List Key × V)} {m : List (List Key × Addr × Value)}, KT H l m → Vals (l.map (·.2)) (m.map (·.2.2))
  | _, _, .nil => .nil
  | _, _, .cons r t => .cons r.2.2 (KT.vals t)
theorem map_fst_zip' {α β : Type} {l : List α} {m : List β} (h : l.length = m.length) : (l.zip m).map (·.1) = l := List.map_fst_zip (by omega)
theorem map_snd_zip' {α β : Type} {l : List α} {m : List β} (h : l.length = m.length) : (l.zip m).map (·.2) = m := List.map_snd_zip (by omega)
theorem reads_keys : ∀ {ks : List Key} {us : List Value} (h : Heap), Vals (ks.map kV) us → ∃ as, ReadsAll h us (ks.map keyD) as ∧ as = []
  | [], _, h, .nil => ⟨_, .nil, rfl⟩
  | .inl i :: ks, _, h, .cons r t => by
    obtain ⟨u, rfl⟩ := r
    obtain ⟨as, q, rfl⟩ := reads_keys h t
    exact ⟨_, .cons (.int i u) q, rfl⟩
  | .inr x :: ks, _, h, .cons r t => by
    obtain ⟨u, rfl⟩ := r
    obtain ⟨as, q, rfl⟩ := reads_keys h t
    exact ⟨_, .cons (.str x u) q, rfl⟩
theorem reads_keysT (ok : HOk X.prog X.w H s.heap) : ∀ {l : List (List Key × V)} {m : List (List Key × Addr × Value)}, KT H l m → ∃ as, ReadsAll s.heap (m.map fun x => Value.ref x.2.1) (l.map (fun p => tkeyD p.1)) as ∧ as = []
  | _, _, .nil => ⟨_, .nil, rfl⟩
  | _, _, .cons (a := p) (b := q) r t => by
    obtain ⟨as, h2, rfl⟩ := reads_keysT ok t
    obtain ⟨_, its, rv, o, ho, hc, n, hd⟩ := (show ObjOk X.prog X.w H s.heap q.2.1 (.tup (p.1.map kV)) from ok _ _ r.2.1)
    obtain ⟨bs, h3, rfl⟩ := reads_keys s.heap rv
    exact ⟨_, .cons (as := []) (.tuple ho hc hd (by simpa using h3)) h2, rfl⟩
mutual
theorem Rp.reads (I : Inv X pins σ H s) : ∀ {v : V} {d : D} {u : Value}, Rp N H v d → RelV v u → ∃ as, Reads s.heap u d as ∧ ∀ a ∈ as, ∃ o, H a = some o
  | _, _, _, .non, r => by cases r; exact ⟨_, .none, by simp⟩
  | _, _, _, .bl b, r => by cases r; exact ⟨_, .bool b, by simp⟩
  | _, _, _, .int i, r => by obtain ⟨t, rfl⟩ := r; exact ⟨_, .int i t, by simp⟩
  | _, _, _, .str x, r => by obtain ⟨t, rfl⟩ := r; exact ⟨_, .str x t, by simp⟩
  | _, _, _, .lst n h ra, r => by
    cases r
    obtain ⟨_, its, k, rv, e⟩ := I.hok _ _ h
    obtain ⟨as, q, hd⟩ := RpAll.reads I ra rv
    exact ⟨_, .list e rfl rfl q, fun b hb => (List.mem_cons.mp hb).elim (fun z => ⟨_, z ▸ h⟩) (hd b)⟩
  | _, _, _, .tup h ra, r => by
    cases r
    obtain ⟨_, its, rv, o, ho, hc, k, hd⟩ := I.hok _ _ h
    obtain ⟨as, q, hd'⟩ := RpAll.reads I ra rv
    exact ⟨_, .tuple ho hc hd (by simpa using q), hd'⟩
  | _, _, _, .dK (kvs := kvs) (ds := ds) n h ra, r => by
    cases r
    obtain ⟨_, _, vs, rel, o, es, ep, ho, hx, hd, _, hp, _⟩ := dk_of I.hok h
    obtain ⟨as, q, rfl⟩ := reads_keysK (h := s.heap) hp
    have hl := ra.length
    obtain ⟨bs, q2, hd2⟩ := RpAll.reads I ra (KV.vals rel)
    have ek : vs.map (fun p => keyD p.1) = kvs.map (fun p => keyD p.1) := by
      have := congrArg (List.map keyD) (KV.keys rel)
      rw [List.map_map, List.map_map] at this
      exact this.symm
    rw [ek] at q
    rw [← pairs_vals hp] at q2
    refine ⟨_, .dict (kvs := (kvs.map (fun p => keyD p.1)).zip ds) ho hx.1 hd (as := []) (bs := bs) ?_ ?_, fun b hb => ?_⟩
    · rw [map_fst_zip' (by simpa using hl)]; exact q
    · rw [map_snd_zip' (by simpa using hl)]; exact q2
    · rcases List.mem_cons.mp (by simpa using hb) with z | z
      · exact ⟨_, z ▸ h⟩
      · exact hd2 b z
  | _, _, _, .dT (kvs := kvs) (ds := ds) n _ h ra, r => by
    cases r
    obtain ⟨_, _, xs, rel, o, es, ep, ho, hx, hd, he, _, _⟩ := dt_of I.hok h
    obtain ⟨as, q, rfl⟩ := reads_keysT I.hok rel
    have hl := ra.length
    obtain ⟨bs, q2, hd2⟩ := RpAll.reads I ra (KT.vals rel)
    refine ⟨_, .dict (kvs := (kvs.map (fun p => tkeyD p.1)).zip ds) ho hx.1 hd (as := []) (bs := bs) ?_ ?_, fun b hb => ?_⟩
    · rw [map_fst_zip' (by simpa using hl), he, List.map_map]; exact q
    · rw [map_snd_zip' (by simpa using hl), he, List.map_map]; exact q2
    · rcases List.mem_cons.mp (by simpa using hb) with z | z
      · exact ⟨_, z ▸ h⟩
      · exact hd2 b z
theorem RpAll.reads (I : Inv X pins σ H s) : ∀ {vs : List V} {ds : List D} {us : List Value}, RpAll N H vs ds → Vals vs us → ∃ as, ReadsAll s.heap us ds as ∧ ∀ a ∈ as, ∃ o, H a = some o
  | _, _, _, .nil, r => by cases r; exact ⟨_, .nil, by simp⟩
  | _, _, _, .cons r1 rs, r => by
    cases r with
    | cons q qs =>
      obtain ⟨as, h1, k1⟩ := Rp.reads I r1 q
      obtain ⟨bs, h2, k2⟩ := RpAll.reads I rs qs
      exact ⟨_, .cons h1 h2, fun b hb => (List.mem_append.mp hb).elim (k1 b) (k2 b)⟩
end
theorem rpB_to {v : V} {d : D} (h : RpB N H v d) : ∃ N', Rp N' H v d := by
  cases h with
  | of r => exact ⟨_, r⟩
  | lst q r => exact ⟨fun _ => False, .lst (fun z => z) q (r.less (fun _ z => z.elim))⟩
  | dK q r => exact ⟨fun _ => False, .dK (fun z => z) q (r.less (fun _ z => z.elim))⟩
  | dT z q r => exact ⟨fun _ => False, .dT (fun z => z) z q (r.less (fun _ z => z.elim))⟩
theorem RpB.reads (I : Inv X pins σ H s) {v : V} {d : D} {u : Value} (h : RpB N H v d) (r : RelV v u) : ∃ as, Reads s.heap u d as ∧ ∀ a ∈ as, ∃ o, H a = some o :=
  let ⟨_, q⟩ := rpB_to h; q.reads I r
end

/-! ### what comes out -/
def isL : D → Bool
  | .list _ | .dict _ => true
  | _ => false
/-- what is wanted of d, a list or dict new if fr -/
def Fresh (N : Zn) (H H' : Hp) (v : V) (d : D) : Prop := ∃ p, v = .ref p ∧ H p = none ∧ RpB (fun a => N a ∨ a = p) H' (.ref p) d
theorem freshL {N : Zn} {H : Hp} {ds : List D} {vs : List V} (f : Fit N H) (r : RpAll N H vs ds) {p : Addr} (hp : H p = none) : Fresh N H (upd H p (.lst vs)) (.ref p) (.list ds) :=
  ⟨p, rfl, hp, .lst upd_same (r.move (Ext.new hp) f fun a z => z.elim .inl fun z => .inr (z ▸ hp))⟩
def Out (fr : Bool) (N : Zn) (H : Hp) (d : D) (Q : VK) : Prop := ∀ v H', Ext No H H' → Rp N H' v d → (fr = true → isL d = true → Fresh N H H' v d) → Q v H'
theorem Out.old {N : Zn} {H : Hp} {d : D} {Q : VK} {v : V} (o : Out false N H d Q) (r : Rp N H v d) : Q v H := o v H Ext.refl r (fun z => nomatch z)
theorem Out.imm {fr : Bool} {N : Zn} {H : Hp} {d : D} {Q : VK} {v : V} (o : Out fr N H d Q) (r : Rp N H v d) (h : isL d = false) : Q v H := o v H Ext.refl r (fun _ z => by rw [h] at z; cases z)
theorem Out.newL {fr : Bool} {N : Zn} {H : Hp} {ds : List D} {Q : VK} {vs : List V} (o : Out fr N H (.list ds) Q) (f : Fit N H) (r : RpAll N H vs ds) : ∀ p, H p = none → Q (.ref p) (upd H p (.lst vs)) := fun p hp =>
  o _ _ (Ext.new hp) (.lst (f.ne hp) upd_same (r.ext (Ext.new hp) f)) (fun _ _ => freshL f r hp)
theorem Out.newT {fr : Bool} {N : Zn} {H : Hp} {ds : List D} {Q : VK} {vs : List V} (o : Out fr N H (.tuple ds) Q) (f : Fit N H) (r : RpAll N H vs ds) : ∀ p, H p = none → Q (.ref p) (upd H p (.tup vs)) := fun p hp =>
  o _ _ (Ext.new hp) (.tup upd_same (r.ext (Ext.new hp) f)) (fun _ z => nomatch z)

/-- a two-place operation by data -/
def Op2 (X : Cx) (fr : Bool) (f : Value → Value → Sem Value) (sem : D → D → Option D) : Prop :=
  OpR X f (fun x y H Q => ∃ N d e r, Fit N H ∧ RpB N H x d ∧ RpB N H y e ∧ sem d e = some r ∧ Out fr N H r Q)

inductive BOp where | add | sub | mul | fdiv | mod | pow | shl | shr | band | bor | bxor
  deriving DecidableEq, Repr
def bopF : BOp → Operator
  | .add => .Add | .sub => .Sub | .mul => .Mult | .fdiv => .FloorDiv | .mod => .Mod | .pow => .Pow | .shl => .LShift | .shr => .RShift | .band => .BitAnd | .bor => .BitOr | .bxor => .BitXor

def addD : D → D → Option D
  | .int a, .int b => some (.int (a + b))
  | .str a, .str b => if a.length + b.length ≤ sizeLine then some (.str (a ++ b)) else none
  | .list a, .list b => if a.length + b.length ≤ sizeLine then some (.list (a ++ b)) else none
  | .tuple a, .tuple b => if a.length + b.length ≤ sizeLine then some (.tuple (a ++ b)) else none
  | _, _ => none
instance (i j : Int) : Decidable (CMul i j) := by unfold CMul; exact inferInstance
instance (i j : Int) : Decidable (CPow i j) := by unfold CPow; exact inferInstance
instance (i j : Int) : Decidable (CDivN i j) := by unfold CDivN; exact inferInstance
def subD : D → D → Option D
  | .int a, .int b => some (.int (a - b))
  | _, _ => none
def mulD : D → D → Option D
  | .int a, .int b => if CMul a b then some (.int (a * b)) else none
  | .list a, .int k => if -(2 ^ 63) ≤ k ∧ k < 2 ^ 63 ∧ a.length * k.toNat ≤ sizeLine then some (.list (List.replicate k.toNat a).flatten) else none
  | _, _ => none
/-- two ints, a condition -/
def intD (C : Int → Int → Prop) [∀ a b, Decidable (C a b)] (g : Int → Int → Int) : D → D → Option D
  | .int a, .int b => if C a b then some (.int (g a b)) else none
  | _, _ => none
def binD : BOp → D → D → Option D
  | .add => addD
  | .sub => subD
  | .mul => mulD
  | .fdiv => intD CDivN fun a b => a.fdiv b
  | .mod => intD (fun _ b => b ≠ 0) fun a b => a.fmod b
  | .pow => intD CPow fun a b => a ^ b.toNat
  | .shl => intD CPow fun a b => a * 2 ^ b.toNat
  | .shr => intD (fun _ b => 0 ≤ b) fun a b => a / 2 ^ b.toNat
  | .band => intD (fun _ _ => True) Builtin.bitAnd
  | .bor => intD (fun _ _ => True) Builtin.bitOr
  | .bxor => intD (fun _ _ => True) Builtin.bitXor

section
variable {X : Cx}
theorem op2_int {f : Value → Value → Sem Value} {C : Int → Int → Prop} {g : Int → Int → Int} {fr : Bool} (h : OpR X f (rI C fun i j => .int (g i j))) {pins : List (Addr × Obj)} {s : Shared} {σ : St} {H : Hp} {x y : V} {v u : Value} {Q : VK} {N : Zn}
    (I : Inv X pins σ H s) (rx : RelV x v) (ry : RelV y u) {a b : Int} (hx : RpB N H x (.int a)) (hy : RpB N H y (.int b)) (c : C a b) (o : Out fr N H (.int (g a b)) Q) : wpAny (model X.prog X.w) X.A (f v u) (EP X pins σ Q) X.xe s :=
  h pins s σ H x y v u Q I rx ry ⟨a, b, hx.int_of, hy.int_of, c, o.imm (.int _) rfl⟩
theorem op2_int0 {f : Value → Value → Sem Value} {g : Int → Int → Int} {fr : Bool} (h : OpR X f (rI0 fun i j => .int (g i j))) {pins : List (Addr × Obj)} {s : Shared} {σ : St} {H : Hp} {x y : V} {v u : Value} {Q : VK} {N : Zn}
    (I : Inv X pins σ H s) (rx : RelV x v) (ry : RelV y u) {a b : Int} (hx : RpB N H x (.int a)) (hy : RpB N H y (.int b)) (o : Out fr N H (.int (g a b)) Q) : wpAny (model X.prog X.w) X.A (f v u) (EP X pins σ Q) X.xe s :=
  h pins s σ H x y v u Q I rx ry ⟨a, b, hx.int_of, hy.int_of, o.imm (.int _) rfl⟩
theorem op2_intD {f : Value → Value → Sem Value} {C : Int → Int → Prop} [∀ a b, Decidable (C a b)] {g : Int → Int → Int} {fr : Bool} (h : OpR X f (rI C fun i j => .int (g i j))) : Op2 X fr f (intD C g) := by
  intro pins s σ H x y v u Q I rx ry h'
  obtain ⟨N, d, e, r, ft, hx, hy, hs, o⟩ := h'
  unfold intD at hs
  split at hs
  · split at hs
    · cases hs; exact op2_int h I rx ry hx hy (by assumption) o
    · cases hs
  · cases hs
theorem rI_of0 {f : Value → Value → Sem Value} {g : Int → Int → Int} (h : OpR X f (rI0 fun i j => .int (g i j))) : OpR X f (rI (fun _ _ => True) fun i j => .int (g i j)) :=
  fun pins s σ H x y v u Q I rx ry ⟨i, j, e1, e2, _, q⟩ => h pins s σ H x y v u Q I rx ry ⟨i, j, e1, e2, q⟩
theorem op2_add : Op2 X true (binaryOp .Add) addD := by
  intro pins s σ H x y v u Q I rx ry h
  obtain ⟨N, d, e, r, f, hx, hy, hs, o⟩ := h
  unfold addD at hs
  split at hs
  · cases hs; exact op2_int0 op_add I rx ry hx hy o
  · split at hs
    · cases hs
      refine op_add_str pins s σ H x y v u Q I rx ry ⟨_, _, hx.str_of, hy.str_of, by assumption, o.imm (.str _) rfl⟩
    · cases hs
  · split at hs
    · rename_i hl
      cases hs
      obtain ⟨a, xs, rfl, ha, rxs⟩ := hx.list_of
      obtain ⟨b, ys, rfl, hb, rys⟩ := hy.list_of
      exact op_cat pins s σ H _ _ v u Q I rx ry ⟨a, b, xs, ys, rfl, rfl, ha, hb, by rw [rxs.length, rys.length]; exact hl, o.newL f (rxs.append rys)⟩
    · cases hs
  · split at hs
    · rename_i hl
      cases hs
      obtain ⟨a, xs, rfl, ha, rxs⟩ := hx.tup_of
      obtain ⟨b, ys, rfl, hb, rys⟩ := hy.tup_of
      refine op_catA pins s σ H _ _ v u Q I rx ry ⟨a, b, xs, ys, rfl, rfl, SqT.of ha, SqT.of hb, by rw [rxs.length, rys.length]; exact hl, fun e => ?_, fun e1 e2 => ?_, fun e1 e2 => o.newT f (rxs.append rys)⟩
      · subst e; cases rxs; exact o.imm (.tup hb rys) rfl
      · subst e2; cases rys; rw [List.append_nil] at o; exact o.imm (.tup ha rxs) rfl
    · cases hs
  · cases hs
theorem op2_mul : Op2 X true (binaryOp .Mult) mulD := by
  intro pins s σ H x y v u Q I rx ry h
  obtain ⟨N, d, e, r, f, hx, hy, hs, o⟩ := h
  unfold mulD at hs
  split at hs
  · split at hs
    · cases hs; exact op2_int op_mul I rx ry hx hy (by assumption) o
    · cases hs
  · split at hs
    · rename_i h3
      cases hs
      obtain ⟨a, xs, rfl, ha, rxs⟩ := hx.list_of
      refine op_rep pins s σ H _ _ v u Q I rx ry ⟨a, _, xs, rfl, hy.int_of, ha, h3.1, h3.2.1, by rw [rxs.length]; exact h3.2.2, o.newL f (rxs.flatRep _)⟩
    · cases hs
  · cases hs
theorem op2_sub : Op2 X true (binaryOp .Sub) subD := by
  intro pins s σ H x y v u Q I rx ry h
  obtain ⟨N, d, e, r, f, hx, hy, hs, o⟩ := h
  unfold subD at hs
  split at hs
  · cases hs; exact op2_int0 op_sub I rx ry hx hy o
  · cases hs
theorem op2_bin (op : BOp) : Op2 X true (binaryOp (bopF op)) (binD op) := by
  cases op with
  | add => exact op2_add
  | sub => exact op2_sub
  | mul => exact op2_mul
  | fdiv => exact op2_intD op_fdivN
  | mod => exact op2_intD op_modN
  | pow => exact op2_intD op_pow
  | shl => exact op2_intD op_shl
  | shr => exact op2_intD op_shr
  | band => exact op2_intD (rI_of0 op_and)
  | bor => exact op2_intD (rI_of0 op_or)
  | bxor => exact op2_intD (rI_of0 op_xor)
end

/-! ### comparisons -/
inductive COp where | eq | ne | lt | le | gt | ge | is | isn | inn | nin
  deriving DecidableEq, Repr
def copF : COp → CmpOp
  | .eq => .Eq | .ne => .NotEq | .lt => .Lt | .le => .LtE | .gt => .Gt | .ge => .GtE | .is => .Is | .isn => .IsNot | .inn => .In | .nin => .NotIn
def eqOk (d e : D) : Bool := d.canLay0 && e.canLay0 && decide (min d.depth e.depth ≤ 60)
def isN : D → Bool
  | .none => true
  | _ => false
def ltOk (d e : D) : Bool := PySem.W.alike d e && !isN d && decide (min d.depth e.depth ≤ 60)

def isKey1 : D → Bool
  | .int _ | .str _ => true
  | _ => false
def isKey : D → Bool
  | .tuple ks => ks.all isKey1
  | d => isKey1 d
/-- a dict's value at a key -/
def dget (kvs : List (D × D)) (k : D) : Option D := (kvs.find? fun p => PyData.eqv p.1 k).map (·.2)
/-- keys of one kind -/
def kindOk (kvs : List (D × D)) (k : D) : Bool := kvs.all fun p => match p.1, k with
  | .tuple _, .tuple _ => true
  | .tuple _, _ => false
  | _, .tuple _ => false
  | _, _ => true
def inD (neg : Bool) (d : D) : D → Option D
  | .list ds => if d.canLay0 && PyData.canLayAll0 ds && decide (min (PyData.depthAll ds) d.depth ≤ 60) then some (.bool (if neg then !ds.any (fun y => PyData.eqv y d) else ds.any fun y => PyData.eqv y d)) else none
  | .tuple ds => if d.canLay0 && PyData.canLayAll0 ds && decide (min (PyData.depthAll ds) d.depth ≤ 60) then some (.bool (if neg then !ds.any (fun y => PyData.eqv y d) else ds.any fun y => PyData.eqv y d)) else none
  | .dict kvs => if isKey d && kindOk kvs d then some (.bool (if neg then !(dget kvs d).isSome else (dget kvs d).isSome)) else none
  | _ => none
def boolsOf : D → D → Option (Bool × Bool)
  | .bool a, .bool b => some (a, b)
  | _, _ => none
/-- d is e: None, or two bools -/
def isD (neg : Bool) (d e : D) : Option D := if isN e then some (.bool (if neg then !isN d else isN d)) else (boolsOf d e).map fun p => .bool (if neg then !decide (p.1 = p.2) else decide (p.1 = p.2))
def copD : COp → D → D → Option D
  | .eq => fun d e => if eqOk d e then some (.bool (PyData.eqv d e)) else none
  | .ne => fun d e => if eqOk d e then some (.bool (!PyData.eqv d e)) else none
  | .lt => fun d e => if ltOk d e then some (.bool (PySem.W.dataLt d e)) else none
  | .gt => fun d e => if ltOk d e then some (.bool (PySem.W.dataLt e d)) else none
  | .le => fun d e => if ltOk d e then some (.bool (!PySem.W.dataLt e d)) else none
  | .ge => fun d e => if ltOk d e then some (.bool (!PySem.W.dataLt d e)) else none
  | .is => isD false
  | .isn => isD true
  | .inn => inD false
  | .nin => inD true
section
variable {X : Cx}
theorem eqOk_of {d e : D} (h : eqOk d e = true) : d.canLay0 = true ∧ e.canLay0 = true ∧ min d.depth e.depth ≤ 60 := by
  unfold eqOk at h
  simp only [Bool.and_eq_true, decide_eq_true_eq] at h
  exact ⟨h.1.1, h.1.2, h.2⟩
theorem ltOk_of {d e : D} (h : ltOk d e = true) : PySem.W.alike d e = true ∧ d ≠ .none ∧ min d.depth e.depth ≤ 60 := by
  unfold ltOk at h
  simp only [Bool.and_eq_true, decide_eq_true_eq, Bool.not_eq_true'] at h
  exact ⟨h.1.1, fun z => by rw [z] at h; simp [isN] at h, h.2⟩
theorem isN_iff {N : Zn} {H : Hp} {v : V} {d : D} (h : RpB N H v d) : decide (v = .non) = isN d := by
  cases h with
  | of r => cases r <;> simp [isN]
  | lst _ _ => simp [isN]
  | dK _ _ => simp [isN]
  | dT _ _ _ => simp [isN]

/-! keys -/
theorem keyD_eqv (a b : Key) : PyData.eqv (keyD a) (keyD b) = decide (a = b) := by
  cases a with
  | inl i => cases b with
    | inl j => simp [keyD, PyData.eqv, Bool.beq_eq_decide_eq]
    | inr y => simp [keyD, PyData.eqv]
  | inr x => cases b with
    | inl j => simp [keyD, PyData.eqv]
    | inr y => simp [keyD, PyData.eqv, Bool.beq_eq_decide_eq]
theorem keyDs_eqv : ∀ a b : List Key, PyData.eqvAll (a.map keyD) (b.map keyD) = decide (a = b)
  | [], [] => by simp [PyData.eqvAll]
  | [], _ :: _ => by simp [PyData.eqvAll]
  | _ :: _, [] => by simp [PyData.eqvAll]
  | x :: xs, y :: ys => by
    simp only [List.map_cons, PyData.eqvAll, keyD_eqv, keyDs_eqv xs ys, List.cons.injEq]
    by_cases h : x = y <;> simp [h]
theorem tkeyD_eqv (a b : List Key) : PyData.eqv (tkeyD a) (tkeyD b) = decide (a = b) := by
  unfold tkeyD; simp only [PyData.eqv]; exact keyDs_eqv a b
theorem tk_eqv (a : List Key) (b : Key) : PyData.eqv (tkeyD a) (keyD b) = false := by cases b <;> simp [tkeyD, keyD, PyData.eqv]
theorem kt_eqv (a : Key) (b : List Key) : PyData.eqv (keyD a) (tkeyD b) = false := by cases a <;> simp [tkeyD, keyD, PyData.eqv]
theorem key1_of : ∀ {d : D}, isKey1 d = true → ∃ k, d = keyD k
  | .int i, _ => ⟨.inl i, rfl⟩
  | .str x, _ => ⟨.inr x, rfl⟩
theorem key1s_of : ∀ {ds : List D}, ds.all isKey1 = true → ∃ ks : List Key, ds = ks.map keyD
  | [], _ => ⟨[], rfl⟩
  | d :: ds, h => by
    rw [List.all_cons, Bool.and_eq_true] at h
    obtain ⟨k, rfl⟩ := key1_of h.1
    obtain ⟨ks, rfl⟩ := key1s_of h.2
    exact ⟨k :: ks, rfl⟩
theorem key_cases : ∀ {d : D}, isKey d = true → (∃ k, d = keyD k) ∨ ∃ ks, d = tkeyD ks
  | .int i, _ => .inl ⟨.inl i, rfl⟩
  | .str x, _ => .inl ⟨.inr x, rfl⟩
  | .tuple ds, h => let ⟨ks, e⟩ := key1s_of (show ds.all isKey1 = true from h); .inr ⟨ks, by rw [e]; rfl⟩
theorem Rp.key {N : Zn} {H : Hp} {v : V} {k : Key} (h : RpB N H v (keyD k)) : v = kV k := by
  cases k with
  | inl i => exact h.int_of
  | inr x => exact h.str_of
theorem Rp.keys {N : Zn} {H : Hp} : ∀ {vs : List V} {ks : List Key}, RpAll N H vs (ks.map keyD) → vs = ks.map kV
  | _, [], .nil => rfl
  | _, k :: ks, .cons r t => by rw [Rp.keys t, Rp.key (.of r)]; rfl
theorem Rp.tkey {N : Zn} {H : Hp} {v : V} {ks : List Key} (h : RpB N H v (tkeyD ks)) : ∃ b, v = .ref b ∧ H b = some (.tup (ks.map kV)) := by
  obtain ⟨a, xs, rfl, ha, r⟩ := (show RpB N H v (.tuple (ks.map keyD)) from h).tup_of
  exact ⟨a, rfl, by rw [← Rp.keys r]; exact ha⟩
/-- what stands at a key, by data -/
theorem find_rp {κ : Type} [DecidableEq κ] {N : Zn} {H : Hp} (enc : κ → D) (hq : ∀ a b, PyData.eqv (enc a) (enc b) = decide (a = b)) (k : κ) : ∀ {kvs : List (κ × V)} {ds : List D}, RpAll N H (kvs.map (·.2)) ds →
    (∃ v d, valV kvs k = some v ∧ dget ((kvs.map fun p => enc p.1).zip ds) (enc k) = some d ∧ Rp N H v d) ∨ (valV kvs k = none ∧ dget ((kvs.map fun p => enc p.1).zip ds) (enc k) = none)
  | [], _, .nil => .inr ⟨rfl, rfl⟩
  | (a, v) :: r, _, .cons (d := d) h t => by
    have hc : PyData.eqv (enc a) (enc k) = decide (a = k) := hq a k
    by_cases e : a = k
    · refine .inl ⟨v, d, valV_pos (p := (a, v)) e, ?_, h⟩
      rw [decide_eq_true e] at hc
      simp [dget, List.find?_cons, hc]
    · have ih := find_rp enc hq k t
      have h1 : valV ((a, v) :: r) k = valV r k := valV_neg (p := (a, v)) e
      have h2 : ∀ ds, dget ((((a, v) :: r).map fun p => enc p.1).zip (d :: ds)) (enc k) = dget ((r.map fun p => enc p.1).zip ds) (enc k) := fun ds => by
        simp [dget, List.find?_cons, hc, e]
      rw [h1]
      simp only [h2]
      exact ih
theorem find_off {κ : Type} {enc : κ → D} {k : D} (hq : ∀ a, PyData.eqv (enc a) k = false) : ∀ (kvs : List (κ × V)) (ds : List D), dget ((kvs.map fun p => enc p.1).zip ds) k = none
  | [], _ => rfl
  | _ :: _, [] => rfl
  | (a, v) :: r, d :: ds => by
    have := find_off hq r ds
    simpa [dget, List.find?_cons, hq a] using this
/-- an empty dict is one of either kind -/
theorem Inv.toT {pins : List (Addr × Obj)} {σ : St} {H : Hp} {s : Shared} {a : Addr} (I : Inv X pins σ H s) (h : H a = some (.dK [])) : Inv X pins σ (upd H a (.dT [])) s := by
  obtain ⟨z, y, vs, rel, o, es, ep, ho, hx, hd, hk, hp, hn⟩ := dk_of I.hok h
  cases rel
  have he : es.toList = [] := by generalize es.toList = l at hp; cases hp; rfl
  exact I.write (x := a) (e := a) (h' := s.heap) (t' := s.toks) (by rw [h]; trivial) (.inl rfl) (fun _ _ _ q => q) ⟨o, ho⟩ ⟨z, y, [], .nil, o, es, ep, ho, hx, hd, by rw [he]; rfl, by simp⟩
theorem Inv.toK {pins : List (Addr × Obj)} {σ : St} {H : Hp} {s : Shared} {a : Addr} (I : Inv X pins σ H s) (h : H a = some (.dT [])) : Inv X pins σ (upd H a (.dK [])) s := by
  obtain ⟨z, y, xs, rel, o, es, ep, ho, hx, hd, he, _, hn⟩ := dt_of I.hok h
  cases rel
  refine I.write (x := a) (e := a) (h' := s.heap) (t' := s.toks) (by rw [h]; trivial) (.inl rfl) (fun _ _ _ q => q) ⟨o, ho⟩ ⟨z, y, [], .nil, o, es, ep, ho, hx, hd, fun e q => ?_, ?_, by simp⟩
  · have : e ∈ es.toList := by simpa using q
    rw [he] at this; simp at this
  · rw [he]; exact .nil
theorem upd_back {H : Hp} {a : Addr} {o u : HO} (h : H a = some o) : upd (upd H a u) a o = H := by
  rw [upd_upd]; funext b; unfold upd; split
  · rename_i e; rw [e, h]
  · rfl
end
end PD
/-! PDc: comparisons, subscripts, slices, truth. -/
namespace PD
open PySem L2
section
variable {X : Cx}
theorem kindOk_K {kvs : List (Key × V)} {ds : List D} (hl : kvs.length = ds.length) {ks : List Key} (h : kindOk ((kvs.map (fun p => keyD p.1)).zip ds) (tkeyD ks) = true) : kvs = [] := by
  cases kvs with
  | nil => rfl
  | cons p r => cases ds with
    | nil => simp at hl
    | cons d ds =>
      simp only [kindOk, List.map_cons, List.zip_cons_cons, List.all_cons, Bool.and_eq_true] at h
      rcases p with ⟨i | x, v⟩ <;> simp [keyD, tkeyD] at h
theorem kindOk_T {kvs : List (List Key × V)} {ds : List D} (hl : kvs.length = ds.length) {k : Key} (h : kindOk ((kvs.map (fun p => tkeyD p.1)).zip ds) (keyD k) = true) : kvs = [] := by
  cases kvs with
  | nil => rfl
  | cons p r => cases ds with
    | nil => simp at hl
    | cons d ds =>
      simp only [kindOk, List.map_cons, List.zip_cons_cons, List.all_cons, Bool.and_eq_true] at h
      rcases k with i | x <;> simp [keyD, tkeyD] at h
/-- the dict at a, asked at a key: what is read, under a heap that is the same but for an empty dict's kind -/
theorem dict_at {pins : List (Addr × Obj)} {σ : St} {H : Hp} {s : Shared} {N : Zn} {x y : V} {d : D} {kvs : List (D × D)} (I : Inv X pins σ H s) (hd : RpB N H x (.dict kvs)) (hk : RpB N H y d) (k1 : isKey d = true) (k2 : kindOk kvs d = true) :
    ∃ a H2 o, x = .ref a ∧ Inv X pins σ H2 s ∧ DGet H2 a y o ∧ (∀ s', Inv X pins σ H2 s' → Inv X pins σ H s') ∧
      ((∃ v e, o = some v ∧ dget kvs d = some e ∧ Rp N H v e) ∨ (o = none ∧ dget kvs d = none)) := by
  obtain ⟨a, rfl, ⟨ks, es, ha, r, rfl⟩ | ⟨ks, es, hne, ha, r, rfl⟩⟩ := hd.dict_of
  · have hl : ks.length = es.length := by simpa using r.length
    rcases key_cases k1 with ⟨k, rfl⟩ | ⟨k, rfl⟩
    · refine ⟨a, H, valV ks k, rfl, I, by rw [Rp.key hk]; exact DGet.k ha, fun _ q => q, ?_⟩
      rcases find_rp keyD keyD_eqv k r with ⟨v, e, h1, h2, h3⟩ | ⟨h1, h2⟩
      · exact .inl ⟨v, e, h1, h2, h3⟩
      · exact .inr ⟨h1, h2⟩
    · obtain rfl := kindOk_K hl k2
      obtain ⟨b, rfl, hb⟩ := Rp.tkey hk
      have hne : b ≠ a := ne_of hb ha (by intro z; cases z)
      refine ⟨a, upd H a (.dT []), none, rfl, Inv.toT I ha, DGet.t (kvs := []) (k := k) upd_same (by rw [upd_ne hne]; exact hb), fun s' q => ?_, .inr ⟨rfl, by simp [dget]⟩⟩
      have := Inv.toK q upd_same
      rwa [upd_back ha] at this
  · have hl : ks.length = es.length := by simpa using r.length
    rcases key_cases k1 with ⟨k, rfl⟩ | ⟨k, rfl⟩
    · exact absurd (kindOk_T hl k2) hne
    · obtain ⟨b, rfl, hb⟩ := Rp.tkey hk
      refine ⟨a, H, valV ks k, rfl, I, DGet.t ha hb, fun _ q => q, ?_⟩
      rcases find_rp tkeyD tkeyD_eqv k r with ⟨v, e, h1, h2, h3⟩ | ⟨h1, h2⟩
      · exact .inl ⟨v, e, h1, h2, h3⟩
      · exact .inr ⟨h1, h2⟩

theorem op2_eq (hu : X.A.units + 64 < cLine) (ne : Bool) : Op2 X false (compareOp (if ne then .NotEq else .Eq)) (fun d e => if eqOk d e then some (.bool (if ne then !PyData.eqv d e else PyData.eqv d e)) else none) := by
  intro pins s σ H x y v u Q I rx ry h
  obtain ⟨N, d, e, r, f, hx, hy, hs, o⟩ := h
  by_cases hok : eqOk d e = true
  · obtain ⟨c1, c2, c3⟩ := eqOk_of hok
    obtain ⟨as, r1, _⟩ := hx.reads I rx
    obtain ⟨bs, r2, _⟩ := hy.reads I ry
    cases ne with
    | false => simp only [hok, if_true, Bool.false_eq_true, if_false] at hs; cases hs; exact SeqAt.compareEq_reads r1 r2 c1 c2 (by omega) ⟨.bl _, H, I, rfl, o.imm (.bl _) rfl⟩
    | true => simp only [hok, if_true] at hs; cases hs; exact SeqAt.compareNe_reads r1 r2 c1 c2 (by omega) ⟨.bl _, H, I, rfl, o.imm (.bl _) rfl⟩
  · simp only [hok] at hs; cases hs
theorem op2_lt (hu : X.A.units + 64 < cLine) (c : COp) (hc : c = .lt ∨ c = .gt ∨ c = .le ∨ c = .ge) : Op2 X false (compareOp (copF c)) (copD c) := by
  intro pins s σ H x y v u Q I rx ry h
  obtain ⟨N, d, e, r, f, hx, hy, hs, o⟩ := h
  have hok : ltOk d e = true := by
    rcases hc with rfl | rfl | rfl | rfl <;> (simp only [copD] at hs; split at hs <;> first | assumption | cases hs)
  obtain ⟨c1, c2, c3⟩ := ltOk_of hok
  obtain ⟨as, r1, _⟩ := hx.reads I rx
  obtain ⟨bs, r2, _⟩ := hy.reads I ry
  rcases hc with rfl | rfl | rfl | rfl <;> (simp only [copD, hok, if_true] at hs; cases hs)
  · exact PySem.W.lt_data r1 r2 c1 c2 (by omega) ⟨.bl _, H, I, rfl, o.imm (.bl _) rfl⟩
  · exact PySem.W.gt_data r1 r2 c1 c2 (by omega) ⟨.bl _, H, I, rfl, o.imm (.bl _) rfl⟩
  · exact PySem.W.le_data r1 r2 c1 c2 (by omega) ⟨.bl _, H, I, rfl, o.imm (.bl _) rfl⟩
  · exact PySem.W.ge_data r1 r2 c1 c2 (by omega) ⟨.bl _, H, I, rfl, o.imm (.bl _) rfl⟩
theorem op2_is (n : Bool) : Op2 X false (compareOp (if n then .IsNot else .Is)) (isD n) := by
  intro pins s σ H x y v u Q I rx ry h
  obtain ⟨N, d, e, r, f, hx, hy, hs, o⟩ := h
  unfold isD at hs
  by_cases he : isN e = true
  · have hy' : y = .non := by
      cases e <;> simp [isN] at he
      exact hy.non_of
    subst hy'
    have e1 := isN_iff hx
    cases n with
    | false => simp only [he, if_true, Bool.false_eq_true, if_false] at hs; cases hs; exact op_isN pins s σ H x _ v u Q I rx ry ⟨rfl, by rw [e1]; exact o.imm (.bl _) rfl⟩
    | true => simp only [he, if_true] at hs; cases hs; exact op_notN pins s σ H x _ v u Q I rx ry ⟨rfl, by rw [e1]; exact o.imm (.bl _) rfl⟩
  · simp only [he] at hs
    obtain ⟨p, hp, rfl⟩ := Option.map_eq_some_iff.mp hs
    unfold boolsOf at hp
    split at hp <;> cases hp
    cases hx.bl_of
    cases hy.bl_of
    cases n with
    | false => exact op_isBl pins s σ H _ _ v u Q I rx ry ⟨_, _, rfl, rfl, o.imm (.bl _) rfl⟩
    | true => exact op_notBl pins s σ H _ _ v u Q I rx ry ⟨_, _, rfl, rfl, o.imm (.bl _) rfl⟩
theorem op2_in (hu : X.A.units + 64 < cLine) (n : Bool) : Op2 X false (compareOp (if n then .NotIn else .In)) (inD n) := by
  intro pins s σ H x y v u Q I rx ry h
  obtain ⟨N, d, e, r, f, hx, hy, hs, o⟩ := h
  obtain ⟨as, r1, _⟩ := hx.reads I rx
  unfold inD at hs
  split at hs
  · split at hs
    · rename_i hc
      simp only [Bool.and_eq_true, decide_eq_true_eq] at hc
      cases hs
      obtain ⟨bs, r2, _⟩ := hy.reads I ry
      cases n with
      | false => exact SeqAt.in_list_reads r2 r1 hc.1.2 hc.1.1 (by omega) ⟨.bl _, H, I, rfl, o.imm (.bl _) rfl⟩
      | true => exact SeqAt.notIn_list_reads r2 r1 hc.1.2 hc.1.1 (by omega) ⟨.bl _, H, I, rfl, o.imm (.bl _) rfl⟩
    · cases hs
  · split at hs
    · rename_i hc
      simp only [Bool.and_eq_true, decide_eq_true_eq] at hc
      cases hs
      obtain ⟨bs, r2, _⟩ := hy.reads I ry
      cases n with
      | false => exact SeqAt.in_tuple_reads r2 r1 hc.1.2 hc.1.1 (by omega) ⟨.bl _, H, I, rfl, o.imm (.bl _) rfl⟩
      | true => exact SeqAt.notIn_tuple_reads r2 r1 hc.1.2 hc.1.1 (by omega) ⟨.bl _, H, I, rfl, o.imm (.bl _) rfl⟩
    · cases hs
  · rename_i kvs
    split at hs
    · rename_i hc
      rw [Bool.and_eq_true] at hc
      cases hs
      obtain ⟨a, H2, ov, rfl, I2, g, back, hv⟩ := dict_at I hy hx hc.1 hc.2
      cases ry
      have eo : ov.isSome = (dget kvs d).isSome := by
        rcases hv with ⟨w, e, h1, h2, _⟩ | ⟨h1, h2⟩ <;> rw [h1, h2] <;> rfl
      cases n with
      | false => exact d_in (by omega) I2 g rx fun s' I' => ⟨.bl _, H, back s' I', by rw [eo]; rfl, o.imm (.bl _) rfl⟩
      | true => exact d_notIn (by omega) I2 g rx fun s' I' => ⟨.bl _, H, back s' I', by rw [eo]; rfl, o.imm (.bl _) rfl⟩
    · cases hs
  · cases hs
theorem op2_cop (hu : X.A.units + 64 < cLine) (c : COp) : Op2 X false (compareOp (copF c)) (copD c) := by
  cases c with
  | eq => exact op2_eq hu false
  | ne => exact op2_eq hu true
  | lt => exact op2_lt hu .lt (by simp)
  | gt => exact op2_lt hu .gt (by simp)
  | le => exact op2_lt hu .le (by simp)
  | ge => exact op2_lt hu .ge (by simp)
  | is => exact op2_is false
  | isn => exact op2_is true
  | inn => exact op2_in hu false
  | nin => exact op2_in hu true
end
end PD
/-! PDd: the compact language and what it means (weakest preconditions over data). -/
namespace PD
open PySem L2

abbrev W (α : Type) := (α → Prop) → Prop
def lift {α : Type} (o : Option α) : W α := fun Q => ∃ d, o = some d ∧ Q d

/-- what a slot holds: shared data, data of one's own list or dict, the source of draws -/
inductive B where
  | sh (d : D) | own (d : D) | src
abbrev Nv := List (Option B)
def look (ρ : Nv) (i : Nat) : Option D := match ρ[i]? with
  | some (some (.sh d)) => some d
  | _ => none
def lookB (ρ : Nv) (i : Nat) : Option D := match ρ[i]? with
  | some (some (.sh d)) => some d
  | some (some (.own d)) => some d
  | _ => none
def lookA (ρ : Nv) (i : Nat) : Option B := match ρ[i]? with
  | some (some (.sh d)) => some (.sh d)
  | some (some .src) => some .src
  | _ => none

inductive Prim where
  | len | tuple | list | sorted | sum | max | min | abs | all | any | int | repr | str | index | get | dictOf | keys | values | items | count | bool | join | lists
  deriving DecidableEq, Repr
/-- classes asked by isinstance -/
inductive Ty where | int | bool | str | list | tuple | dict
  deriving DecidableEq, Repr
inductive G where
  | v (i : Nat)
  | tup (gs : List G)

mutual
inductive E where
  | var (i : Nat)
  | cst (d : D)
  | bin (op : BOp) (a b : E)
  | neg (a : E)
  | not (a : E)
  | and (a b : E)
  | or (a b : E)
  | cmp (op : COp) (a b : E)
  | chain (o1 o2 : COp) (a b c : E)
  | ife (c : T) (a b : E)
  | tup (es : Es)
  | lst (es : Es)
  | dnew
  | idx (a i : E)
  | slc (a : E) (lo hi : Eo)
  | rev (a : E)
  | call (f : Nat) (as : Es)
  | prim (p : Prim) (as : Es)
  | isi (a : E) (ts : List Ty)
  | lc (vs : List Nat) (g : G) (it : It) (c : To) (elt : E)
  | lc2 (vs : List Nat) (g : G) (it : It) (c : To) (g1 : G) (it1 : It) (c1 : To) (elt : E)
  | dc (vs : List Nat) (g : G) (it : It) (c : To) (k x : E)
  | srt (a : E) (i : Nat) (k : E)
  | rg (tup : Bool) (lo : Eo) (hi : E)
inductive T where
  | and (a b : T) | or (a b : T) | not (a : T) | e (a : E)
inductive To where
  | no | yes (c : T)
inductive Es where
  | nil | cons (e : E) (r : Es) | star (e : E) (r : Es)
inductive Eo where
  | no | yes (e : E)
inductive It where
  | val (e : E) | rng (lo : Eo) (hi : E) | rng3 (lo hi st : E) | enum (e : E) | zip (a b : E) | items (e : E) | values (e : E) | revd (e : E)
end

/-! ### what operations give -/
def truD : D → Option Bool
  | .none => some false
  | .bool b => some b
  | .int i => some (i != 0)
  | .str y => if y.length ≤ sizeLine then some ((y.length : Int) != 0) else none
  | .list xs => some (!xs.isEmpty)
  | .tuple xs => some (!xs.isEmpty)
  | .dict xs => if kindOk xs (.int 0) then some (!xs.isEmpty) else none
def idxD : D → D → Option D
  | .list xs, .int i => atI xs i
  | .tuple xs, .int i => atI xs i
  | .str z, .int i => if z.length ≤ sizeLine then (atI z.cps.toList i).map fun c => .str ⟨#[c]⟩ else none
  | .dict kvs, k => if isKey k && kindOk kvs k then dget kvs k else none
  | _, _ => none
def cutL {α : Type} (xs : List α) (lo hi : Option Int) : List α := (xs.drop (HT.sIx xs.length 0 lo)).take (HT.sIx xs.length xs.length hi - HT.sIx xs.length 0 lo)
def slcD (d : D) (lo hi : Option Int) : Option D := match d with
  | .list xs => some (.list (cutL xs lo hi))
  | .tuple xs => some (.tuple (cutL xs lo hi))
  | .str z => if z.length ≤ sizeLine then some (.str (cutS z lo hi)) else none
  | _ => none
def revD : D → Option D
  | .list xs => some (.list xs.reverse)
  | _ => none
def negD : D → Option D
  | .int i => some (.int (-i))
  | _ => none
def isiD (d : D) (ts : List Ty) : Bool := ts.any fun t => match t, d with
  | .int, .int _ => true
  | .int, .bool _ => true
  | .bool, .bool _ => true
  | .str, .str _ => true
  | .list, .list _ => true
  | .tuple, .tuple _ => true
  | .dict, .dict _ => true
  | _, _ => false
/-- the ints lo .. hi - 1 -/
def rangeI (lo hi : Int) : List D := (List.range (hi - lo).toNat).map fun i => .int (lo + (i : Nat))
instance (a b : Int) : Decidable (RgOk a b) := by unfold RgOk; exact inferInstance
def rngD (lo hi : D) : Option (List D) := match lo, hi with
  | .int a, .int b => if RgOk a b then some (rangeI a b) else none
  | _, _ => none
/-- the items of a list or tuple -/
def ltD : D → Option (List D)
  | .list xs => some xs
  | .tuple xs => some xs
  | _ => none
def seqD : D → Option (List D)
  | .list xs => some xs
  | .tuple xs => some xs
  | .dict kvs => some (kvs.map (·.1))
  | _ => none
def intsD : List D → Option (List Int)
  | [] => some []
  | .int i :: r => (intsD r).map (i :: ·)
  | _ => none
def boolsD : List D → Option (List Bool)
  | [] => some []
  | .bool i :: r => (boolsD r).map (i :: ·)
  | _ => none
def allAlike (ds : List D) : Bool := ds.all fun d => ds.all fun e => PySem.W.alike d e
def isTup1 : D → Bool
  | .tuple (_ :: _) => true
  | _ => false
def noTupN : D → Bool
  | .tuple _ => false
  | .none => false
  | _ => true
def sortOk (ds : List D) : Bool := allAlike ds && (ds.all isTup1 || ds.all noTupN) && ds.all fun d => decide (d.depth ≤ 60)
def sortD (ds : List D) : List D := ds.mergeSort (PySem.W.dataLe false id)
def pairT (x y : D) : D := .tuple [x, y]
/-- zip of two lists, of two tuples -/
def zipD : D → D → Option (List D)
  | .list xs, .list ys => some (List.zipWith pairT xs ys)
  | .tuple xs, .tuple ys => some (List.zipWith pairT xs ys)
  | _, _ => none
def itemsT (kvs : List (D × D)) : List D := kvs.map fun p => .tuple [p.1, p.2]

/-! ### slots -/
mutual
def asg : G → D → Nv → Option Nv
  | .v i, d, ρ => some (ρ.set i (some (.sh d)))
  | .tup gs, .tuple ds, ρ => asgs gs ds ρ
  | .tup gs, .list ds, ρ => asgs gs ds ρ
  | .tup _, _, _ => none
def asgs : List G → List D → Nv → Option Nv
  | [], [], ρ => some ρ
  | g :: gs, d :: ds, ρ => (asg g d ρ).bind (asgs gs ds)
  | _, _, _ => none
end
def wipeN (ρ : Nv) : List Nat → Nv
  | [] => ρ
  | i :: r => (wipeN ρ r).set i none

/-- a comprehension's items, one by one -/
def lcW : List D → (D → W (Option D)) → W (List D)
  | [], _, Q => Q []
  | d :: ds, st, Q => st d fun o => lcW ds st fun r => Q (o.toList ++ r)

def bor (e : E) (ρ : Nv) (r : W D) : W D := match e with
  | .var i => lift (lookB ρ i)
  | _ => r
def arg (e : E) (ρ : Nv) (r : W D) : W B := match e with
  | .var i => lift (lookA ρ i)
  | _ => fun Q => r fun d => Q (.sh d)
/-- slots that hold nothing of one's own -/
def free (ρ : Nv) (vs : List Nat) : Bool := vs.all fun i => match ρ[i]? with
  | some (some (.own _)) => false
  | _ => true
abbrev Calls := Nat → List B → W D

/-- what repr shows -/
def showOk (d : D) : Bool := d.showable && decide (d.depth ≤ 60) && decide (d.shown.length ≤ sizeLine)
def pairsD : List D → Option (List (D × D))
  | [] => some []
  | .tuple [k, x] :: r => (pairsD r).map ((k, x) :: ·)
  | _ => none
def dput (kvs : List (D × D)) (k x : D) : List (D × D) :=
  if kvs.any (fun p => PyData.eqv p.1 k) then kvs.map (fun p => if PyData.eqv p.1 k then (p.1, x) else p) else kvs ++ [(k, x)]
def dputs (kvs ps : List (D × D)) : List (D × D) := ps.foldl (fun acc p => dput acc p.1 p.2) kvs
def isTk : D → Bool
  | .tuple ks => ks.all isKey1
  | _ => false
/-- what built-ins give -/
def primD : Prim → List D → Option D
  | .len, [.list xs] => some (.int xs.length)
  | .len, [.tuple xs] => some (.int xs.length)
  | .len, [.dict xs] => some (.int xs.length)
  | .len, [.str z] => if z.length ≤ sizeLine then some (.int z.length) else none
  | .tuple, [.list xs] => some (.tuple xs)
  | .tuple, [.tuple xs] => some (.tuple xs)
  | .list, [.list xs] => some (.list xs)
  | .list, [.tuple xs] => some (.list xs)
  | .list, [.dict kvs] => some (.list (kvs.map (·.1)))
  | .sorted, [.list xs] => if sortOk xs then some (.list (sortD xs)) else none
  | .sorted, [.tuple xs] => if sortOk xs then some (.list (sortD xs)) else none
  | .sorted, [.dict kvs] => if sortOk (kvs.map (·.1)) then some (.list (sortD (kvs.map (·.1)))) else none
  | .sum, [.list xs] => (intsD xs).map fun ns => .int ns.sum
  | .all, [.list xs] => (boolsD xs).map fun bs => .bool (bs.all id)
  | .any, [.list xs] => (boolsD xs).map fun bs => .bool (bs.any id)
  | .abs, [.int i] => some (.int (if i < 0 then -i else i))
  | .int, [.int i] => some (.int i)
  | .int, [.bool b] => some (.int (if b then 1 else 0))
  | .max, [.int i, .int j] => some (.int (if j > i then j else i))
  | .min, [.int i, .int j] => some (.int (if j < i then j else i))
  | .dictOf, [.list xs] => (pairsD xs).bind fun ps => if ps.all (fun p => isKey1 p.1) || ps.all (fun p => isTk p.1) then some (.dict (dputs [] ps)) else none
  | .repr, [d] => if showOk d then some (.str d.shown) else none
  | _, _ => none

mutual
def ev (C : Calls) : E → Nv → W D
  | .var i, ρ => lift (look ρ i)
  | .cst d, _ => fun Q => Q d
  | .bin op a b, ρ => fun Q => bor a ρ (ev C a ρ) fun x => bor b ρ (ev C b ρ) fun y => lift (binD op x y) Q
  | .neg a, ρ => fun Q => bor a ρ (ev C a ρ) fun x => lift (negD x) Q
  | .not a, ρ => fun Q => bor a ρ (ev C a ρ) fun x => lift (truD x) fun b => Q (.bool (!b))
  | .and a b, ρ => fun Q => ev C a ρ fun x => lift (truD x) fun t => if t = true then ev C b ρ Q else Q x
  | .or a b, ρ => fun Q => ev C a ρ fun x => lift (truD x) fun t => if t = true then Q x else ev C b ρ Q
  | .cmp op a b, ρ => fun Q => bor a ρ (ev C a ρ) fun x => bor b ρ (ev C b ρ) fun y => lift (copD op x y) Q
  | .chain o1 o2 a b c, ρ => fun Q => bor a ρ (ev C a ρ) fun x => bor b ρ (ev C b ρ) fun y => lift (copD o1 x y) fun z => lift (truD z) fun t =>
      if t = true then bor c ρ (ev C c ρ) fun z => lift (copD o2 y z) Q else Q (.bool false)
  | .ife c a b, ρ => fun Q => tst C c ρ fun t => if t = true then ev C a ρ Q else ev C b ρ Q
  | .tup es, ρ => fun Q => evs C es ρ fun ds => ds.length ≤ sizeLine ∧ Q (.tuple ds)
  | .lst es, ρ => fun Q => evs C es ρ fun ds => ds.length ≤ sizeLine ∧ Q (.list ds)
  | .dnew, _ => fun Q => Q (.dict [])
  | .idx a i, ρ => fun Q => bor a ρ (ev C a ρ) fun x => ev C i ρ fun y => lift (idxD x y) Q
  | .slc a lo hi, ρ => fun Q => bor a ρ (ev C a ρ) fun x => evo C lo ρ fun l => evo C hi ρ fun h => lift (slcD x l h) Q
  | .rev a, ρ => fun Q => bor a ρ (ev C a ρ) fun x => lift (revD x) Q
  | .call f as, ρ => fun Q => eva C as ρ fun bs => C f bs Q
  | .prim p as, ρ => fun Q => evb C as ρ fun ds => lift (primD p ds) Q
  | .isi a ts, ρ => fun Q => bor a ρ (ev C a ρ) fun x => Q (.bool (isiD x ts))
  | .lc vs g it c elt, ρ => fun Q => free ρ vs = true ∧ evi C true it ρ fun ds => lcW ds (fun d K => lift (asg g d (wipeN ρ vs)) fun ρ' => evc C c ρ' fun t => if t = true then ev C elt ρ' (fun y => K (some y)) else K none) fun r => Q (.list r)
  | .lc2 .., _ => fun _ => False
  | .dc .., _ => fun _ => False
  | .srt .., _ => fun _ => False
  | .rg tup lo hi, ρ => fun Q => evo C lo ρ fun l => ev C hi ρ fun h => lift (rngD (.int (l.getD 0)) h) fun ds => Q (if tup then .tuple ds else .list ds)
def tst (C : Calls) : T → Nv → W Bool
  | .and a b, ρ => fun Q => tst C a ρ fun c => if c = true then tst C b ρ Q else Q false
  | .or a b, ρ => fun Q => tst C a ρ fun c => if c = true then Q true else tst C b ρ Q
  | .not a, ρ => fun Q => tst C a ρ fun c => Q (!c)
  | .e a, ρ => fun Q => bor a ρ (ev C a ρ) fun x => lift (truD x) Q
def evs (C : Calls) : Es → Nv → W (List D)
  | .nil, _ => fun Q => Q []
  | .cons e r, ρ => fun Q => ev C e ρ fun x => evs C r ρ fun xs => Q (x :: xs)
  | .star e r, ρ => fun Q => bor e ρ (ev C e ρ) fun x => lift (ltD x) fun ys => evs C r ρ fun xs => Q (ys ++ xs)
def evb (C : Calls) : Es → Nv → W (List D)
  | .nil, _ => fun Q => Q []
  | .cons e r, ρ => fun Q => bor e ρ (ev C e ρ) fun x => evb C r ρ fun xs => Q (x :: xs)
  | .star .., _ => fun _ => False
def eva (C : Calls) : Es → Nv → W (List B)
  | .nil, _ => fun Q => Q []
  | .cons e r, ρ => fun Q => arg e ρ (ev C e ρ) fun x => eva C r ρ fun xs => Q (x :: xs)
  | .star .., _ => fun _ => False
def evo (C : Calls) : Eo → Nv → W (Option Int)
  | .no, _ => fun Q => Q none
  | .yes e, ρ => fun Q => ev C e ρ fun x => ∃ i, x = .int i ∧ Q (some i)
def evc (C : Calls) : To → Nv → W Bool
  | .no, _ => fun Q => Q true
  | .yes e, ρ => fun Q => tst C e ρ Q
def evi (C : Calls) (b : Bool) : It → Nv → W (List D)
  | .val e, ρ => fun Q => (if b = true then bor e ρ (ev C e ρ) else ev C e ρ) fun x => lift (ltD x) Q
  | .rng lo hi, ρ => fun Q => evo C lo ρ fun l => ev C hi ρ fun h => lift (rngD (.int (l.getD 0)) h) Q
  | .zip e f, ρ => fun Q => (if b = true then bor e ρ (ev C e ρ) else ev C e ρ) fun x => (if b = true then bor f ρ (ev C f ρ) else ev C f ρ) fun y => lift (zipD x y) Q
  | _, _ => fun _ => False
end
end PD
/-! PDe: slots and heap; readings of expressions. -/
namespace PD
open PySem L2

/-- the source's dict at c, its cells at l -/
def srcKV (l : Addr) (left mixed turn : Int) : List (Key × V) := [(.inr "cells", .ref l), (.inr "left", .int left), (.inr "mixed", .int mixed), (.inr "turn", .int turn)]
structure SrcH (c l : Addr) (xs : List Int) (left mixed turn : Int) (H : Hp) : Prop where
  d : H c = some (.dK (srcKV l left mixed turn))
  l : H l = some (.lst (xs.map V.int))
def SrcI (c l : Addr) (H : Hp) : Prop := ∃ xs left mixed turn, SrcH c l xs left mixed turn H
/-- the source of draws: its value, the places that its draws change, what holds of it -/
structure Src where
  v : V
  dom : Zn
  inv : Hp → Prop
  fit : ∀ H, inv H → Fit dom H
  stab : ∀ H H', inv H → (∀ a, dom a → H' a = H a) → inv H'
  shape : ∃ c l, c ≠ l ∧ v = .ref c ∧ (∀ a, dom a ↔ a = c ∨ a = l) ∧ ∀ H, inv H ↔ SrcI c l H
theorem Src.ext (S : Src) {H H' : Hp} (i : S.inv H) (e : Ext No H H') : S.inv H' := S.stab H H' i fun a ha => by
  obtain ⟨o, q, _⟩ := (S.fit H i).dom a ha
  rw [q, e a o q fun z => z]
theorem Ext.any {H H' : Hp} (N : Zn) (e : Ext No H H') : Ext N H H' := fun a o q _ => e a o q fun z => z

def OwnAt (ρ : Nv) (σ : L2.St) (a : Addr) : Prop := ∃ (i : Nat) (d : D), ρ[i]? = some (some (.own d)) ∧ σ[i]? = some (some (.ref a))
def Nn (P : Zn) (ρ : Nv) (σ : L2.St) : Zn := fun a => P a ∨ OwnAt ρ σ a

structure Rel (S : Src) (P : Zn) (ρ : Nv) (σ : L2.St) (H : Hp) : Prop where
  len : ρ.length = σ.length
  sub : ∀ a, S.dom a → P a
  fitP : Fit P H
  inv : S.inv H
  sh : ∀ (i : Nat) (d : D), ρ[i]? = some (some (.sh d)) → ∃ v, σ[i]? = some (some v) ∧ Rp (Nn P ρ σ) H v d
  own : ∀ (i : Nat) (d : D), ρ[i]? = some (some (.own d)) → ∃ a, σ[i]? = some (some (.ref a)) ∧ isL d = true ∧ RpB (Nn P ρ σ) H (.ref a) d ∧ ¬ P a
  dis : ∀ (i j : Nat) (d e : D) (a : Addr), ρ[i]? = some (some (.own d)) → ρ[j]? = some (some (.own e)) → σ[i]? = some (some (.ref a)) → σ[j]? = some (some (.ref a)) → i = j
  src : ∀ (i : Nat), ρ[i]? = some (some .src) → σ[i]? = some (some S.v)

theorem RpB.list_at {N : Zn} {H : Hp} {a : Addr} {d : D} (h : RpB N H (.ref a) d) (l : isL d = true) : ∃ o, H a = some o ∧ Mut (some o) := by
  cases h with
  | of r => cases r with
    | lst _ q _ => exact ⟨_, q, trivial⟩
    | tup _ _ => simp [isL] at l
    | dK _ q _ => exact ⟨_, q, trivial⟩
    | dT _ _ q _ => exact ⟨_, q, trivial⟩
  | lst q _ => exact ⟨_, q, trivial⟩
  | dK q _ => exact ⟨_, q, trivial⟩
  | dT _ q _ => exact ⟨_, q, trivial⟩

section
variable {S : Src} {P : Zn} {ρ : Nv} {σ : L2.St} {H H' : Hp}
theorem Rel.fit (R : Rel S P ρ σ H) : Fit (Nn P ρ σ) H := ⟨fun a h => by
  rcases h with h | ⟨i, d, h1, h2⟩
  · exact R.fitP.dom a h
  · obtain ⟨b, e, l, r, _⟩ := R.own i d h1
    rw [h2] at e; cases e
    exact r.list_at l⟩
theorem Rel.domN (R : Rel S P ρ σ H) : ∀ a, S.dom a → Nn P ρ σ a := fun a h => .inl (R.sub a h)
/-- a value whose top no draw changes -/
def RpS (S : Src) (N : Zn) (H : Hp) (v : V) (d : D) : Prop := RpB N H v d ∧ ∀ a, v = .ref a → ¬ S.dom a
theorem RpB.extA {N : Zn} {v : V} {d : D} (h : RpB N H v d) (f : Fit N H) (e : Ext N H H') (t : ∀ a o, v = .ref a → H a = some o → H' a = some o) : RpB N H' v d := by
  cases h with
  | of r => exact .of (r.ext e f)
  | lst q r => exact .lst (t _ _ rfl q) (r.ext e f)
  | dK q r => exact .dK (t _ _ rfl q) (r.ext e f)
  | dT z q r => exact .dT z (t _ _ rfl q) (r.ext e f)
theorem RpS.ext {N : Zn} {v : V} {d : D} (h : RpS S N H v d) (f : Fit N H) (hs : ∀ a, S.dom a → N a) (e : Ext S.dom H H') : RpS S N H' v d :=
  ⟨h.1.extA f (e.mono hs) fun a o ev q => e a o q (h.2 a ev), h.2⟩
theorem Rp.toS {N : Zn} {v : V} {d : D} (h : Rp N H v d) (f : Fit N H) (hs : ∀ a, S.dom a → N a) : RpS S N H v d :=
  ⟨.of h, fun a e z => by
    subst e
    have nz := hs a z
    cases h with
    | lst n _ _ => exact n nz
    | tup q _ =>
      obtain ⟨o, q', m⟩ := f.dom a nz
      rw [q] at q'; cases q'; exact m
    | dK n _ _ => exact n nz
    | dT n _ _ _ => exact n nz⟩
theorem Rel.ext (R : Rel S P ρ σ H) (e : Ext S.dom H H') (i : S.inv H') : Rel S P ρ σ H' where
  len := R.len
  sub := R.sub
  fitP := ⟨fun a h => by
    by_cases z : S.dom a
    · exact (S.fit H' i).dom a z
    · obtain ⟨o, q, m⟩ := R.fitP.dom a h
      exact ⟨o, e a o q z, m⟩⟩
  inv := i
  sh := fun i d h => by
    obtain ⟨v, q, r⟩ := R.sh i d h
    exact ⟨v, q, r.ext (e.mono R.domN) R.fit⟩
  own := fun i d h => by
    obtain ⟨a, q, l, r, n⟩ := R.own i d h
    exact ⟨a, q, l, r.extA R.fit (e.mono R.domN) (fun b o eb hb => by cases eb; exact e _ o hb fun z => n (R.sub _ z)), n⟩
  dis := R.dis
  src := R.src
theorem Rel.ext0 (R : Rel S P ρ σ H) (e : Ext No H H') : Rel S P ρ σ H' := R.ext (e.any _) (S.ext R.inv e)

/-- what is wanted behind an expression -/
def Fin (S : Src) (N : Zn) (H : Hp) (fr : Bool) (Q0 : D → Prop) (Q : VK) : Prop :=
  ∀ d, Q0 d → ∀ v H', Ext S.dom H H' → S.inv H' → Rp N H' v d → (fr = true → isL d = true → Fresh N H H' v d) → Q v H'
def FinB (S : Src) (N : Zn) (H : Hp) (Q0 : D → Prop) (Q : VK) : Prop :=
  ∀ d, Q0 d → ∀ v H', Ext S.dom H H' → S.inv H' → RpS S N H' v d → Q v H'
def frE : E → Bool
  | .bin _ _ _ => true
  | .lst _ => true
  | .dnew => true
  | .prim p _ => match p with
    | .list => true | .sorted => true | .dictOf => true | .keys => true | .values => true | .items => true | .lists => true
    | _ => false
  | .lc .. => true
  | .lc2 .. => true
  | .dc .. => true
  | .srt .. => true
  | .rg t _ _ => !t
  | .rev _ => true
  | .slc .. => true
  | _ => false
def tE (C : Calls) (e : E) : TE := fun σ H Q => ∃ S P ρ Q0, Rel S P ρ σ H ∧ ev C e ρ Q0 ∧ Fin S (Nn P ρ σ) H (frE e) Q0 Q
def tBo (C : Calls) (e : E) : TE := fun σ H Q => ∃ S P ρ Q0, Rel S P ρ σ H ∧ bor e ρ (ev C e ρ) Q0 ∧ FinB S (Nn P ρ σ) H Q0 Q
def tT (C : Calls) (c : T) : TT := fun σ H Q => ∃ S P ρ Q0, Rel S P ρ σ H ∧ tst C c ρ Q0 ∧ ∀ b, Q0 b → ∀ H', Ext S.dom H H' → S.inv H' → Q b H'
inductive RpBs (S : Src) (N : Zn) (H : Hp) : List V → List D → Prop
  | nil : RpBs S N H [] []
  | cons {v vs d ds} : RpS S N H v d → RpBs S N H vs ds → RpBs S N H (v :: vs) (d :: ds)
/-- values of a display -/
def tEs (C : Calls) (es : Es) : TA := fun σ H Q => ∃ S P ρ Q0, Rel S P ρ σ H ∧ evs C es ρ Q0 ∧ ∀ ds, Q0 ds → ∀ vs H', Ext S.dom H H' → S.inv H' → RpAll (Nn P ρ σ) H' vs ds → Q vs H'
/-- arguments that are looked at -/
def tEb (C : Calls) (es : Es) : TA := fun σ H Q => ∃ S P ρ Q0, Rel S P ρ σ H ∧ evb C es ρ Q0 ∧ ∀ ds, Q0 ds → ∀ vs H', Ext S.dom H H' → S.inv H' → RpBs S (Nn P ρ σ) H' vs ds → Q vs H'
/-- arguments that are handed on -/
inductive RpAs (S : Src) (N : Zn) (H : Hp) : List V → List B → Prop
  | nil : RpAs S N H [] []
  | sh {v vs d ds} : Rp N H v d → RpAs S N H vs ds → RpAs S N H (v :: vs) (.sh d :: ds)
  | src {vs ds} : RpAs S N H vs ds → RpAs S N H (S.v :: vs) (.src :: ds)
def tEa (C : Calls) (es : Es) : TA := fun σ H Q => ∃ S P ρ Q0, Rel S P ρ σ H ∧ eva C es ρ Q0 ∧ ∀ bs, Q0 bs → ∀ vs H', Ext S.dom H H' → S.inv H' → RpAs S (Nn P ρ σ) H' vs bs → Q vs H'
def tEo (C : Calls) (e : Eo) : TO := fun σ H Q => ∃ S P ρ Q0, Rel S P ρ σ H ∧ evo C e ρ Q0 ∧ ∀ o, Q0 o → ∀ H', Ext S.dom H H' → S.inv H' → Q o H'
theorem RpBs.ext {N : Zn} (f : Fit N H) (hs : ∀ a, S.dom a → N a) (e : Ext S.dom H H') : ∀ {vs : List V} {ds : List D}, RpBs S N H vs ds → RpBs S N H' vs ds
  | _, _, .nil => .nil
  | _, _, .cons r t => .cons (r.ext f hs e) (RpBs.ext f hs e t)
theorem RpAs.ext {N : Zn} (f : Fit N H) (e : Ext N H H') : ∀ {vs : List V} {ds : List B}, RpAs S N H vs ds → RpAs S N H' vs ds
  | _, _, .nil => .nil
  | _, _, .sh r t => .sh (r.ext e f) (RpAs.ext f e t)
  | _, _, .src t => .src (RpAs.ext f e t)
theorem RpAs.length {N : Zn} : ∀ {vs : List V} {ds : List B}, RpAs S N H vs ds → vs.length = ds.length
  | _, _, .nil => rfl
  | _, _, .sh _ t => by simp [RpAs.length t]
  | _, _, .src t => by simp [RpAs.length t]
end

theorem PE.weak {X : Cx} {x : PySem.Expr} {t t' : TE} (h : PE X x t) (w : ∀ σ H Q, t' σ H Q → t σ H Q) : PE X x t' := ⟨fun pins s σ H Q I q => h.run pins s σ H Q I (w σ H Q q)⟩
theorem PT.weak {X : Cx} {x : PySem.Expr} {t t' : TT} (h : PT X x t) (w : ∀ σ H Q, t' σ H Q → t σ H Q) : PT X x t' := ⟨fun pins s σ H Q I q => h.run pins s σ H Q I (w σ H Q q)⟩
theorem PA.weak {X : Cx} {x : List PySem.Expr} {t t' : TA} (h : PA X x t) (w : ∀ σ H Q, t' σ H Q → t σ H Q) : PA X x t' := ⟨fun p pins s σ H Q I q => h.run p pins s σ H Q I (w σ H Q q)⟩

/-! ### the readings put together -/
section
variable {C : Calls} {σ : L2.St} {H : Hp} {Q : VK}
/-- two operands, looked at -/
theorem w_op2s {a b : E} {sem : D → D → Option D} {fr : Bool} (h : ∃ S P ρ Q0, Rel S P ρ σ H ∧ (bor a ρ (ev C a ρ) fun x => bor b ρ (ev C b ρ) fun y => lift (sem x y) Q0) ∧ ∀ r, Q0 r → (∃ d e, sem d e = some r) → ∀ v H', Ext S.dom H H' → S.inv H' → Rp (Nn P ρ σ) H' v r → (fr = true → isL r = true → Fresh (Nn P ρ σ) H H' v r) → Q v H') :
    tOp (fun x y H Q => ∃ N d e r, Fit N H ∧ RpB N H x d ∧ RpB N H y e ∧ sem d e = some r ∧ Out fr N H r Q) (tBo C a) (tBo C b) σ H Q := by
  obtain ⟨S, P, ρ, Q0, R, h, q⟩ := h
  refine ⟨S, P, ρ, _, R, h, fun d hd v H1 e1 i1 r1 => ?_⟩
  have R1 := R.ext e1 i1
  refine ⟨S, P, ρ, _, R1, hd, fun d2 hd2 v2 H2 e2 i2 r2 => ?_⟩
  have R2 := R1.ext e2 i2
  obtain ⟨r, er, hq⟩ := hd2
  refine ⟨_, d, d2, r, R2.fit, (r1.ext R1.fit R1.domN e2).1, r2.1, er, fun v' H' e' rp fs => ?_⟩
  refine q r hq ⟨_, _, er⟩ v' H' ((e1.trans e2).trans (e'.any _)) (S.ext i2 e') rp fun f l => ?_
  obtain ⟨p, ep, np, rb⟩ := fs f l
  refine ⟨p, ep, ?_, rb⟩
  cases hp : H p with
  | none => rfl
  | some o =>
    by_cases z : S.dom p
    · obtain ⟨o', q', _⟩ := (S.fit H2 i2).dom p z
      rw [np] at q'; cases q'
    · have := (e1.trans e2) p o hp z
      rw [np] at this; cases this
/-- two operands, looked at -/
theorem w_op2 {a b : E} {sem : D → D → Option D} {fr : Bool} (h : ∃ S P ρ Q0, Rel S P ρ σ H ∧ (bor a ρ (ev C a ρ) fun x => bor b ρ (ev C b ρ) fun y => lift (sem x y) Q0) ∧ Fin S (Nn P ρ σ) H fr Q0 Q) :
    tOp (fun x y H Q => ∃ N d e r, Fit N H ∧ RpB N H x d ∧ RpB N H y e ∧ sem d e = some r ∧ Out fr N H r Q) (tBo C a) (tBo C b) σ H Q := by
  obtain ⟨S, P, ρ, Q0, R, h, q⟩ := h
  exact w_op2s ⟨S, P, ρ, Q0, R, h, fun r hr _ => q r hr⟩
end
end PD
/-! PDx: defs called where no guard stands (so that repr may be asked within). -/
namespace PD
open PySem L2 PySem.Spec PyProof.Rows

/-- the def at f keeps sp, wherever no guard stands -/
structure FnG (P : Program) (w : World) (K : PySem.W.Frag) (mg : Str → Option Value) (base : Heap) (k : Nat) (f : Addr) (fd : FuncData) (ps : List Str) (sp : Sp) : Prop where
  len : ∀ vs H Q E, sp vs H Q E → vs.length = ps.length
  run : ∀ (A : Around) (outer : List PySem.Env) (s : Shared) (H : Hp) (args : Args) (us : List Value) (vs : List V) (Q : VK),
    Room k A → A.guards = some [] → Env0 P w K mg base A outer s H → BindsTo s fd args (ps.zip us) → Vals vs us → sp vs H Q E0 →
    codeAny (model P w) A (.call (.ref f) args) (CR CX0 outer P w H s Q E0) s
section
variable {P : Program} {w : World} {K : PySem.W.Frag} {mg : Str → Option Value} {base : Heap} {k : Nat} {f : Addr} {fd : FuncData} {ps : List Str} {sp sp' : Sp}
theorem FnG.of (F : FnOk P w K mg base CX0 k f fd ps sp) : FnG P w K mg base k f fd ps sp :=
  ⟨F.len, fun A outer s H args us vs Q hr _ e hb hv hs => F.run A outer s H args us vs Q E0 hr e hb hv hs⟩
theorem FnG.imp (F : FnG P w K mg base k f fd ps sp) (h : ∀ vs H Q, sp' vs H Q E0 → sp vs H Q E0) (hl : ∀ vs H Q E, sp' vs H Q E → vs.length = ps.length) : FnG P w K mg base k f fd ps sp' :=
  ⟨hl, fun A outer s H args us vs Q hr hg e hb hv hs => F.run A outer s H args us vs Q hr hg e hb hv (h _ _ _ hs)⟩
theorem FnG.mono {j : Nat} (F : FnG P w K mg base j f fd ps sp) (h : j ≤ k) : FnG P w K mg base k f fd ps sp :=
  ⟨F.len, fun A outer s H args us vs Q hr => F.run A outer s H args us vs Q (hr.mono h)⟩
/-- a def of the text by its body -/
theorem Fun.okG {x qual : Str} {st : Stmt} {N : List Str} (F : Fun K x qual st f fd) (S : FnScope N ps (defScope st)) (len : ∀ vs H Q E, sp vs H Q E → vs.length = ps.length)
    (body : ∀ (cdv : Value) (A : Around) (outer : List PySem.Env) (s : Shared) (H : Hp) (vs : List V) (Q : VK), Room k (A.deeper (envOfC qual (defScope st) s.heap.objs.size f cdv)) → A.guards = some [] → sp vs H Q E0 →
      ∃ t, PSs (cxOf CX0 P w K mg base N qual (defScope st) f cdv A outer s H E0).nox (defBody st) t ∧ t { nx := fun _ H' => Q .non H', rt := Q } (start N vs) H) : FnG P w K mg base (k + 1) f fd ps sp := by
  obtain ⟨oc, od, kV, doc, pm, an, cdv, ct, osl, e, lk, hcd⟩ := F.ex
  subst e
  refine ⟨len, fun A outer s H args us vs Q hr hg e0 hb rv hsp => ?_⟩
  have n1 := len _ _ _ _ hsp
  have hin : ∀ b o, base.get? b = some o → s.heap.get? b = some o := fun b o q => (e0.bs b o q).1
  have kin : K.In s.heap := e0.mod.kin.keeps hin
  have nolim : s.heap.NoLimit := e0.mod.nolimit.keeps hin
  have kinds : ∀ y ∈ ps.zip us, (defScope st).names.lookup y.1 = some .local ∨ ((defScope st).names.lookup y.1 = some .cell ∧ ((cellsFrom (s.heap.objs.size + 1) (defScope st).names []).lookup y.1).isSome = true) := by
    rintro ⟨n, v⟩ hy
    have hn := (List.of_mem_zip hy).1
    rcases S.par n hn with q | q
    · exact Or.inl q
    · exact Or.inr ⟨q, PySem.W.cellsFrom_some _ _ _ (Or.inl q)⟩
  refine codeAny_call_function hr.depth (kin _ _ lk) rfl S.co S.gen rfl (PySem.W.codeRec_of kin hcd) (hb _ _ _ _ ?_)
  refine wpAny_newFunctionEnv_cells S.kind kinds fun env he s1 inst => ?_
  subst he
  refine ⟨nolim.keeps inst.toInCall.keep, codeAny_func ?_⟩
  obtain ⟨t, ht, ends⟩ := body cdv A outer s H vs Q (hr.deeper _) hg hsp
  have start_ok : Inv (cxOf CX0 P w K mg base N qual (defScope st) f cdv A outer s H E0) [] (start N vs) H s1 := inv_start S hr.hd e0 n1 rv inst
  refine wpAny_mono (ht.nox.run [] s1 (start N vs) H _ start_ok ends) (fun fl s2 out => ?_) fun e s2 out => out
  cases fl with
  | ret u =>
    obtain ⟨v, σ2, H2, J, rv2, q⟩ := out
    exact ⟨v, H2, J.os, J.bare, J.base, J.hok, rv2, q⟩
  | next =>
    obtain ⟨σ2, H2, J, q⟩ := out
    exact ⟨V.non, H2, J.os, J.bare, J.base, J.hok, rfl, q⟩
  | brk => obtain ⟨_, _, _, q⟩ := out; cases q
  | cont => obtain ⟨_, _, _, q⟩ := out; cases q
end
section
variable {X : Cx} {k : Nat} {f : Addr} {fd : FuncData} {ps : List Str} {sp : Sp} {x : Str} {p pos : Pos} {e : PySem.Expr} {es : List PySem.Expr} {t : TA}
theorem run_g {pins : List (Addr × Obj)} {σ : L2.St} {H : Hp} {s : Shared} {Q : VK} {us : List Value} {vs : List V} (F : FnG X.prog X.w X.K X.mg X.base k f fd ps sp) (hr : Room k X.A) (hg : X.A.guards = some []) (hb : Binds X.K fd ps [])
    (I : Inv X pins σ H s) (r : Vals vs us) (h : sp vs H Q E0) : wpAny (model X.prog X.w) X.A (call (.ref f) us) (EP X pins σ Q) X.xe s := by
  have hl : (us ++ []).length = ps.length := by
    rw [List.append_nil, ← r.length]
    exact F.len _ _ _ _ h
  have hbind := hb s us I.kIn hl
  rw [List.append_nil] at hbind
  refine wpAny_call (codeAny_mono (F.run X.A X.stack s H ⟨us, []⟩ us vs Q hr hg I.env0 hbind r h) fun res s2 out => ?_)
  cases res with
  | error e => exact False.elim out
  | ok fl => cases fl with
    | ret u => exact I.after out
    | next => exact False.elim out
    | brk => exact False.elim out
    | cont => exact False.elim out
theorem pe_callG (F : FnG X.prog X.w X.K X.mg X.base k f fd ps sp) (hr : Room k X.A) (hgd : X.A.guards = some []) (hg : Gl X x) (hm : X.mg x = some (.ref f)) (hk : PySem.W.keepIn X.K (.ref f) = true) (hb : Binds X.K fd ps [])
    (ha : PA X (e :: es) t) (hdb : (x == ("__debug__" : Str)) = false) (he : starEach (e :: es) X.env = (false, eval e X.env) :: starEach es X.env) (hpl : (backTo pos (starEach es X.env)).any (·.1) = false) :
    PE X (.Call (.Name x p) (e :: es) [] pos) (fun σ H Q => t σ H fun vs H1 => sp vs H1 Q E0) := by
  constructor
  intro pins s σ H Q I h
  refine wpAny_Call_Name_kw (ld_glob I hg hm ?_ hdb)
  refine PySem.W.callWith_K (h₀ := X.base) I.ok.mod.kin hk (thn (ha.run pos pins s σ H _ I h) ?_) he hpl
  rintro us s1 ⟨vs, H1, I1, r, q⟩
  exact ⟨I1.kIn, run_g F hr hgd hb I1 r q⟩
end
end PD
/-! PDf: is a compact body the body as written? -/
namespace PD
open PySem L2

def visB (sc : Scope) (x : Str) : Bool := match sc.names.lookup x with
  | some .local => true | some .cell => true | some .free => true | _ => false
def locB (sc : Scope) (x : Str) : Bool := match sc.names.lookup x with
  | some .local => true | some .cell => true | _ => false
def glB (sc : Scope) (x : Str) : Bool := match sc.names.lookup x with
  | some .globalImplicit => true | _ => false
def okName (x : Str) : Bool := !(x == ("__debug__" : Str)) && !(x == ("__classdict__" : Str)) && !(x == ("__name__" : Str))
def varOk (N : List Str) (sc : Scope) (i : Nat) (x : Str) : Bool := decide (N[i]? = some x) && visB sc x && okName x
def unB : PySem.Expr → PySem.Expr
  | .BoolOp _ [y] _ => y
  | x => x
def notStar : PySem.Expr → Bool
  | .Starred .. => false | _ => true
def notSlice : PySem.Expr → Bool
  | .Slice .. => false | _ => true
def notSet : PySem.Expr → Bool
  | .Set .. => false | _ => true
def cstOk : D → Const → Bool
  | .none, .none => true
  | .bool a, .bool b => a == b
  | .int a, .int b => decide (a = b)
  | .str a, .str b => decide (a = b)
  | _, _ => false
/-- a built-in by its name: its value -/
def primName : Prim → Option (Str × Bool × String)
  | .len => some ("len", false, "len") | .tuple => some ("tuple", true, "tuple") | .list => some ("list", true, "list") | .sorted => some ("sorted", false, "sorted")
  | .sum => some ("sum", false, "sum") | .max => some ("max", false, "max") | .min => some ("min", false, "min") | .abs => some ("abs", false, "abs")
  | .all => some ("all", false, "all") | .any => some ("any", false, "any") | .int => some ("int", true, "int") | .repr => some ("repr", false, "repr")
  | .dictOf => some ("dict", true, "dict")
  | _ => none
def tyS : Ty → Str
  | .int => "int" | .bool => "bool" | .str => "str" | .list => "list" | .tuple => "tuple" | .dict => "dict"
/-- the plain names of a test, by truth -/
def isTup : PySem.Expr → Bool
  | .Tuple .. => true
  | _ => false
def plainTest : PySem.Expr → Bool
  | .Name .. => true | .Call .. => true | .Subscript .. => true | .BinOp .. => true | .List .. => true | .Tuple .. => true | .ListComp .. => true | .Constant .. => true | _ => false
def isCmp : E → Bool
  | .cmp .. => true | .chain .. => true | _ => false

mutual
/-- the target of a for: names -/
def chkG (N : List Str) (sc : Scope) (own : Str → Bool) : G → PySem.Expr → Bool
  | .v i, .Name x _ => decide (N[i]? = some x) && locB sc x && own x
  | .tup gs, .Tuple es _ _ => chkGs N sc own gs es
  | _, _ => false
def chkGs (N : List Str) (sc : Scope) (own : Str → Bool) : List G → List PySem.Expr → Bool
  | [], [] => true
  | g :: gs, e :: es => chkG N sc own g e && chkGs N sc own gs es
  | _, _ => false
end
mutual
def gSlots : G → List Nat
  | .v i => [i]
  | .tup gs => gsSlots gs
def gsSlots : List G → List Nat
  | [] => []
  | g :: gs => gSlots g ++ gsSlots gs
end
mutual
def gNames : PySem.Expr → List Str
  | .Name x _ => [x]
  | .Tuple es _ _ => gsNames es
  | _ => []
def gsNames : List PySem.Expr → List Str
  | [] => []
  | e :: es => gNames e ++ gsNames es
end
def fnB (scope : Scope) (x : Str) : Bool := (scope.names.lookup x == some .cell) || (scope.names.lookup x == some .local)

section
variable (N : List Str) (tb : List (Str × Nat))
mutual
def chkE : E → Scope → PySem.Expr → Bool
  | .var i, sc, z => (match z with
    | .Name x _ => varOk N sc i x
    | _ => false)
  | .cst d, _, z => (match z with
    | .Constant c _ _ => cstOk d c
    | _ => false)
  | .bin op a b, sc, z => (match z with
    | .BinOp l o r _ => decide (bopF op = o) && chkE a sc l && chkE b sc r
    | _ => false)
  | .neg a, sc, z => (match z with
    | .UnaryOp .USub x _ => chkE a sc x
    | _ => false)
  | .not a, sc, z => (match z with
    | .UnaryOp .Not x _ => chkE a sc x
    | _ => false)
  | .and a b, sc, z => (match z with
    | .BoolOp .And (x :: y :: r) p => chkE a sc x && chkE b sc (unB (.BoolOp .And (y :: r) p))
    | _ => false)
  | .or a b, sc, z => (match z with
    | .BoolOp .Or (x :: y :: r) p => chkE a sc x && chkE b sc (unB (.BoolOp .Or (y :: r) p))
    | _ => false)
  | .cmp op a b, sc, z => (match z with
    | .Compare l [o] [r] _ => decide (copF op = o) && chkE a sc l && chkE b sc r && notSet r
    | _ => false)
  | .chain o1 o2 a b c, sc, z => (match z with
    | .Compare l [p, q] [x, y] _ => decide (copF o1 = p) && decide (copF o2 = q) && chkE a sc l && chkE b sc x && chkE c sc y && notSet y
    | _ => false)
  | .ife c a b, sc, z => (match z with
    | .IfExp t x y _ => chkT c sc t && chkE a sc x && chkE b sc y
    | _ => false)
  | .tup es, sc, z => (match z with
    | .Tuple xs _ _ => chkEs es sc xs
    | _ => false)
  | .lst es, sc, z => (match z with
    | .List xs _ => chkEs es sc xs
    | _ => false)
  | .dnew, _, z => (match z with
    | .Dict [] [] _ => true
    | _ => false)
  | .idx a i, sc, z => (match z with
    | .Subscript x y _ => notSlice y && chkE a sc x && chkE i sc y
    | _ => false)
  | .slc a lo hi, sc, z => (match z with
    | .Subscript x (.Slice l h none _) _ => chkE a sc x && chkEo lo sc l && chkEo hi sc h
    | _ => false)
  | .rev a, sc, z => (match z with
    | .Subscript x (.Slice none none (some (.UnaryOp .USub (.Constant (.int 1) _ _) _)) _) _ => chkE a sc x
    | _ => false)
  | .call f as, sc, z => (match z with
    | .Call (.Name x _) xs [] _ => (match tb[f]? with | some (nm, np) => decide (nm = x) && glB sc x && okName x && !(xs.isEmpty) && chkEs as sc xs && xs.all notStar && decide (xs.length = np) | none => false)
    | _ => false)
  | .prim p as, sc, z => (match z with
    | .Call (.Name x _) xs [] _ => (match primName p with | some (nm, _, _) => decide (nm = x) && glB sc x && !(xs.isEmpty) && chkEs as sc xs && xs.all notStar | none => false)
    | _ => false)
  | .lc vs g it c elt, sc, z => (match z with
    | .ListComp x [⟨tg, iter, ifs, 0⟩] scope _ =>      blkC N sc scope ((gNames tg).zip vs) && decide (vs = gSlots g) && decide ((gNames tg).length = vs.length) && chkG N (relS scope sc) (fnB scope) g tg && chkIt (isTup tg) it sc iter && chkTo c (relS scope sc) ifs && chkE elt (relS scope sc) x
    | _ => false)
  | .isi a ts, sc, z => (match z with
    | .Call (.Name f _) [x, .Name tn _] [] _ => (match ts with
      | [t] => decide (f = ("isinstance" : Str)) && glB sc f && decide (tn = tyS t) && glB sc tn && notStar x && chkE a sc x
      | _ => false)
    | _ => false)
  | .rg t lo hi, sc, z => (match z with
    | .Call (.Name x _) [.Call (.Name y _) xs [] _] [] _ => decide (x = (if t then ("tuple" : Str) else ("list" : Str))) && glB sc x && decide (y = ("range" : Str)) && glB sc y && (match lo, xs with
      | .no, [h] => chkE hi sc h && notStar h
      | .yes l, [a, h] => chkE l sc a && chkE hi sc h && notStar a && notStar h
      | _, _ => false)
    | _ => false)
  | _, _, _ => false
def chkT : T → Scope → PySem.Expr → Bool
  | .and a b, sc, z => (match z with
    | .BoolOp .And (x :: y :: r) p => chkT a sc x && chkT b sc (unB (.BoolOp .And (y :: r) p))
    | _ => false)
  | .or a b, sc, z => (match z with
    | .BoolOp .Or (x :: y :: r) p => chkT a sc x && chkT b sc (unB (.BoolOp .Or (y :: r) p))
    | _ => false)
  | .not a, sc, z => (match z with
    | .UnaryOp .Not x _ => chkT a sc x
    | _ => false)
  | .e a, sc, x => chkE a sc x && (plainTest x || isCmp a)
def chkTo : To → Scope → List PySem.Expr → Bool
  | .no, _, z => (match z with
    | [] => true
    | _ => false)
  | .yes c, sc, z => (match z with
    | [x] => chkT c sc x
    | _ => false)
def chkEs : Es → Scope → List PySem.Expr → Bool
  | .nil, _, z => (match z with
    | [] => true
    | _ => false)
  | .cons e r, sc, z => (match z with
    | x :: xs => notStar x && chkE e sc x && chkEs r sc xs
    | _ => false)
  | .star e r, sc, z => (match z with
    | .Starred x _ :: xs => chkE e sc x && chkEs r sc xs
    | _ => false)
def chkEo : Eo → Scope → Option PySem.Expr → Bool
  | .no, _, z => (match z with
    | none => true
    | _ => false)
  | .yes e, sc, z => (match z with
    | some x => chkE e sc x
    | _ => false)
def chkIt (tp : Bool) : It → Scope → PySem.Expr → Bool
  | .val e, sc, x => chkE e sc x && notSet x
  | .rng lo hi, sc, z => (match z with
    | .Call (.Name y _) xs [] _ => decide (y = ("range" : Str)) && glB sc y && (match lo, xs with
      | .no, [h] => chkE hi sc h && notStar h
      | .yes l, [a, h] => chkE l sc a && chkE hi sc h && notStar a && notStar h
      | _, _ => false)
    | _ => false)
  | .zip e f, sc, z => (match z with
    | .Call (.Name y _) [u, v] [] _ => tp && decide (y = ("zip" : Str)) && glB sc y && chkE e sc u && chkE f sc v && notStar u && notStar v
    | _ => false)
  | _, _, _ => false
end
end

/-- what a context must have for a text over the defs tb, called as C says -/
def spC (C : Calls) (f : Nat) : Sp := fun vs H Q E => ∃ (S : Src) (P : Zn) (bs : List B) (Q0 : D → Prop), (∀ a, S.dom a → P a) ∧ Fit P H ∧ S.inv H ∧ RpAs S P H vs bs ∧ C f bs Q0 ∧
  ∀ d, Q0 d → ∀ v H', Ext S.dom H H' → S.inv H' → Rp P H' v d → Q v H'
structure Good (tb : List (Str × Nat)) (C : Calls) (X : Cx) : Prop where
  nd : X.N.Nodup
  calm : X.calm = true
  units : X.A.units + 64 < cLine
  grd : X.A.guards = some []
  smod : ∃ o, X.base.get? sysModules = some o
  blt : ∀ x ∈ (["len", "tuple", "list", "sorted", "sum", "max", "min", "abs", "all", "any", "int", "repr", "range", "isinstance", "dict", "zip", "enumerate", "reversed", "str", "set", "bool"] : List Str), X.mg x = none
  ar : ∀ (f : Nat) (nm : Str) (np : Nat), tb[f]? = some (nm, np) → ∀ bs Q, C f bs Q → bs.length = np
  fns : ∀ (f : Nat) (nm : Str) (np : Nat), tb[f]? = some (nm, np) → ∃ k a fd ps, Room k X.A ∧ X.mg nm = some (.ref a) ∧ PySem.W.keepIn X.K (.ref a) = true ∧ Binds X.K fd ps [] ∧ FnG X.prog X.w X.K X.mg X.base k a fd ps (spC C f)
theorem Good.blk {tb : List (Str × Nat)} {C : Calls} {X : Cx} (G : Good tb C X) (s : Shared) (H : Hp) (scope : Scope) (cenv : PySem.Env) (fp : List Addr) : Good tb C (X.blk s H scope cenv fp) :=
  ⟨G.nd, G.calm, G.units, G.grd, G.smod, G.blt, G.ar, G.fns⟩
end PD
/-! PDg: expressions are as their compact forms say: single rules. -/
namespace PD
open PySem L2

section
variable {C : Calls} {X : Cx} {tb : List (Str × Nat)}
theorem fresh_trans {S : Src} {H H1 : Hp} (i : S.inv H1) (e : Ext S.dom H H1) {p : Addr} (np : H1 p = none) : H p = none := by
  cases hp : H p with
  | none => rfl
  | some o =>
    by_cases z : S.dom p
    · obtain ⟨o', q', _⟩ := (S.fit H1 i).dom p z
      rw [np] at q'; cases q'
    · have := e p o hp z
      rw [np] at this; cases this
theorem Fresh.back {S : Src} {N : Zn} {H H1 H' : Hp} {v : V} {d : D} (f : Fresh N H1 H' v d) (i : S.inv H1) (e : Ext S.dom H H1) : Fresh N H H' v d :=
  let ⟨p, ep, np, rb⟩ := f; ⟨p, ep, fresh_trans i e np, rb⟩
theorem var_of {N : List Str} {i : Nat} {x : Str} {pos : Pos} (hN : X.N = N) (h : varOk N X.env.scope i x = true) : PE X (.Name x pos) (tVar i) := by
  subst hN
  unfold varOk okName at h
  simp only [Bool.and_eq_true, decide_eq_true_eq, Bool.not_eq_true'] at h
  refine pe_var h.1.1 ?_ h.2.1.1 h.2.1.2
  have h2 := h.1.2
  unfold visB at h2
  unfold Vis
  split at h2 <;> first | exact .inl (by assumption) | exact .inr (.inl (by assumption)) | exact .inr (.inr (by assumption)) | cases h2
theorem ev_var {i : Nat} {x : PySem.Expr} (h : PE X x (tVar i)) : PE X x (tE C (.var i)) := PE.weak h fun σ H Q ⟨S, P, ρ, Q0, R, ⟨d, e, q0⟩, q⟩ => by
  unfold look at e
  split at e <;> cases e
  rename_i hd
  obtain ⟨v, hv, r⟩ := R.sh i _ hd
  exact ⟨v, hv, q _ q0 v H Ext.refl R.inv r (fun z => nomatch z)⟩
theorem bo_var {i : Nat} {x : PySem.Expr} (h : PE X x (tVar i)) : PE X x (tBo C (.var i)) := PE.weak h fun σ H Q ⟨S, P, ρ, Q0, R, ⟨d, e, q0⟩, q⟩ => by
  unfold lookB at e
  split at e <;> cases e
  · rename_i hd
    obtain ⟨v, hv, r⟩ := R.sh i _ hd
    exact ⟨v, hv, q _ q0 v H Ext.refl R.inv (r.toS R.fit R.domN)⟩
  · rename_i hd
    obtain ⟨a, hv, _, r, n⟩ := R.own i _ hd
    exact ⟨_, hv, q _ q0 _ H Ext.refl R.inv ⟨r, fun b e z => by cases e; exact n (R.sub _ z)⟩⟩
theorem bo_of {e : E} {x : PySem.Expr} (hv : ∀ i, e = .var i → PE X x (tVar i)) (h : PE X x (tE C e)) : PE X x (tBo C e) := by
  by_cases z : ∃ i, e = .var i
  · obtain ⟨i, rfl⟩ := z
    exact bo_var (hv i rfl)
  · refine PE.weak h fun σ H Q ⟨S, P, ρ, Q0, R, h, q⟩ => ⟨S, P, ρ, Q0, R, ?_, fun d hd v H' e i r _ => q d hd v H' e i (r.toS (R.ext e i).fit R.domN)⟩
    cases e <;> first | exact h | exact absurd ⟨_, rfl⟩ z
theorem ev_cst {d : D} {c : Const} {k : Nat} {p : Pos} (h : cstOk d c = true) : PE X (.Constant c k p) (tE C (.cst d)) := by
  cases d <;> cases c <;> simp only [cstOk, decide_eq_true_eq, beq_iff_eq] at h <;> first | cases h | skip
  · exact PE.weak pe_non fun σ H Q ⟨S, P, ρ, Q0, R, h, q⟩ => q _ h _ H Ext.refl R.inv .non (fun z => nomatch z)
  · exact PE.weak pe_bl fun σ H Q ⟨S, P, ρ, Q0, R, h, q⟩ => q _ h _ H Ext.refl R.inv (.bl _) (fun z => nomatch z)
  · exact PE.weak pe_int fun σ H Q ⟨S, P, ρ, Q0, R, h, q⟩ => q _ h _ H Ext.refl R.inv (.int _) (fun z => nomatch z)
  · exact PE.weak pe_str fun σ H Q ⟨S, P, ρ, Q0, R, h, q⟩ => q _ h _ H Ext.refl R.inv (.str _) (fun z => nomatch z)
theorem ev_bin {op : BOp} {a b : E} {x y : PySem.Expr} {p : Pos} (ha : PE X x (tBo C a)) (hb : PE X y (tBo C b)) : PE X (.BinOp x (bopF op) y p) (tE C (.bin op a b)) :=
  PE.weak (pe_op (op2_bin op) ha hb) fun σ H Q h => w_op2 h
theorem ev_cmp (hu : X.A.units + 64 < cLine) {op : COp} {a b : E} {x y : PySem.Expr} {p : Pos} (ha : PE X x (tBo C a)) (hb : PE X y (tBo C b)) (hs : notSet y = true) : PE X (.Compare x [copF op] [y] p) (tE C (.cmp op a b)) :=
  PE.weak (pe_cmpR (op2_cop hu op) ha hb (by cases y <;> first | rfl | cases hs)) fun σ H Q h => w_op2 h
theorem truV_of {N : Zn} {H : Hp} {K : PySem.W.Frag} {v : V} {d : D} {k : Bool} (r : RpB N H v d) (h : truD d = some k) : TruV K v H k := by
  cases d with
  | none => cases r.non_of; cases h; rfl
  | bool b => cases r.bl_of; cases h; rfl
  | int i => cases r.int_of; cases h; rfl
  | str x =>
    cases r.str_of
    simp only [truD] at h
    split at h <;> cases h
    exact ⟨by assumption, rfl⟩
  | list xs =>
    obtain ⟨a, ys, rfl, ha, rr⟩ := r.list_of
    cases h
    exact .inl ⟨ys, SqL.of ha, by cases rr <;> rfl⟩
  | tuple xs =>
    obtain ⟨a, ys, rfl, ha, rr⟩ := r.tup_of
    cases h
    exact .inr (.inl ⟨ys, SqT.of ha, by cases rr <;> rfl⟩)
  | dict kvs =>
    simp only [truD] at h
    split at h <;> cases h
    rename_i hk
    obtain ⟨a, rfl, ⟨ks, es, ha, rr, rfl⟩ | ⟨ks, es, hne, ha, rr, rfl⟩⟩ := r.dict_of
    · refine .inr (.inr ⟨ks, ha, ?_⟩)
      have := rr.length
      cases ks <;> cases es <;> simp at this ⊢
    · have hl : ks.length = es.length := by simpa using rr.length
      exact absurd (kindOk_T (k := .inl 0) hl hk) hne
end
end PD
/-! PDh: more single rules. -/
namespace PD
open PySem L2

section
variable {C : Calls} {X : Cx} {tb : List (Str × Nat)}
theorem ev_neg {a : E} {x : PySem.Expr} {p : Pos} (ha : PE X x (tBo C a)) : PE X (.UnaryOp .USub x p) (tE C (.neg a)) :=
  PE.weak (pe_un un_neg ha) fun σ H Q ⟨S, P, ρ, Q0, R, h, q⟩ => ⟨S, P, ρ, _, R, h, fun d hd v H1 e i r => by
    obtain ⟨z, ez, q0⟩ := hd
    unfold negD at ez
    split at ez <;> cases ez
    exact ⟨_, r.1.int_of, q _ q0 _ H1 e i (.int _) (fun z => nomatch z)⟩⟩
theorem ev_not {a : E} {x : PySem.Expr} {p : Pos} (ha : PE X x (tBo C a)) : PE X (.UnaryOp .Not x p) (tE C (.not a)) :=
  PE.weak (pe_notT ha) fun σ H Q ⟨S, P, ρ, Q0, R, h, q⟩ => ⟨S, P, ρ, _, R, h, fun d hd v H1 e i r => by
    obtain ⟨z, ez, q0⟩ := hd
    exact ⟨z, truV_of r.1 ez, q _ q0 _ H1 e i (.bl _) (fun z => nomatch z)⟩⟩
theorem ev_and {a b : E} {x y : PySem.Expr} {r : List PySem.Expr} {p : Pos} (ha : PE X x (tE C a)) (hb : PE X (.BoolOp .And (y :: r) p) (tE C b)) : PE X (.BoolOp .And (x :: y :: r) p) (tE C (.and a b)) :=
  PE.weak (pe_andT ha hb) fun σ H Q ⟨S, P, ρ, Q0, R, h, q⟩ => ⟨S, P, ρ, _, R, h, fun d hd v H1 e i rp _ => by
    obtain ⟨z, ez, q0⟩ := hd
    refine ⟨z, truV_of (.of rp) ez, ?_⟩
    cases z with
    | true =>
      simp only [if_true] at q0 ⊢
      exact ⟨S, P, ρ, _, R.ext e i, q0, fun d hd v H2 e2 i2 r2 _ => q d hd v H2 (e.trans e2) i2 r2 (fun z => nomatch z)⟩
    | false =>
      simp only [Bool.false_eq_true, if_false] at q0 ⊢
      exact q _ q0 v H1 e i rp (fun z => nomatch z)⟩
theorem ev_or {a b : E} {x y : PySem.Expr} {r : List PySem.Expr} {p : Pos} (ha : PE X x (tE C a)) (hb : PE X (.BoolOp .Or (y :: r) p) (tE C b)) : PE X (.BoolOp .Or (x :: y :: r) p) (tE C (.or a b)) :=
  PE.weak (pe_orT ha hb) fun σ H Q ⟨S, P, ρ, Q0, R, h, q⟩ => ⟨S, P, ρ, _, R, h, fun d hd v H1 e i rp _ => by
    obtain ⟨z, ez, q0⟩ := hd
    refine ⟨z, truV_of (.of rp) ez, ?_⟩
    cases z with
    | false =>
      simp only [Bool.false_eq_true, if_false] at q0 ⊢
      exact ⟨S, P, ρ, _, R.ext e i, q0, fun d hd v H2 e2 i2 r2 _ => q d hd v H2 (e.trans e2) i2 r2 (fun z => nomatch z)⟩
    | true =>
      simp only [if_true] at q0 ⊢
      exact q _ q0 v H1 e i rp (fun z => nomatch z)⟩
theorem ev_ife {c : T} {a b : E} {t x y : PySem.Expr} {p : Pos} (hc : PT X t (tT C c)) (ha : PE X x (tE C a)) (hb : PE X y (tE C b)) : PE X (.IfExp t x y p) (tE C (.ife c a b)) :=
  PE.weak (pe_ifExp hc ha hb) fun σ H Q ⟨S, P, ρ, Q0, R, h, q⟩ => ⟨S, P, ρ, _, R, h, fun z q0 H1 e i => by
    cases z with
    | true =>
      simp only [if_true] at q0 ⊢
      exact ⟨S, P, ρ, _, R.ext e i, q0, fun d hd v H2 e2 i2 r2 _ => q d hd v H2 (e.trans e2) i2 r2 (fun z => nomatch z)⟩
    | false =>
      simp only [Bool.false_eq_true, if_false] at q0 ⊢
      exact ⟨S, P, ρ, _, R.ext e i, q0, fun d hd v H2 e2 i2 r2 _ => q d hd v H2 (e.trans e2) i2 r2 (fun z => nomatch z)⟩⟩
theorem copD_bool {op : COp} {d e r : D} (h : copD op d e = some r) : ∃ k, r = .bool k := by
  cases op
  case is =>
    have h : isD false d e = some r := h
    unfold isD at h
    split at h
    · cases h; exact ⟨_, rfl⟩
    · obtain ⟨p, _, rfl⟩ := Option.map_eq_some_iff.mp h; exact ⟨_, rfl⟩
  case isn =>
    have h : isD true d e = some r := h
    unfold isD at h
    split at h
    · cases h; exact ⟨_, rfl⟩
    · obtain ⟨p, _, rfl⟩ := Option.map_eq_some_iff.mp h; exact ⟨_, rfl⟩
  all_goals simp only [copD, inD] at h <;> (repeat' split at h) <;> cases h <;> exact ⟨_, rfl⟩
theorem ev_chain (hu : X.A.units + 64 < cLine) {o1 o2 : COp} {a b c : E} {x y z : PySem.Expr} {p : Pos} (ha : PE X x (tBo C a)) (hb : PE X y (tBo C b)) (hc : PE X z (tBo C c)) (hs : notSet z = true) :
    PE X (.Compare x [copF o1, copF o2] [y, z] p) (tE C (.chain o1 o2 a b c)) := by
  refine PE.weak (pe_chain (op2_cop hu o1) (op2_cop hu o2) ha hb hc (by
    show behindInMarks (copF o2) z = false
    cases z <;> first | rfl | cases hs)) fun σ H Q ⟨S, P, ρ, Q0, R, h, q⟩ => ?_
  refine ⟨S, P, ρ, _, R, h, fun d hd v H1 e1 i1 r1 => ?_⟩
  have R1 := R.ext e1 i1
  refine ⟨S, P, ρ, _, R1, hd, fun d2 hd2 v2 H2 e2 i2 r2 => ?_⟩
  have R2 := R1.ext e2 i2
  obtain ⟨w, ew, k, ek, hk⟩ := hd2
  refine ⟨_, d, d2, w, R2.fit, (r1.ext R1.fit R1.domN e2).1, r2.1, ew, fun v' H' e' rp _ => ?_⟩
  obtain ⟨k', rfl⟩ := copD_bool ew
  cases ek
  cases (RpB.of rp).bl_of
  refine ⟨_, rfl, ?_⟩
  have R3 := R2.ext0 e'
  cases k with
  | false =>
    simp only [Bool.false_eq_true, if_false] at hk ⊢
    exact q _ hk _ H' ((e1.trans e2).trans (e'.any _)) R3.inv (.bl _) (fun z => nomatch z)
  | true =>
    simp only [if_true] at hk ⊢
    refine ⟨S, P, ρ, _, R3, hk, fun d3 hd3 v3 H3 e3 i3 r3 => ?_⟩
    have R4 := R3.ext e3 i3
    obtain ⟨u, eu, q0⟩ := hd3
    refine ⟨_, d2, d3, u, R4.fit, ((r2.ext R2.fit R2.domN (e'.any _)).ext R3.fit R3.domN e3).1, r3.1, eu, fun v4 H4 e4 rp4 _ => ?_⟩
    exact q u q0 v4 H4 ((((e1.trans e2).trans (e'.any _)).trans e3).trans (e4.any _)) (S.ext i3 e4) rp4 (fun z => nomatch z)
theorem ev_tup {es : Es} {xs : List PySem.Expr} {k : Nat} {p : Pos} (h : PA X xs (tEs C es)) : PE X (.Tuple xs k p) (tE C (.tup es)) :=
  PE.weak (pe_tup h) fun σ H Q ⟨S, P, ρ, Q0, R, h, q⟩ => ⟨S, P, ρ, _, R, h, fun ds ⟨hl, q0⟩ vs H1 e i r => ⟨by rw [r.length]; exact hl, fun p hp => by
    have R1 := R.ext e i
    exact q _ q0 _ _ (e.trans (Ext.new hp)) (S.ext i (Ext.new hp)) (.tup upd_same (r.ext (Ext.new hp) R1.fit)) (fun z => nomatch z)⟩⟩
theorem ev_lst {es : Es} {xs : List PySem.Expr} {p : Pos} (h : PA X xs (tEs C es)) : PE X (.List xs p) (tE C (.lst es)) :=
  PE.weak (pe_lst h) fun σ H Q ⟨S, P, ρ, Q0, R, h, q⟩ => ⟨S, P, ρ, _, R, h, fun ds ⟨hl, q0⟩ vs H1 e i r => ⟨by rw [r.length]; exact hl, fun p hp => by
    have R1 := R.ext e i
    exact q _ q0 _ _ (e.trans (Ext.new hp)) (S.ext i (Ext.new hp)) (.lst (R1.fit.ne hp) upd_same (r.ext (Ext.new hp) R1.fit)) (fun _ _ => (freshL R1.fit r hp).back i e)⟩⟩
theorem ev_dnew {p : Pos} : PE X (.Dict [] [] p) (tE C .dnew) :=
  PE.weak pe_dnewK fun σ H Q ⟨S, P, ρ, Q0, R, h, q⟩ => fun p hp =>
    q _ h _ _ (Ext.new hp) (S.ext R.inv (Ext.new hp)) (.dK (kvs := []) (ds := []) (R.fit.ne hp) upd_same .nil) (fun _ _ => ⟨p, rfl, hp, .dK (kvs := []) (ds := []) upd_same .nil⟩)

/-! subscripts -/
theorem atI_rp {N : Zn} {H : Hp} {vs : List V} {ds : List D} (r : RpAll N H vs ds) {i : Int} {d : D} (h : atI ds i = some d) : ∃ v, atI vs i = some v ∧ Rp N H v d := by
  unfold atI at h ⊢
  rw [r.length]
  obtain ⟨j, hj, h⟩ := Option.bind_eq_some_iff.mp h
  obtain ⟨v, hv, rv⟩ := r.get' h
  exact ⟨v, by rw [hj]; exact hv, rv⟩
theorem ix_any (hu : X.A.units + 64 < cLine) : IxR X (fun x y H Q => ∃ N d e r, Fit N H ∧ RpB N H x d ∧ RpB N H y e ∧ idxD d e = some r ∧ Out false N H r Q) := by
  intro value slice pins s σ H x y v u Q I rx ry h hs
  obtain ⟨N, d, e, r, f, hx, hy, hi, o⟩ := h
  unfold idxD at hi
  split at hi
  · obtain ⟨a, xs, rfl, ha, rr⟩ := hx.list_of
    obtain ⟨w, hw, rw'⟩ := atI_rp rr hi
    exact ix_list value slice pins s σ H _ _ v u Q I rx ry ⟨a, xs, _, w, rfl, hy.int_of, SqL.of ha, hw, o.old rw'⟩ hs
  · obtain ⟨a, xs, rfl, ha, rr⟩ := hx.tup_of
    obtain ⟨w, hw, rw'⟩ := atI_rp rr hi
    exact ix_tup value slice pins s σ H _ _ v u Q I rx ry ⟨a, xs, _, w, rfl, hy.int_of, SqT.of ha, hw, o.old rw'⟩ hs
  · split at hi
    · obtain ⟨c, hc, rfl⟩ := Option.map_eq_some_iff.mp hi
      exact ix_str value slice pins s σ H _ _ v u Q I rx ry ⟨_, _, c, hx.str_of, hy.int_of, by assumption, hc, o.old (.str _)⟩ hs
    · cases hi
  · split at hi
    · rename_i hk
      rw [Bool.and_eq_true] at hk
      obtain ⟨a, H2, ov, rfl, I2, g, back, hv⟩ := dict_at I hx hy hk.1 hk.2
      rcases hv with ⟨w, e', h1, h2, h3⟩ | ⟨h1, h2⟩
      · rw [h2] at hi; cases hi
        subst h1
        cases rx
        exact PyProof.Rows.tail_any (dict_typeIs I2 g) PySem.F.slot_dict_getitem.lookup (d_getItem (by omega) I2 g ry fun w' s' I' rw' => ⟨w, H, back s' I', rw', o.old h3⟩) hs
      · rw [h2] at hi; cases hi
    · cases hi
  · cases hi
theorem plainIx_of {y : PySem.Expr} (h : notSlice y = true) : PlainIx y := by
  intro o i
  cases y <;> first | rfl | cases h
theorem ev_idx (hu : X.A.units + 64 < cLine) {a i : E} {x y : PySem.Expr} {p : Pos} (ha : PE X x (tBo C a)) (hb : PE X y (tE C i)) (hs : notSlice y = true) : PE X (.Subscript x y p) (tE C (.idx a i)) :=
  PE.weak (pe_ix (ix_any hu) ha hb (plainIx_of hs)) fun σ H Q ⟨S, P, ρ, Q0, R, h, q⟩ => ⟨S, P, ρ, _, R, h, fun d hd v H1 e1 i1 r1 => by
    have R1 := R.ext e1 i1
    refine ⟨S, P, ρ, _, R1, hd, fun d2 hd2 v2 H2 e2 i2 r2 _ => ?_⟩
    have R2 := R1.ext e2 i2
    obtain ⟨r, er, q0⟩ := hd2
    exact ⟨_, d, d2, r, R2.fit, (r1.ext R1.fit R1.domN e2).1, .of r2, er, fun v' H' e' rp _ => q r q0 v' H' ((e1.trans e2).trans (e'.any _)) (S.ext i2 e') rp (fun z => nomatch z)⟩⟩
theorem cutV_rp {N : Zn} {H : Hp} {vs : List V} {ds : List D} (r : RpAll N H vs ds) (lo hi : Option Int) : RpAll N H (cutV vs lo hi) (cutL ds lo hi) := by
  unfold cutV cutL
  rw [r.length]
  exact (r.drop _).take _
theorem sl_any : SlR X (fun x lo hi H Q => ∃ N d r, Fit N H ∧ RpB N H x d ∧ slcD d lo hi = some r ∧ Out true N H r Q) := by
  intro pins s σ H x v vl vu lo hi sl Q I rx hs pl pu h
  obtain ⟨N, d, r, f, hx, hi', o⟩ := h
  unfold slcD at hi'
  split at hi'
  · cases hi'
    obtain ⟨a, xs, rfl, ha, rr⟩ := hx.list_of
    exact sl_list pins s σ H _ v vl vu lo hi sl Q I rx hs pl pu ⟨a, xs, rfl, SqL.of ha, o.newL f (cutV_rp rr lo hi)⟩
  · cases hi'
    obtain ⟨a, xs, rfl, ha, rr⟩ := hx.tup_of
    refine sl_tupA pins s σ H _ v vl vu lo hi sl Q I rx hs pl pu ⟨a, xs, rfl, SqT.of ha, fun hw => ?_, fun _ => o.newT f (cutV_rp rr lo hi)⟩
    have : cutV xs lo hi = xs := by
      unfold cutV
      rw [hw.1, hw.2]
      simp
    refine o.imm (.tup ha ?_) rfl
    have h2 := cutV_rp rr lo hi
    rw [this] at h2
    exact h2
  · split at hi' <;> cases hi'
    exact sl_str pins s σ H _ v vl vu lo hi sl Q I rx hs pl pu ⟨_, hx.str_of, by assumption, o.imm (.str _) rfl⟩
  · cases hi'
theorem ev_slc {a : E} {lo hi : Eo} {x : PySem.Expr} {l h : Option PySem.Expr} {p p2 : Pos} (ha : PE X x (tBo C a)) (hl : PO X l (tEo C lo)) (hh : PO X h (tEo C hi)) : PE X (.Subscript x (.Slice l h none p2) p) (tE C (.slc a lo hi)) :=
  PE.weak (pe_slice sl_any ha hl hh) fun σ H Q ⟨S, P, ρ, Q0, R, h, q⟩ => ⟨S, P, ρ, _, R, h, fun d hd v H1 e1 i1 r1 => by
    have R1 := R.ext e1 i1
    refine ⟨S, P, ρ, _, R1, hd, fun o1 hd2 H2 e2 i2 => ?_⟩
    have R2 := R1.ext e2 i2
    refine ⟨S, P, ρ, _, R2, hd2, fun o2 hd3 H3 e3 i3 => ?_⟩
    have R3 := R2.ext e3 i3
    obtain ⟨r, er, q0⟩ := hd3
    refine ⟨_, d, r, R3.fit, (r1.ext R1.fit R1.domN (e2.trans e3)).1, er, fun v' H' e' rp fs => ?_⟩
    have ee := (e1.trans e2).trans e3
    refine q r q0 v' H' (ee.trans (e'.any _)) (S.ext i3 e') rp fun f l => ?_
    exact (fs f l).back i3 ee⟩
theorem ev_rev {a : E} {x : PySem.Expr} {k : Nat} {p1 p2 p3 p : Pos} (ha : PE X x (tBo C a)) : PE X (.Subscript x (.Slice none none (some (.UnaryOp .USub (.Constant (.int 1) k p1) p2)) p3) p) (tE C (.rev a)) :=
  PE.weak (pe_revL ha) fun σ H Q ⟨S, P, ρ, Q0, R, h, q⟩ => ⟨S, P, ρ, _, R, h, fun d hd v H1 e i r => by
    have R1 := R.ext e i
    obtain ⟨z, ez, q0⟩ := hd
    cases d <;> simp only [revD] at ez <;> cases ez
    obtain ⟨a, ys, rfl, hy, rr⟩ := r.1.list_of
    exact ⟨a, ys, rfl, SqL.of hy, fun p hp => q _ q0 _ _ (e.trans (Ext.new hp)) (S.ext i (Ext.new hp)) (.lst (R1.fit.ne hp) upd_same (rr.reverse.ext (Ext.new hp) R1.fit)) (fun _ _ => (freshL R1.fit rr.reverse hp).back i e)⟩⟩

/-! parts, arguments -/
theorem eo_no : PO X none (tEo C .no) := ⟨fun pins s σ H Q I ⟨S, P, ρ, Q0, R, h, q⟩ => po_none.run pins s σ H Q I (q _ h H Ext.refl R.inv)⟩
theorem eo_yes {e : E} {x : PySem.Expr} (h : PE X x (tE C e)) : PO X (some x) (tEo C (.yes e)) := ⟨fun pins s σ H Q I ⟨S, P, ρ, Q0, R, hh, q⟩ => (po_some h).run pins s σ H Q I
  ⟨S, P, ρ, _, R, hh, fun d hd v H1 e i r _ => by
    obtain ⟨j, rfl, q0⟩ := hd
    exact ⟨j, (RpB.of r).int_of, q _ q0 H1 e i⟩⟩⟩
theorem es_nil : PA X [] (tEs C .nil) := PA.weak pa_nil fun σ H Q ⟨S, P, ρ, Q0, R, h, q⟩ => q _ h _ H Ext.refl R.inv .nil
theorem star_eq {x : PySem.Expr} {xs : List PySem.Expr} {env : PySem.Env} (h : notStar x = true) : starEach (x :: xs) env = (false, eval x env) :: starEach xs env := by
  cases x <;> first | rfl | cases h
theorem es_cons {e : E} {r : Es} {x : PySem.Expr} {xs : List PySem.Expr} (hx : notStar x = true) (h : PE X x (tE C e)) (hr : PA X xs (tEs C r)) : PA X (x :: xs) (tEs C (.cons e r)) :=
  PA.weak (pa_cons h hr (star_eq hx)) fun σ H Q ⟨S, P, ρ, Q0, R, h, q⟩ => ⟨S, P, ρ, _, R, h, fun d hd v H1 e i rp _ => by
    have R1 := R.ext e i
    exact ⟨S, P, ρ, _, R1, hd, fun ds hds vs H2 e2 i2 r2 => q _ hds _ H2 (e.trans e2) i2 (.cons (rp.ext (e2.mono R1.domN) R1.fit) r2)⟩⟩
theorem es_star {e : E} {r : Es} {x : PySem.Expr} {p : Pos} {xs : List PySem.Expr} (h : PE X x (tBo C e)) (hr : PA X xs (tEs C r)) : PA X (.Starred x p :: xs) (tEs C (.star e r)) :=
  PA.weak (StX.pa_star h hr) fun σ H Q ⟨S, P, ρ, Q0, R, h, q⟩ => ⟨S, P, ρ, _, R, h, fun d hd v H1 e i rp => by
    have R1 := R.ext e i
    obtain ⟨ys, ey, hd⟩ := hd
    have key : ∃ a vs, v = .ref a ∧ (SqT X.K H1 a vs ∨ SqL X.K H1 a vs) ∧ RpAll (Nn P ρ σ) H1 vs ys := by
      cases d <;> simp only [ltD] at ey <;> cases ey
      · obtain ⟨a, vs, e1, h1, r1⟩ := rp.1.list_of
        exact ⟨a, vs, e1, .inr (SqL.of h1), r1⟩
      · obtain ⟨a, vs, e1, h1, r1⟩ := rp.1.tup_of
        exact ⟨a, vs, e1, .inl (SqT.of h1), r1⟩
    obtain ⟨a, vs, e1, h1, r1⟩ := key
    exact ⟨a, vs, e1, h1, S, P, ρ, _, R1, hd, fun ds hds ws H2 e2 i2 r2 => q _ hds _ H2 (e.trans e2) i2 ((r1.ext (e2.mono R1.domN) R1.fit).append r2)⟩⟩
theorem eb_nil : PA X [] (tEb C .nil) := PA.weak pa_nil fun σ H Q ⟨S, P, ρ, Q0, R, h, q⟩ => q _ h _ H Ext.refl R.inv .nil
theorem eb_cons {e : E} {r : Es} {x : PySem.Expr} {xs : List PySem.Expr} (hx : notStar x = true) (h : PE X x (tBo C e)) (hr : PA X xs (tEb C r)) : PA X (x :: xs) (tEb C (.cons e r)) :=
  PA.weak (pa_cons h hr (star_eq hx)) fun σ H Q ⟨S, P, ρ, Q0, R, h, q⟩ => ⟨S, P, ρ, _, R, h, fun d hd v H1 e i rp => by
    have R1 := R.ext e i
    exact ⟨S, P, ρ, _, R1, hd, fun ds hds vs H2 e2 i2 r2 => q _ hds _ H2 (e.trans e2) i2 (.cons (rp.ext R1.fit R1.domN e2) r2)⟩⟩
theorem ea_nil : PA X [] (tEa C .nil) := PA.weak pa_nil fun σ H Q ⟨S, P, ρ, Q0, R, h, q⟩ => q _ h _ H Ext.refl R.inv .nil
theorem ea_var {i : Nat} {r : Es} {x : PySem.Expr} {xs : List PySem.Expr} (hx : notStar x = true) (h : PE X x (tVar i)) (hr : PA X xs (tEa C r)) : PA X (x :: xs) (tEa C (.cons (.var i) r)) :=
  PA.weak (pa_cons h hr (star_eq hx)) fun σ H Q ⟨S, P, ρ, Q0, R, ⟨b, eb, h⟩, q⟩ => by
    unfold lookA at eb
    split at eb <;> cases eb
    · rename_i hd
      obtain ⟨v, hv, rv⟩ := R.sh i _ hd
      exact ⟨v, hv, S, P, ρ, _, R, h, fun ds hds vs H2 e2 i2 r2 => q _ hds _ H2 e2 i2 (.sh (rv.ext (e2.mono R.domN) R.fit) r2)⟩
    · rename_i hd
      exact ⟨_, R.src i hd, S, P, ρ, _, R, h, fun ds hds vs H2 e2 i2 r2 => q _ hds _ H2 e2 i2 (.src r2)⟩
theorem ea_cons {e : E} {r : Es} {x : PySem.Expr} {xs : List PySem.Expr} (hx : notStar x = true) (hv : ∀ i, e = .var i → PE X x (tVar i)) (h : PE X x (tE C e)) (hr : PA X xs (tEa C r)) : PA X (x :: xs) (tEa C (.cons e r)) := by
  by_cases z : ∃ i, e = .var i
  · obtain ⟨i, rfl⟩ := z
    exact ea_var hx (hv i rfl) hr
  · refine PA.weak (pa_cons h hr (star_eq hx)) fun σ H Q ⟨S, P, ρ, Q0, R, h, q⟩ => ⟨S, P, ρ, (fun d => eva C r ρ fun xs => Q0 (.sh d :: xs)), R, ?_, fun d hd v H1 e i rp _ => by
      have R1 := R.ext e i
      exact ⟨S, P, ρ, _, R1, hd, fun ds hds vs H2 e2 i2 r2 => q _ hds _ H2 (e.trans e2) i2 (.sh (rp.ext (e2.mono R1.domN) R1.fit) r2)⟩⟩
    cases e <;> first | exact h | exact absurd ⟨_, rfl⟩ z
end
end PD
/-! PDi: what built-ins give. -/
namespace PD
open PySem L2 PyProof.Rows

/-! ### collecting -/
section
variable {prog : Program} {w : World} {A : Around} {E : Value → Shared → Prop} {s : Shared}
theorem collect_tup {l : Addr} {vs : List Value} {Q : List Value → Shared → Prop} (hl : IsTup s.heap l vs.toArray)
    (h : Q vs { s with heap := (s.heap.push (PyProof.Rows.seqObj "list" #[] 0)).update s.heap.objs.size (Obj.mapSeq (· ++ vs.toArray)) }) (hsz : vs.length ≤ sizeLine) :
    wpAny (model prog w) A (collect (.ref l)) Q E s := by
  obtain ⟨o, ho, hc, n, hd⟩ := id hl
  unfold collect
  refine wpAny_bind (wpAny_runValue (codeAny_builtin PyProof.Rows.entry_proto_collect' ?_))
  show wpAny _ _ (do again (.builtin "list.__iadd__" ⟨[← newList [], .ref l], []⟩)) _ _ s
  refine wpAny_bind (wpAny_newList (wpAny_pure ⟨Code.quiet_builtin _ (by decide +kernel), codeAny_builtin PyProof.Rows.entry_list_iadd' ?_⟩))
  show wpAny _ _ (Builtin.List.listExtendWith (.ref s.heap.objs.size) (.ref l) (.ref s.heap.objs.size)) _ _ { s with heap := s.heap.push (PyProof.Rows.seqObj "list" #[] 0) }
  unfold Builtin.List.listExtendWith
  have ho' : (s.heap.push (PyProof.Rows.seqObj "list" #[] 0)).get? l = some o := Heap.get?_push_of_some _ ho
  refine wpAny_bind (wpAny_typeOf (T := "tuple") ⟨o, ho', hc⟩ ?_)
  have ht : (Value.type "tuple" == Value.type "tuple") = true := by rfl
  rw [if_pos (by rw [ht]; simp)]
  refine wpAny_bind (PyProof.Rows.listItems_at ho' hd ?_)
  refine wpAny_bind (PyProof.Rows.listItems_at (xs := #[]) (n := 0) (Heap.get?_push_size _ rfl) rfl ?_)
  rw [if_neg (by simp)]
  refine wpAny_bind (PyProof.Rows.listUpdate_at (xs := #[]) (n := 0) (Heap.get?_push_size _ rfl) rfl ?_ (Nat.zero_le _) (by show (#[] ++ vs.toArray).size ≤ sizeLine + 1; simp only [Array.size_append, List.size_toArray, List.length_nil]; omega))
  refine wpAny_pure ?_
  show wpAny (model prog w) A (do
      let o ← load s.heap.objs.size
      match o.data with
      | .seq xs _ => pure xs.toList
      | _ => unsupported "internal:collect") Q E _
  refine wpAny_bind (wpAny_load (get?_update_seq (Heap.get?_push_size _ rfl) _) ?_)
  show wpAny _ _ (pure ((#[] : Array Value) ++ vs.toArray).toList) Q E _
  rw [show ((#[] : Array Value) ++ vs.toArray).toList = vs by simp]
  exact wpAny_pure h
end
section
variable {X : Cx} {pins : List (Addr × Obj)} {σ : L2.St} {H : Hp} {s : Shared} {N : Zn}
theorem pairs_keys {P : Program} {w : World} : ∀ {es : List DictEntry} {vs : List (Key × Value)}, Pairs (mixKind P w) es vs → Vals ((vs.map (·.1)).map kV) (es.map (·.key))
  | _, _, .nil => .nil
  | _, _, .cons h1 _ t => .cons (keyIs_rel h1) (pairs_keys t)
theorem rp_key (k : Key) : Rp N H (kV k) (keyD k) := by
  cases k with
  | inl i => exact .int i
  | inr x => exact .str x
theorem rp_keys : ∀ ks : List Key, RpAll N H (ks.map kV) (ks.map keyD)
  | [] => .nil
  | k :: ks => .cons (rp_key k) (rp_keys ks)
theorem refs_entries {P : Program} {w : World} : ∀ xs : List (List Key × Addr × Value), Vals (xs.map fun x => V.ref x.2.1) ((xs.map (entryOfKey (tupleKind (mixKind P w)))).map (·.key))
  | [] => .nil
  | _ :: xs => .cons rfl (refs_entries xs)
theorem rpT_keys : ∀ {ks : List (List Key × V)} {xs : List (List Key × Addr × Value)}, KT H ks xs → RpAll N H (xs.map fun x => V.ref x.2.1) (ks.map fun p => tkeyD p.1)
  | _, _, .nil => .nil
  | _, _, .cons h1 t => .cons (.tup h1.2.1 (rp_keys _)) (rpT_keys t)
/-- a dict as it stands: its keys in order -/
theorem dict_raw (I : Inv X pins σ H s) {a : Addr} {kvs : List (D × D)} (f : Fit N H) (h : RpB N H (.ref a) (.dict kvs)) :
    ∃ o es ep vs, s.heap.get? a = some o ∧ o.ExactDict ∧ o.data = .dict es ep ∧ (a == sysModules) = false ∧ Vals vs (es.toList.map (·.key)) ∧ RpAll N H vs (kvs.map (·.1)) ∧ kvs.length ≤ sizeLine := by
  obtain ⟨b, eb, ⟨ks, ds, ha, r, rfl⟩ | ⟨ks, ds, hne, ha, r, rfl⟩⟩ := h.dict_of
  · cases eb
    have hl : ks.length = ds.length := by simpa using r.length
    obtain ⟨z, lo, vs, rel, o, es, ep, ho, hx, hd, _, hp, _⟩ := dk_of I.hok ha
    refine ⟨o, es, ep, (ks.map (·.1)).map kV, ho, hx, hd, lo, ?_, ?_, by simpa [List.length_zip, ← hl] using z⟩
    · rw [KV.keys rel]; exact pairs_keys hp
    · rw [map_fst_zip' (by simpa using hl), show ks.map (fun p => keyD p.1) = (ks.map (·.1)).map keyD by rw [List.map_map]; rfl]
      exact rp_keys _
  · cases eb
    have hl : ks.length = ds.length := by simpa using r.length
    obtain ⟨z, lo, xs, rel, o, es, ep, ho, hx, hd, he, _, _⟩ := dt_of I.hok ha
    refine ⟨o, es, ep, xs.map (fun x => V.ref x.2.1), ho, hx, hd, lo, ?_, ?_, by simpa [List.length_zip, ← hl] using z⟩
    · rw [he]; exact refs_entries xs
    · rw [map_fst_zip' (by simpa using hl)]; exact rpT_keys rel
/-- the items collected of a list, a tuple, a dict -/
theorem collect_rp (hc : X.calm = true) (I : Inv X pins σ H s) {A : Around} (hA : A.handled = X.A.handled) {v : V} {d : D} {u : Value} {ds : List D} (f : Fit N H) (h : RpB N H v d) (r : RelV v u) (hs : seqD d = some ds) {E : Value → Shared → Prop} {Q : List Value → Shared → Prop}
    (hq : ∀ s' us vs, Inv X pins σ H s' → Vals vs us → RpAll N H vs ds → ds.length ≤ sizeLine → Q us s') : wpAny (model X.prog X.w) A (collect u) Q E s := by
  cases d with
  | list xs =>
    cases hs
    obtain ⟨a, vs, rfl, ha, rr⟩ := h.list_of
    cases r
    obtain ⟨its, rv, p, hz⟩ := I.list (SqL.of ha)
    have h1 := rv.length
    have h2 := rr.length
    refine collect_list p.isList ?_ (by omega)
    refine hq { s with heap := _ } _ vs (I.kept (t' := s.toks) fun b o q => ?_) rv rr (by omega)
    rw [Heap.get?_update_ne _ _ _ _ (Nat.ne_of_lt (Heap.lt_size q))]
    exact Heap.get?_push_of_some _ q
  | tuple xs =>
    cases hs
    obtain ⟨a, vs, rfl, ha, rr⟩ := h.tup_of
    cases r
    obtain ⟨its, rv, p, hz⟩ := I.tuple (SqT.of ha)
    have h1 := rv.length
    have h2 := rr.length
    refine collect_tup p ?_ (by omega)
    refine hq { s with heap := _ } _ vs (I.kept (t' := s.toks) fun b o q => ?_) rv rr (by omega)
    rw [Heap.get?_update_ne _ _ _ _ (Nat.ne_of_lt (Heap.lt_size q))]
    exact Heap.get?_push_of_some _ q
  | dict kvs =>
    cases hs
    obtain ⟨a, rfl, _⟩ := h.dict_of
    cases r
    obtain ⟨o, es, ep, vs, ho, hx, hd, lo, rv, rr, hz⟩ := dict_raw I f h
    have h1 : es.size = kvs.length := by
      have e1 := rv.length
      have e2 := rr.length
      simp at e1 e2
      omega
    refine PySem.W.kdu_collect (kdl_raw lo hx hd) (by rw [hA]; exact I.ok.hd hc) ho (by omega) fun h' tk acc hk hacc => ?_
    have e : acc.toList = es.toList.map (·.key) := by
      apply List.ext_getElem?
      intro j
      rw [List.getElem?_map]
      cases hj : acc.toList[j]? with
      | none =>
        have q1 := List.getElem?_eq_none_iff.mp hj
        have q2 : acc.size = es.size := hacc.1
        rw [List.getElem?_eq_none (by simp at q1 ⊢; omega)]; rfl
      | some v =>
        obtain ⟨en, he, ev⟩ := hacc.2 j v (by rw [← Array.getElem?_toList]; exact hj)
        rw [Array.getElem?_toList, he, ev]; rfl
    refine hq { s with heap := h', toks := tk } _ vs (I.kept hk) (by rw [e]; exact rv) rr (by rw [List.length_map]; exact hz)
  | none => cases hs
  | bool b => cases hs
  | int i => cases hs
  | str x => cases hs
end
end PD
/-! PDj: sorted, list, tuple, len and so on, by data. -/
namespace PD
open PySem L2 PyProof.Rows PySem.W

section
variable {X : Cx} {pins : List (Addr × Obj)} {σ : L2.St} {H : Hp} {s : Shared} {N : Zn}
theorem each_of : ∀ {vs : List V} {us : List Value} {ds : List D}, Vals vs us → RpAll N H vs ds → EachIs (fun u (p : V × D) => L2.RelV p.1 u ∧ Rp N H p.1 p.2) us (vs.zip ds)
  | _, _, _, .nil, .nil => .nil
  | _, _, _, .cons r t, .cons q u => .cons ⟨r, q⟩ (each_of t u)
theorem of_each : ∀ {us : List Value} {ps : List (V × D)}, EachIs (fun u (p : V × D) => L2.RelV p.1 u ∧ Rp N H p.1 p.2) us ps → Vals (ps.map (·.1)) us ∧ RpAll N H (ps.map (·.1)) (ps.map (·.2))
  | _, _, .nil => ⟨.nil, .nil⟩
  | _, _, .cons h t => let ⟨a, b⟩ := of_each t; ⟨.cons h.1 a, .cons h.2 b⟩
theorem allAlike_of {ds : List D} (h : allAlike ds = true) : AllAlike ds := fun d hd e he => List.all_eq_true.mp (List.all_eq_true.mp h d hd) e he
theorem sortOk_of {ds : List D} (h : sortOk ds = true) : AllAlike ds ∧ Sortable ds ∧ ∀ d ∈ ds, d.depth ≤ 60 := by
  unfold sortOk at h
  simp only [Bool.and_eq_true, Bool.or_eq_true] at h
  refine ⟨allAlike_of h.1.1, ?_, fun d hd => of_decide_eq_true (List.all_eq_true.mp h.2 d hd)⟩
  rcases h.1.2 with q | q
  · refine .inl fun d hd => ?_
    have := List.all_eq_true.mp q d hd
    cases d <;> simp [isTup1] at this
    rename_i xs
    cases xs <;> simp [isTup1] at this
    exact ⟨_, _, rfl⟩
  · refine .inr fun d hd => ?_
    have := List.all_eq_true.mp q d hd
    cases d <;> simp [noTupN] at this ⊢
theorem sorted_rp (hc : X.calm = true) (hu : X.A.units + 64 < cLine) (I : Inv X pins σ H s) {v : V} {d : D} {u : Value} {ds : List D} (f : Fit N H) (h : RpB N H v d) (r : L2.RelV v u) (hs : seqD d = some ds) (ok : sortOk ds = true) {E : Value → Shared → Prop} {Q : VK} (o : Out true N H (.list (sortD ds)) Q) :
    wpAny (model X.prog X.w) X.A (call (.builtin "sorted") [u]) (EP X pins σ Q) E s := by
  obtain ⟨hal, hso, hdp⟩ := sortOk_of ok
  refine Calls.call_function_entry PyProof.Rows.kind_sorted PyProof.Rows.plain_sorted PyProof.Rows.entry_sorted (PyProof.Rows.args_sorted1 _) ?_
  unfold Builtin.«sorted»
  refine wpAny_bind (m := checkCount "sorted" 1 1 _) (wpAny_pure ?_)
  refine wpAny_bind (collect_rp hc I (A := X.A.in1) rfl f h r hs fun s' us vs I' rv rr hz => ?_)
  have hl := rv.length
  have hl2 := rr.length
  have hn : H s'.heap.objs.size = none := I'.hok.fresh (Nat.le_refl _)
  refine wpAny_bind (wpAny_newList ?_ (by omega))
  have hoL : (s'.heap.push (seqObj "list" us.toArray 0)).get? s'.heap.objs.size = some (seqObj "list" us.toArray 0) := Heap.get?_push_size _ rfl
  have I2 : Inv X pins σ H { s' with heap := s'.heap.push (seqObj "list" us.toArray 0) } := I'.kept (t' := s'.toks) fun b o q => Heap.get?_push_of_some _ q
  show wpAny _ _ _ _ _ { s' with heap := s'.heap.push (seqObj "list" us.toArray 0) }
  have hzip : (vs.zip ds).map (·.2) = ds := map_snd_zip' hl2
  have ee := each_of rv rr
  refine wpAny_bind (wpAny_holding (list_sort_data (β := V × D) (enc := fun p => p.2) (R := fun u (p : V × D) => L2.RelV p.1 u ∧ Rp N H p.1 p.2) (bs := vs.zip ds) (s := { s' with heap := s'.heap.push (seqObj "list" us.toArray 0) }) hoL ee (ee.mono fun u p hp => ?_) (by rw [hzip]; exact hal) (by rw [hzip]; exact hso) (by rw [List.length_zip]; omega) (fun b hb => ?_) fun out hlo eo => ?_))
  · obtain ⟨as, q1, q2⟩ := hp.2.reads I2 hp.1
    refine ⟨as, q1, fun z => ?_⟩
    obtain ⟨o', q3⟩ := q2 _ z
    rw [hn] at q3; cases q3
  · have hb2 : b.2 ∈ ds := by
      have := List.mem_map_of_mem (f := fun p : V × D => p.2) hb
      rwa [hzip] at this
    have := hdp _ hb2
    show X.A.in1.units + 1 + b.2.depth < cLine
    have e1 : X.A.in1.units = X.A.units + 1 := rfl
    omega
  · obtain ⟨e', he'⟩ := PyProof.Rows.sortedHeap_at (vs := us) (out := out.toArray) hoL
    obtain ⟨g1, g2⟩ := of_each eo
    have es : ((vs.zip ds).mergeSort (dataLe false fun p => p.2)).map (·.2) = sortD ds := by
      unfold sortD
      have q := sort_maps (r := dataLe false fun p : V × D => p.2) (s := dataLe false id) (fun p : V × D => p.2) (l := vs.zip ds) (fun _ _ _ _ => rfl)
      rw [hzip] at q
      exact q
    rw [es] at g2
    generalize ((vs.zip ds).mergeSort (dataLe false fun p => p.2)).map (·.1) = ws at g1 g2
    have hw := g1.length
    have hzl : (vs.zip ds).length = ds.length := by rw [List.length_zip]; omega
    refine wpAny_pure ⟨_, rfl, .ref s'.heap.objs.size, upd H s'.heap.objs.size (.lst ws), I'.laid (t' := s'.toks) (fun b u e => ?_) (Nat.le_refl _) (show ObjOk X.prog X.w _ _ _ (.lst ws) from ⟨by omega, out, e', g1, he'⟩), rfl, o.newL f g2 _ hn⟩
    have hb : b < s'.heap.objs.size := Heap.lt_size e
    rw [PyProof.Rows.sortedHeap_old (Nat.ne_of_lt hb) (by rw [size_push']; exact Nat.lt_succ_of_lt hb)]
    exact Heap.get?_push_of_some _ e
end

/-- a built-in by data -/
def PrR (X : Cx) (p : Prim) (f : Value) : Prop := CallR X f (fun xs H Q => ∃ S N ds r, Fit N H ∧ RpBs S N H xs ds ∧ primD p ds = some r ∧ Out true N H r Q)
section
variable {X : Cx}
theorem RpBs.one {S : Src} {N : Zn} {H : Hp} {xs : List V} {d : D} (h : RpBs S N H xs [d]) : ∃ x, xs = [x] ∧ RpB N H x d := by
  cases h with
  | cons r t => cases t; exact ⟨_, rfl, r.1⟩
theorem RpBs.two {S : Src} {N : Zn} {H : Hp} {xs : List V} {d e : D} (h : RpBs S N H xs [d, e]) : ∃ x y, xs = [x, y] ∧ RpB N H x d ∧ RpB N H y e := by
  cases h with
  | cons r t => cases t with
    | cons r2 t2 => cases t2; exact ⟨_, _, rfl, r.1, r2.1⟩
theorem pr_len (hu : X.A.units + 64 < cLine) : PrR X .len (.builtin "len") := by
  intro pins s σ H xs us Q I r h
  obtain ⟨S, N, ds, d, f, rb, hp, o⟩ := h
  unfold primD at hp
  split at hp <;> (try (rename_i e; cases e)) <;> (try cases hp)
  · obtain ⟨x, rfl, q⟩ := rb.one
    obtain ⟨a, ys, rfl, ha, rr⟩ := q.list_of
    exact call_len_seq pins s σ H _ us Q I r ⟨a, ys, rfl, .inl (SqL.of ha), by rw [rr.length]; exact o.imm (.int _) rfl⟩
  · obtain ⟨x, rfl, q⟩ := rb.one
    obtain ⟨a, ys, rfl, ha, rr⟩ := q.tup_of
    exact call_len_seq pins s σ H _ us Q I r ⟨a, ys, rfl, .inr (SqT.of ha), by rw [rr.length]; exact o.imm (.int _) rfl⟩
  · obtain ⟨x, rfl, q⟩ := rb.one
    obtain ⟨a, rfl, ⟨ks, es, ha, rr, rfl⟩ | ⟨ks, es, hne, ha, rr, rfl⟩⟩ := q.dict_of
    · have hl : ks.length = es.length := by simpa using rr.length
      obtain ⟨u, rfl, rx⟩ := r.one
      cases rx
      refine d_len I (.inl ha) fun t s' I' => ⟨.int ks.length, H, I', ⟨t, rfl⟩, ?_⟩
      refine o.imm (v := .int ks.length) ?_ rfl
      rw [show ((ks.map fun p => keyD p.1).zip es).length = ks.length by simp [hl]]
      exact .int _
    · have hl : ks.length = es.length := by simpa using rr.length
      refine call_len_dT pins s σ H _ us Q I r ⟨a, ks, rfl, ha, ?_⟩
      refine o.imm (v := .int ks.length) ?_ rfl
      rw [show ((ks.map fun p => tkeyD p.1).zip es).length = ks.length by simp [hl]]
      exact .int _
  · split at hp <;> cases hp
    obtain ⟨x, rfl, q⟩ := rb.one
    cases q.str_of
    exact call_len_str pins s σ H _ us Q I r ⟨_, rfl, by assumption, o.imm (.int _) rfl⟩
theorem pr_tuple : PrR X .tuple (.type "tuple") := by
  intro pins s σ H xs us Q I r h
  obtain ⟨S, N, ds, d, f, rb, hp, o⟩ := h
  unfold primD at hp
  split at hp <;> (try (rename_i e; cases e)) <;> (try cases hp)
  · obtain ⟨x, rfl, q⟩ := rb.one
    obtain ⟨a, ys, rfl, ha, rr⟩ := q.list_of
    exact call_tuple_of pins s σ H _ us Q I r ⟨a, ys, rfl, .inl ⟨SqL.of ha, o.newT f rr⟩⟩
  · obtain ⟨x, rfl, q⟩ := rb.one
    obtain ⟨a, ys, rfl, ha, rr⟩ := q.tup_of
    exact call_tuple_of pins s σ H _ us Q I r ⟨a, ys, rfl, .inr ⟨SqT.of ha, o.imm (.tup ha rr) rfl⟩⟩
theorem pr_list (hc : X.calm = true) : PrR X .list (.type "list") := by
  intro pins s σ H xs us Q I r h
  obtain ⟨S, N, ds, d, f, rb, hp, o⟩ := h
  unfold primD at hp
  split at hp <;> (try (rename_i e; cases e)) <;> (try cases hp)
  · obtain ⟨x, rfl, q⟩ := rb.one
    obtain ⟨a, ys, rfl, ha, rr⟩ := q.list_of
    exact call_list_of pins s σ H _ us Q I r ⟨a, ys, rfl, .inl (SqL.of ha), o.newL f rr⟩
  · obtain ⟨x, rfl, q⟩ := rb.one
    obtain ⟨a, ys, rfl, ha, rr⟩ := q.tup_of
    exact call_list_of pins s σ H _ us Q I r ⟨a, ys, rfl, .inr (SqT.of ha), o.newL f rr⟩
  · obtain ⟨x, rfl, q⟩ := rb.one
    obtain ⟨a, rfl, _⟩ := q.dict_of
    obtain ⟨u, rfl, rx⟩ := r.one
    cases rx
    obtain ⟨ob, es, ep, vs, ho, hx, hd, lo, rv, rr, hz⟩ := dict_raw I f q
    have h1 : es.size = vs.length := by have := rv.length; simp at this; omega
    have h2 := rr.length
    rw [List.length_map] at h2
    refine kdl_call (kdl_raw lo hx hd) (I.ok.hd hc) ho (by omega) fun h' tk acc c hk hS hacc => ?_
    have e : acc.toList = es.toList.map (·.key) := by
      apply List.ext_getElem?
      intro j
      rw [List.getElem?_map]
      cases hj : acc.toList[j]? with
      | none =>
        have q1 := List.getElem?_eq_none_iff.mp hj
        have q2 : acc.size = es.size := hacc.1
        rw [List.getElem?_eq_none (by simp at q1 ⊢; omega)]; rfl
      | some v =>
        obtain ⟨en, he, ev⟩ := hacc.2 j v (by rw [← Array.getElem?_toList]; exact hj)
        rw [Array.getElem?_toList, he, ev]; rfl
    refine ⟨.ref s.heap.objs.size, _, I.laid (t' := tk) (o := .lst vs) hk (Nat.le_refl _) ⟨by omega, acc.toList, c, by rw [e]; exact rv, by rw [Array.toArray_toList]; exact hS⟩, rfl, o.newL f rr _ (I.hok.fresh (Nat.le_refl _))⟩
theorem pr_sorted (hc : X.calm = true) (hu : X.A.units + 64 < cLine) : PrR X .sorted (.builtin "sorted") := by
  intro pins s σ H xs us Q I r h
  obtain ⟨S, N, ds, d, f, rb, hp, o⟩ := h
  unfold primD at hp
  split at hp <;> (try (rename_i e; cases e)) <;> (try cases hp)
  all_goals
    split at hp <;> cases hp
    obtain ⟨x, rfl, q⟩ := rb.one
    obtain ⟨u, rfl, rx⟩ := r.one
    exact sorted_rp hc hu I f q rx rfl (by assumption) o
theorem intsD_of : ∀ {ds : List D} {ns : List Int}, intsD ds = some ns → ds = ns.map PyData.int
  | [], _, h => by cases h; rfl
  | .int i :: r, _, h => by
    simp only [intsD] at h
    obtain ⟨ns, e, rfl⟩ := Option.map_eq_some_iff.mp h
    rw [intsD_of e]; rfl
theorem boolsD_of : ∀ {ds : List D} {ns : List Bool}, boolsD ds = some ns → ds = ns.map PyData.bool
  | [], _, h => by cases h; rfl
  | .bool i :: r, _, h => by
    simp only [boolsD] at h
    obtain ⟨ns, e, rfl⟩ := Option.map_eq_some_iff.mp h
    rw [boolsD_of e]; rfl
theorem pr_sum (hc : X.calm = true) : PrR X .sum (.builtin "sum") := by
  intro pins s σ H xs us Q I r h
  obtain ⟨S, N, ds, d, f, rb, hp, o⟩ := h
  unfold primD at hp
  split at hp <;> (try (rename_i e; cases e)) <;> (try cases hp)
  obtain ⟨ns, e, rfl⟩ := Option.map_eq_some_iff.mp hp
  obtain ⟨x, rfl, q⟩ := rb.one
  obtain ⟨a, ys, rfl, ha, rr⟩ := q.list_of
  rw [intsD_of e] at rr
  exact cr_sum hc pins s σ H _ us Q I r ⟨a, ns, rfl, SqL.of (by rw [← rr.ints]; exact ha), o.imm (.int _) rfl⟩
theorem pr_all (hc : X.calm = true) : PrR X .all (.builtin "all") := by
  intro pins s σ H xs us Q I r h
  obtain ⟨S, N, ds, d, f, rb, hp, o⟩ := h
  unfold primD at hp
  split at hp <;> (try (rename_i e; cases e)) <;> (try cases hp)
  obtain ⟨ns, e, rfl⟩ := Option.map_eq_some_iff.mp hp
  obtain ⟨x, rfl, q⟩ := rb.one
  obtain ⟨a, ys, rfl, ha, rr⟩ := q.list_of
  rw [boolsD_of e] at rr
  exact cr_all hc pins s σ H _ us Q I r ⟨a, ns, rfl, SqL.of (by rw [← rr.bools]; exact ha), o.imm (.bl _) rfl⟩
theorem pr_any (hc : X.calm = true) : PrR X .any (.builtin "any") := by
  intro pins s σ H xs us Q I r h
  obtain ⟨S, N, ds, d, f, rb, hp, o⟩ := h
  unfold primD at hp
  split at hp <;> (try (rename_i e; cases e)) <;> (try cases hp)
  obtain ⟨ns, e, rfl⟩ := Option.map_eq_some_iff.mp hp
  obtain ⟨x, rfl, q⟩ := rb.one
  obtain ⟨a, ys, rfl, ha, rr⟩ := q.list_of
  rw [boolsD_of e] at rr
  exact cr_any hc pins s σ H _ us Q I r ⟨a, ns, rfl, SqL.of (by rw [← rr.bools]; exact ha), o.imm (.bl _) rfl⟩
theorem pr_abs : PrR X .abs (.builtin "abs") := by
  intro pins s σ H xs us Q I r h
  obtain ⟨S, N, ds, d, f, rb, hp, o⟩ := h
  unfold primD at hp
  split at hp <;> (try (rename_i e; cases e)) <;> (try cases hp)
  obtain ⟨x, rfl, q⟩ := rb.one
  cases q.int_of
  exact call_abs pins s σ H _ us Q I r ⟨_, rfl, o.imm (.int _) rfl⟩
theorem pr_int : PrR X .int (.type "int") := by
  intro pins s σ H xs us Q I r h
  obtain ⟨S, N, ds, d, f, rb, hp, o⟩ := h
  unfold primD at hp
  split at hp <;> (try (rename_i e; cases e)) <;> (try cases hp)
  · obtain ⟨x, rfl, q⟩ := rb.one
    cases q.int_of
    exact call_int1 pins s σ H _ us Q I r (.inl ⟨_, rfl, o.imm (.int _) rfl⟩)
  · obtain ⟨x, rfl, q⟩ := rb.one
    cases q.bl_of
    exact call_int1 pins s σ H _ us Q I r (.inr ⟨_, rfl, o.imm (.int _) rfl⟩)
theorem pr_max (hc : X.calm = true) : PrR X .max (.builtin "max") := by
  intro pins s σ H xs us Q I r h
  obtain ⟨S, N, ds, d, f, rb, hp, o⟩ := h
  unfold primD at hp
  split at hp <;> (try (rename_i e; cases e)) <;> (try cases hp)
  obtain ⟨x, y, rfl, q, q2⟩ := rb.two
  cases q.int_of
  cases q2.int_of
  exact call_max2 hc pins s σ H _ us Q I r ⟨_, _, rfl, o.imm (.int _) rfl⟩
theorem pr_min (hc : X.calm = true) : PrR X .min (.builtin "min") := by
  intro pins s σ H xs us Q I r h
  obtain ⟨S, N, ds, d, f, rb, hp, o⟩ := h
  unfold primD at hp
  split at hp <;> (try (rename_i e; cases e)) <;> (try cases hp)
  obtain ⟨x, y, rfl, q, q2⟩ := rb.two
  cases q.int_of
  cases q2.int_of
  exact call_min2 hc pins s σ H _ us Q I r ⟨_, _, rfl, o.imm (.int _) rfl⟩
end
end PD
set_option maxHeartbeats 2000000
/-! PDy: dict of pairs. -/
namespace PD
open PySem L2
theorem put_rp {κ : Type} [DecidableEq κ] {N : Zn} {H : Hp} (enc : κ → PD.D) (hq : ∀ a b, PyData.eqv (enc a) (enc b) = decide (a = b)) (k : κ) {v : V} {x : PD.D} (rv : Rp N H v x) {kvs : List (κ × V)} {ds : List PD.D} (r : RpAll N H (kvs.map (·.2)) ds) :
    ∃ es, RpAll N H ((putK kvs k v).map (·.2)) es ∧ dput ((kvs.map fun p => enc p.1).zip ds) (enc k) x = ((putK kvs k v).map fun p => enc p.1).zip es := by
  have h1 : ∀ (kvs : List (κ × V)) (ds : List PD.D), RpAll N H (kvs.map (·.2)) ds → (((kvs.map fun p => enc p.1).zip ds).any fun p => PyData.eqv p.1 (enc k)) = kvs.any fun kv => decide (kv.1 = k) := by
    intro kvs
    induction kvs with
    | nil => intro ds r; simp
    | cons p kvs ih =>
      intro ds r
      cases r with
      | cons r1 rs => simp [hq, ih _ rs]
  have h2 : ∀ (kvs : List (κ × V)) (ds : List PD.D), RpAll N H (kvs.map (·.2)) ds → ∃ es, RpAll N H ((kvs.map (fun kv => if kv.1 = k then (kv.1, v) else kv)).map (·.2)) es ∧
      (((kvs.map fun p => enc p.1).zip ds).map fun p => if PyData.eqv p.1 (enc k) then (p.1, x) else p) = ((kvs.map (fun kv => if kv.1 = k then (kv.1, v) else kv)).map fun p => enc p.1).zip es := by
    intro kvs
    induction kvs with
    | nil => intro ds r; cases r; exact ⟨[], .nil, rfl⟩
    | cons p kvs ih =>
      intro ds r
      cases r with
      | @cons _ _ d ds r1 rs =>
        obtain ⟨es, re, he⟩ := ih _ rs
        by_cases hk : p.1 = k
        · refine ⟨x :: es, ?_, ?_⟩
          · simp only [List.map_cons, if_pos hk]; exact .cons rv re
          · simp [hq, hk, he]
        · refine ⟨d :: es, ?_, ?_⟩
          · simp only [List.map_cons, if_neg hk]; exact .cons r1 re
          · simp [hq, hk, he]
  unfold dput putK
  rw [h1 kvs ds r]
  by_cases ha : (kvs.any fun kv => decide (kv.1 = k)) = true
  · rw [if_pos ha, if_pos ha]
    exact h2 kvs ds r
  · rw [if_neg ha, if_neg ha]
    refine ⟨ds ++ [x], by rw [List.map_append]; exact r.append (.cons rv .nil), ?_⟩
    rw [List.map_append, List.zip_append (by simpa using r.length)]
    rfl
theorem putK_ne {κ : Type} [DecidableEq κ] {kvs : List (κ × V)} {k : κ} {v : V} : putK kvs k v ≠ [] := by
  unfold putK
  split
  · rename_i h
    intro z
    have : kvs = [] := by simpa using z
    subst this
    simp at h
  · simp
def putAll {κ : Type} [DecidableEq κ] (kvs qs : List (κ × V)) : List (κ × V) := qs.foldl (fun acc q => putK acc q.1 q.2) kvs
theorem puts_rp {κ : Type} [DecidableEq κ] {N : Zn} {H : Hp} (enc : κ → PD.D) (hq : ∀ a b, PyData.eqv (enc a) (enc b) = decide (a = b)) : ∀ {qs kvs : List (κ × V)} {ds : List PD.D} {ps : List (D × D)}, RpAll N H (kvs.map (·.2)) ds → ps.map (·.1) = qs.map (fun q => enc q.1) → RpAll N H (qs.map (·.2)) (ps.map (·.2)) →
    ∃ es, RpAll N H ((putAll kvs qs).map (·.2)) es ∧ dputs ((kvs.map fun p => enc p.1).zip ds) ps = ((putAll kvs qs).map fun p => enc p.1).zip es
  | [], kvs, ds, [], r, _, _ => ⟨ds, r, rfl⟩
  | q :: qs, kvs, ds, p :: ps, r, hk, hv => by
    simp only [List.map_cons, List.cons.injEq] at hk
    cases hv with
    | cons v1 vs =>
      obtain ⟨es, re, he⟩ := put_rp enc hq q.1 v1 r
      obtain ⟨es', re', he'⟩ := puts_rp enc hq (qs := qs) (ps := ps) re hk.2 vs
      refine ⟨es', re', ?_⟩
      show dputs (dput _ p.1 p.2) ps = _
      rw [hk.1, he, he']; rfl
  | [], _, _, _ :: _, _, hk, _ => by simp at hk
  | _ :: _, _, _, [], _, hk, _ => by simp at hk
theorem putAll_len {κ : Type} [DecidableEq κ] : ∀ (qs kvs : List (κ × V)), (putAll kvs qs).length ≤ kvs.length + qs.length
  | [], _ => Nat.le_refl _
  | q :: qs, kvs => by
    have h1 := putAll_len qs (putK kvs q.1 q.2)
    have h2 := length_putK kvs q.1 q.2
    show (putAll (putK kvs q.1 q.2) qs).length ≤ _
    simp only [List.length_cons]; omega
/-- pairs in tuples, keys of one sort -/
inductive KPs (N : Zn) (H : Hp) : List Addr → List (Key × V) → List (D × D) → Prop
  | nil : KPs N H [] [] []
  | cons {A k v x As qs ps} : H A = some (.tup [kV k, v]) → Rp N H v x → KPs N H As qs ps → KPs N H (A :: As) ((k, v) :: qs) ((keyD k, x) :: ps)
inductive TPs (N : Zn) (H : Hp) : List Addr → List Addr → List (List Key × V) → List (D × D) → Prop
  | nil : TPs N H [] [] [] []
  | cons {A b k v x As bs qs ps} : H A = some (.tup [.ref b, v]) → H b = some (.tup (k.map kV)) → Rp N H v x → TPs N H As bs qs ps → TPs N H (A :: As) (b :: bs) ((k, v) :: qs) ((tkeyD k, x) :: ps)
theorem kps_of {N : Zn} {H : Hp} : ∀ {vs : List V} {xs : List D} {ps : List (D × D)}, RpAll N H vs xs → pairsD xs = some ps → ps.all (fun p => isKey1 p.1) = true → ∃ As qs, vs = As.map V.ref ∧ KPs N H As qs ps
  | [], [], ps, _, h, _ => by cases h; exact ⟨[], [], rfl, .nil⟩
  | v :: vs, x :: xs, ps, .cons r rs, h, ha => by
    unfold pairsD at h
    split at h
    · rename_i e; cases e
    · rename_i k y r' e
      cases e
      obtain ⟨ps', h', rfl⟩ := Option.map_eq_some_iff.mp h
      rw [List.all_cons, Bool.and_eq_true] at ha
      obtain ⟨As, qs, e, t⟩ := kps_of rs h' ha.2
      obtain ⟨a, us, rfl, hA, ru⟩ := (RpB.of r).tup_of
      cases ru with
      | cons r1 ru => cases ru with
        | cons r2 ru => cases ru with
          | nil =>
            obtain ⟨k', rfl⟩ := key1_of ha.1
            cases Rp.key (.of r1)
            exact ⟨a :: As, _, by simp [e], .cons hA r2 t⟩
    · cases h
theorem tps_of {N : Zn} {H : Hp} : ∀ {vs : List V} {xs : List D} {ps : List (D × D)}, RpAll N H vs xs → pairsD xs = some ps → ps.all (fun p => isTk p.1) = true → ∃ As bs qs, vs = As.map V.ref ∧ TPs N H As bs qs ps
  | [], [], ps, _, h, _ => by cases h; exact ⟨[], [], [], rfl, .nil⟩
  | v :: vs, x :: xs, ps, .cons r rs, h, ha => by
    unfold pairsD at h
    split at h
    · rename_i e; cases e
    · rename_i k y r' e
      cases e
      obtain ⟨ps', h', rfl⟩ := Option.map_eq_some_iff.mp h
      rw [List.all_cons, Bool.and_eq_true] at ha
      obtain ⟨As, bs, qs, e, t⟩ := tps_of rs h' ha.2
      obtain ⟨a, us, rfl, hA, ru⟩ := (RpB.of r).tup_of
      cases ru with
      | cons r1 ru => cases ru with
        | cons r2 ru => cases ru with
          | nil =>
            obtain ⟨ks, rfl⟩ : ∃ ks, k = tkeyD ks := by
              have h1 := ha.1
              unfold isTk at h1
              split at h1
              · rename_i hk
                obtain ⟨ks, e⟩ := key1s_of h1
                exact ⟨ks, (show k = _ from hk).trans (by rw [e]; rfl)⟩
              · cases h1
            obtain ⟨b, rfl, hb⟩ := Rp.tkey (.of r1)
            exact ⟨a :: As, b :: bs, _, by simp [e], .cons hA hb r2 t⟩
    · cases h
theorem KPs.facts {N : Zn} {H : Hp} {K : PySem.W.Frag} : ∀ {As : List Addr} {qs : List (Key × V)} {ps : List (D × D)}, KPs N H As qs ps → Paired (fun p kv => SqT K H p [kV kv.1, kv.2]) As qs ∧ ps.map (·.1) = qs.map (fun q => keyD q.1) ∧ RpAll N H (qs.map (·.2)) (ps.map (·.2))
  | _, _, _, .nil => ⟨.nil, rfl, .nil⟩
  | _, _, _, .cons h r t => ⟨.cons (SqT.of h) (KPs.facts t).1, by simp [(KPs.facts (K := K) t).2.1], .cons r (KPs.facts (K := K) t).2.2⟩
section
variable {X : Cx}
theorem TPs.facts {N : Zn} {H : Hp} {pins : List (Addr × Obj)} {σ : L2.St} {s : Shared} (I : L2.Inv X pins σ H s) : ∀ {As bs : List Addr} {qs : List (List Key × V)} {ps : List (D × D)}, TPs N H As bs qs ps →
    ps.map (·.1) = qs.map (fun q => tkeyD q.1) ∧ RpAll N H (qs.map (·.2)) (ps.map (·.2)) ∧ ∃ prs : List (List Key × Addr × Value), KT H qs prs ∧ prs.length = As.length ∧ ∀ (j : Nat) (k : List Key) (b : Addr) (u : Value), prs[j]? = some (k, b, u) → ∃ A : Addr, As[j]? = some A ∧ s.heap.IsTuple A #[.ref b, u]
  | _, _, _, _, .nil => ⟨rfl, .nil, [], .nil, rfl, fun j k b u h => by simp at h⟩
  | _, _, _, _, .cons (A := A) (b := b) (k := k) (v := v) h1 h2 r t => by
    obtain ⟨e1, e2, prs, kt, hl, hp⟩ := TPs.facts I t
    obtain ⟨its, rv, ht, _⟩ := I.tuple (SqT.of h1)
    obtain ⟨u0, u, rfl, r1, r2⟩ := L2.Vals.two rv
    cases r1
    refine ⟨by simp [e1], .cons r e2, (k, b, u) :: prs, .cons ⟨rfl, h2, r2⟩ kt, by simp [hl], fun j k' b' u' hj => ?_⟩
    cases j with
    | zero => cases hj; exact ⟨A, rfl, ht⟩
    | succ j =>
      obtain ⟨A', ha, hA⟩ := hp j k' b' u' (by simpa using hj)
      exact ⟨A', by simpa using ha, hA⟩
theorem KT.all {H : Hp} : ∀ {qs kvs : List (List Key × V)} {prs xs : List (List Key × Addr × Value)}, KT H kvs xs → KT H qs prs → KT H (putAll kvs qs) (storedAllH xs prs)
  | _, _, _, _, r, .nil => r
  | _, _, _, _, r, .cons (a := q) (b := p) h t => by
    obtain ⟨e1, e2, e3⟩ := h
    have := KT.put r q.1 e2 e3
    rw [show q.1 = p.1 from e1] at this
    show KT H (putAll (putK _ q.1 q.2) _) (storedAllH (storedH _ p.1 p.2.1 p.2.2) _)
    rw [show q.1 = p.1 from e1]
    exact KT.all this t
theorem mergeK_putAll (qs kvs : List (Key × V)) : mergeK kvs qs = putAll kvs qs := rfl
theorem pr_dictOf (hc : X.calm = true) (hu : X.A.units + 64 < cLine) : PrR X .dictOf (.type "dict") := by
  intro pins s σ H xs us Q I r h
  obtain ⟨S, N, ds, d, f, rb, hp, o⟩ := h
  unfold primD at hp
  split at hp <;> (try (rename_i e; cases e)) <;> (try cases hp)
  obtain ⟨ps, hps, hp⟩ := Option.bind_eq_some_iff.mp hp
  obtain ⟨x, rfl, q⟩ := rb.one
  obtain ⟨a, vs, rfl, ha, rr⟩ := q.list_of
  split at hp
  · rename_i hk
    cases hp
    by_cases hk1 : ps.all (fun p => isKey1 p.1) = true
    · obtain ⟨As, qs, rfl, t⟩ := kps_of rr hps hk1
      obtain ⟨t1, t2, t3⟩ := t.facts (K := X.K)
      obtain ⟨es, re, he⟩ := puts_rp keyD keyD_eqv (kvs := []) (ds := []) .nil t2 t3
      refine call_dictP hc pins s σ H _ us Q I r ⟨a, As, qs, rfl, SqL.of ha, t1, fun p hp => ?_⟩
      have he' : dputs [] ps = _ := he
      rw [he'] at o
      exact o _ _ (Ext.new hp) (.dK (f.ne hp) upd_same (re.ext (Ext.new hp) f)) fun _ _ => ⟨p, rfl, hp, .dK upd_same (re.move (Ext.new hp) f fun b z => z.elim .inl fun z => .inr (z ▸ hp))⟩
    · have hk2 : ps.all (fun p => isTk p.1) = true := by
        rw [Bool.or_eq_true] at hk
        exact hk.resolve_left hk1
      obtain ⟨As, bs, qs, rfl, t⟩ := tps_of rr hps hk2
      obtain ⟨t2, t3, prs, kt, hl, hA⟩ := t.facts I
      obtain ⟨u, rfl, rx⟩ := r.one
      cases rx
      obtain ⟨its, rv, pl, hz⟩ := I.list (SqL.of (K := X.K) ha)
      have ei := refs_at rv
      subst ei
      rw [List.length_map] at hz
      have hne : ps ≠ [] := fun z => by subst z; exact hk1 rfl
      have hprs : prs ≠ [] := fun z => by
        subst z
        cases kt
        cases ps with
        | nil => exact hne rfl
        | cons p ps => simp at t2
      let pr : List (Value × Value) := prs.map fun x => (.ref x.2.1, x.2.2)
      have hpl : pr.length = As.length := by simp [pr, hl]
      have hpr : ∀ (i : Nat) (key v : Value), pr[i]? = some (key, v) → ∃ k b, prs[i]? = some (k, b, v) ∧ key = .ref b := fun i key v hi => by
        simp only [pr, List.getElem?_map] at hi
        obtain ⟨⟨k, b, u⟩, h1, h2⟩ := Option.map_eq_some_iff.mp hi
        cases h2
        exact ⟨k, b, h1, rfl⟩
      have kin : ∀ x ∈ prs, H x.2.1 = some (.tup (x.1.map kV)) := by
        have : ∀ {qs : List (List Key × V)} {prs : List (List Key × Addr × Value)}, KT H qs prs → ∀ x ∈ prs, H x.2.1 = some (.tup (x.1.map kV)) := by
          intro qs prs kt
          induction kt with
          | nil => intro x hx; cases hx
          | cons h t ih =>
            intro x hx
            rcases List.mem_cons.mp hx with rfl | hx
            · obtain ⟨e1, e2, _⟩ := h
              rw [← e1]; exact e2
            · exact ih x hx
        exact this kt
      refine call_dict_pairsH (knd := tupleKind (mixKind X.prog X.w)) (ps := prs) (PairArg.list a (As.map Value.ref).toArray (fun j => As.getD j 0) pr) (I.ok.hd hc) (by show X.A.units + 1 + 1 < cLine; omega) ⟨pl, ?_, fun j k v hj => ?_⟩ ⟨by simp [pr], hpr⟩ (fun h' hk' x hx => ?_) (by rw [hpl]; exact hz) fun h' tk hd' hkeep => ?_
      · simp [hpl]
      · obtain ⟨k', b, h1, rfl⟩ := hpr j k v hj
        obtain ⟨A, hA1, hA2⟩ := hA j k' b v h1
        refine ⟨?_, ?_⟩
        · simp [hA1, List.getD]
        · show PairAt s.heap (As.getD j 0) _ _
          rw [show As.getD j 0 = A by simp [List.getD, hA1]]
          exact .inl hA2
      · obtain ⟨o', its', n', h1, h2⟩ := key_of (ks := x.1) I.hok (kin x hx)
        exact ⟨o', its', n', hk' _ _ (Nat.ne_of_lt (Heap.lt_size h1)) (by simp) h1, h2⟩
      · obtain ⟨es, re, he⟩ := puts_rp tkeyD tkeyD_eqv (kvs := []) (ds := []) .nil t2 t3
        have he' : dputs [] ps = _ := he
        rw [he'] at o
        have hp := I.hok.fresh (Nat.le_refl s.heap.objs.size)
        have hm : (s.heap.objs.size == sysModules) = false := beq_eq_false_iff_ne.mpr (Nat.ne_of_gt I.big)
        have kt2 : KT H (putAll [] qs) (storedAllH [] prs) := KT.all .nil kt
        have hqs : qs ≠ [] := fun z => by subst z; cases kt; exact hprs rfl
        have hne2 : putAll [] qs ≠ [] := by
          intro z
          have e2 := re.length
          rw [z] at e2 he'
          have hz2 : dputs [] ps = [] := by rw [he']; simp
          have key : ∀ (ps acc : List (D × D)), dputs acc ps = [] → ps = [] := by
            intro ps
            induction ps with
            | nil => intro acc _; rfl
            | cons p ps ih =>
              intro acc h
              have := ih _ (show dputs (dput acc p.1 p.2) ps = [] from h)
              subst this
              have h : dput acc p.1 p.2 = [] := h
              unfold dput at h
              split at h
              · rename_i hh
                have : acc = [] := by simpa using h
                subst this; simp at hh
              · simp at h
          exact hne (key _ _ hz2)
        have ob : ObjOk X.prog X.w (upd H s.heap.objs.size (.dT (putAll [] qs))) h' s.heap.objs.size (.dT (putAll [] qs)) := by
          obtain ⟨q, ents, ep, g1, g2, g3, g4, _, g5⟩ := hd'
          refine ⟨?_, hm, storedAllH [] prs, kt2.keeps fun b ys e => ?_, q, ents, ep, g1, g2, g3, g4, g5⟩
          · have h1 := putAll_len qs ([] : List (List Key × V))
            have h2 : qs.length = prs.length := Paired.length kt
            simp only [List.length_nil, Nat.zero_add] at h1
            omega
          · rw [upd_ne (ne_of_none e hp)]; exact e
        refine ⟨.ref s.heap.objs.size, _, I.laid (t' := tk) (fun b q e => hkeep b q (by simp) e) (Nat.le_refl _) ob, rfl, ?_⟩
        exact o _ _ (Ext.new hp) (.dT (f.ne hp) hne2 upd_same (re.ext (Ext.new hp) f)) fun _ _ => ⟨_, rfl, hp, .dT hne2 upd_same (re.move (Ext.new hp) f fun b z => z.elim .inl fun z => .inr (z ▸ hp))⟩
  · cases hp
end
end PD
/-! PDk: targets, what is walked, list comprehensions. -/
namespace PD
open PySem L2

section
variable {S : Src} {P P' : Zn} {ρ ρ' : Nv} {σ σ' : L2.St} {H H' H1 : Hp} {N N' : Zn}
theorem own_wipe : ∀ {vs : List Nat} {a : Addr}, OwnAt (wipeN ρ vs) (wipe σ vs) a → OwnAt ρ σ a
  | vs, a, ⟨i, d, h1, h2⟩ => ⟨i, d, by
      induction vs with
      | nil => exact h1
      | cons v vs ih =>
        have h2' := (wipe_some (vs := v :: vs) h2)
        simp only [List.mem_cons, not_or] at h2'
        have e : (wipeN ρ (v :: vs))[i]? = (wipeN ρ vs)[i]? := by
          show ((wipeN ρ vs).set v none)[i]? = _
          rw [List.getElem?_set_ne (Ne.symm h2'.2.1)]
        rw [e] at h1
        have e2 : (wipe σ (v :: vs))[i]? = (wipe σ vs)[i]? := by
          show ((wipe σ vs).set v none)[i]? = _
          rw [List.getElem?_set_ne (Ne.symm h2'.2.1)]
        rw [e2] at h2
        exact ih h1 h2, (wipe_some h2).1⟩
theorem wipeN_length (ρ : Nv) : ∀ vs : List Nat, (wipeN ρ vs).length = ρ.length
  | [] => rfl
  | v :: vs => by unfold wipeN; rw [List.length_set, wipeN_length ρ vs]
theorem wipeN_some {i : Nat} {b : B} : ∀ {vs : List Nat}, (wipeN ρ vs)[i]? = some (some b) → ρ[i]? = some (some b) ∧ i ∉ vs
  | [], h => ⟨h, by simp⟩
  | v :: vs, h => by
    unfold wipeN at h
    by_cases hi : v = i
    · subst hi
      by_cases hv : v < (wipeN ρ vs).length
      · rw [List.getElem?_set_self hv] at h; cases h
      · rw [List.getElem?_eq_none (by simpa using hv)] at h; cases h
    · rw [List.getElem?_set_ne hi] at h
      obtain ⟨h1, h2⟩ := wipeN_some h
      exact ⟨h1, by simp only [List.mem_cons, not_or]; exact ⟨fun e => hi e.symm, h2⟩⟩
theorem wipe_keep {i : Nat} : ∀ {vs : List Nat}, i ∉ vs → (wipe σ vs)[i]? = σ[i]?
  | [], _ => rfl
  | v :: vs, h => by
    simp only [List.mem_cons, not_or] at h
    show ((wipe σ vs).set v none)[i]? = _
    rw [List.getElem?_set_ne (Ne.symm h.1)]
    exact wipe_keep h.2
theorem Rel.shrink (R : Rel S P ρ σ H) (vs : List Nat) : Rel S P (wipeN ρ vs) (L2.wipe σ vs) H := by
  have hN : ∀ a, Nn P (wipeN ρ vs) (L2.wipe σ vs) a → Nn P ρ σ a := fun a h => h.elim .inl fun q => .inr (own_wipe q)
  refine ⟨by rw [wipeN_length, wipe_length]; exact R.len, R.sub, R.fitP, R.inv, fun i d h => ?_, fun i d h => ?_, fun i j d e' a h1 h2 h3 h4 => R.dis i j d e' a (wipeN_some h1).1 (wipeN_some h2).1 (wipe_some h3).1 (wipe_some h4).1, fun i h => ?_⟩
  · obtain ⟨h1, h2⟩ := wipeN_some h
    obtain ⟨v, q, r⟩ := R.sh i d h1
    exact ⟨v, by rw [wipe_keep h2]; exact q, r.less hN⟩
  · obtain ⟨h1, h2⟩ := wipeN_some h
    obtain ⟨a, q, l, r, n⟩ := R.own i d h1
    exact ⟨a, by rw [wipe_keep h2]; exact q, l, r.less hN, n⟩
  · obtain ⟨h1, h2⟩ := wipeN_some h
    rw [wipe_keep h2]; exact R.src i h1
theorem own_free {vs : List Nat} (hf : free ρ vs = true) {a : Addr} (h : OwnAt ρ σ a) : OwnAt (wipeN ρ vs) (L2.wipe σ vs) a := by
  obtain ⟨i, d, h1, h2⟩ := h
  have hi : i ∉ vs := fun z => by
    have := List.all_eq_true.mp hf i z
    rw [h1] at this
    cases this
  refine ⟨i, d, ?_, by rw [wipe_keep hi]; exact h2⟩
  clear hf
  induction vs with
  | nil => exact h1
  | cons v vs ih =>
    simp only [List.mem_cons, not_or] at hi
    show ((wipeN ρ vs).set v none)[i]? = _
    rw [List.getElem?_set_ne (Ne.symm hi.1)]
    exact ih hi.2
/-- a new place is kept away -/
theorem Rel.prot (R : Rel S P ρ σ H) {p : Addr} {o : HO} (hp : H p = none) (m : Mut (some o)) : Rel S (fun a => P a ∨ a = p) ρ σ (upd H p o) := by
  have hN : ∀ a, Nn (fun a => P a ∨ a = p) ρ σ a → Nn P ρ σ a ∨ H a = none := fun a h => by
    rcases h with (h | h) | h
    · exact .inl (.inl h)
    · exact .inr (h ▸ hp)
    · exact .inl (.inr h)
  have e : Ext (Nn P ρ σ) H (upd H p o) := Ext.new hp
  refine ⟨R.len, fun a h => .inl (R.sub a h), ⟨fun a h => ?_⟩, S.ext R.inv (Ext.new hp), fun i d h => ?_, fun i d h => ?_, R.dis, R.src⟩
  · rcases h with h | rfl
    · obtain ⟨q, h1, h2⟩ := R.fitP.dom a h
      exact ⟨q, by rw [upd_ne (ne_of_none h1 hp)]; exact h1, h2⟩
    · exact ⟨o, upd_same, m⟩
  · obtain ⟨v, q, r⟩ := R.sh i d h
    exact ⟨v, q, r.move e R.fit hN⟩
  · obtain ⟨a, q, l, r, n⟩ := R.own i d h
    refine ⟨a, q, l, r.move e R.fit hN (fun b o' eb hb => by rw [upd_ne (ne_of_none hb hp)]; exact hb), fun z => ?_⟩
    rcases z with z | z
    · exact n z
    · obtain ⟨o', ho', _⟩ := r.list_at l
      rw [z, hp] at ho'; cases ho'
/-- what is kept away may change -/
theorem Rel.extP (R : Rel S P ρ σ H) {M : Zn} (hM : ∀ a, M a → P a) (e : Ext M H H') (i : S.inv H') (f : Fit P H') : Rel S P ρ σ H' where
  len := R.len
  sub := R.sub
  fitP := f
  inv := i
  sh := fun j d h => by
    obtain ⟨v, q, r⟩ := R.sh j d h
    exact ⟨v, q, r.ext (e.mono fun a z => .inl (hM a z)) R.fit⟩
  own := fun j d h => by
    obtain ⟨a, q, l, r, n⟩ := R.own j d h
    exact ⟨a, q, l, r.extA R.fit (e.mono fun a z => .inl (hM a z)) (fun b o eb hb => by cases eb; exact e _ o hb fun z => n (hM _ z)), n⟩
  dis := R.dis
  src := R.src

/-! ### targets -/
theorem own_set {i : Nat} {d : D} {v : V} {a : Addr} (h : OwnAt (ρ.set i (some (.sh d))) (σ.set i (some v)) a) : OwnAt ρ σ a := by
  obtain ⟨j, e, h1, h2⟩ := h
  by_cases hj : i = j
  · subst hj
    by_cases hl : i < ρ.length
    · rw [List.getElem?_set_self hl] at h1; cases h1
    · rw [List.getElem?_eq_none (by simpa using hl)] at h1; cases h1
  · rw [List.getElem?_set_ne hj] at h1 h2
    exact ⟨j, e, h1, h2⟩
theorem Rel.set (R : Rel S P ρ σ H) (i : Nat) {v : V} {d : D} (r : Rp (Nn P ρ σ) H v d) : Rel S P (ρ.set i (some (.sh d))) (σ.set i (some v)) H := by
  have hN : ∀ a, Nn P (ρ.set i (some (.sh d))) (σ.set i (some v)) a → Nn P ρ σ a := fun a h => h.elim .inl fun q => .inr (own_set q)
  have key : ∀ (j : Nat) (b : B), i ≠ j → (ρ.set i (some (.sh d)))[j]? = some (some b) → ρ[j]? = some (some b) := fun j b hj h => by rwa [List.getElem?_set_ne hj] at h
  have ne : ∀ (j : Nat) (e : D), (ρ.set i (some (.sh d)))[j]? = some (some (.own e)) → i ≠ j := fun j e h z => by
    subst z
    by_cases hl : i < ρ.length
    · rw [List.getElem?_set_self hl] at h; cases h
    · rw [List.getElem?_eq_none (by simpa using hl)] at h; cases h
  refine ⟨by simp [R.len], R.sub, R.fitP, R.inv, fun j e h => ?_, fun j e h => ?_, fun j k e f a h1 h2 h3 h4 => ?_, fun j h => ?_⟩
  · by_cases hj : i = j
    · subst hj
      have hl : i < ρ.length := by
        by_cases hl : i < ρ.length
        · exact hl
        · rw [List.getElem?_eq_none (by simpa using hl)] at h; cases h
      rw [List.getElem?_set_self hl] at h
      cases h
      exact ⟨v, by rw [List.getElem?_set_self (by rw [← R.len]; exact hl)], r.less hN⟩
    · obtain ⟨w, q, rw'⟩ := R.sh j e (key j _ hj h)
      exact ⟨w, by rw [List.getElem?_set_ne hj]; exact q, rw'.less hN⟩
  · have hj := ne j e h
    obtain ⟨a, q, l, rw', n⟩ := R.own j e (key j _ hj h)
    exact ⟨a, by rw [List.getElem?_set_ne hj]; exact q, l, rw'.less hN, n⟩
  · have hj := ne j e h1
    have hk := ne k f h2
    rw [List.getElem?_set_ne hj] at h1 h3
    rw [List.getElem?_set_ne hk] at h2 h4
    exact R.dis j k e f a h1 h2 h3 h4
  · by_cases hj : i = j
    · subst hj
      by_cases hl : i < ρ.length
      · rw [List.getElem?_set_self hl] at h; cases h
      · rw [List.getElem?_eq_none (by simpa using hl)] at h; cases h
    · rw [List.getElem?_set_ne hj]; exact R.src j (key j _ hj h)
/-- which slots may be another's behind a target -/
def Sto (vs : List Nat) (ρ ρ' : Nv) (σ σ' : L2.St) : Prop := ∀ i, i ∉ vs → ρ'[i]? = ρ[i]? ∧ σ'[i]? = σ[i]?
theorem Sto.refl {vs : List Nat} : Sto vs ρ ρ σ σ := fun _ _ => ⟨rfl, rfl⟩
theorem Sto.trans {vs ws : List Nat} {ρ2 : Nv} {σ2 : L2.St} (a : Sto vs ρ ρ' σ σ') (b : Sto ws ρ' ρ2 σ' σ2) : Sto (vs ++ ws) ρ ρ2 σ σ2 := fun i h => by
  simp only [List.mem_append, not_or] at h
  exact ⟨(b i h.2).1.trans (a i h.1).1, (b i h.2).2.trans (a i h.1).2⟩
theorem wipe_at {i : Nat} : ∀ {vs : List Nat}, i ∈ vs → i < σ.length → (L2.wipe σ vs)[i]? = some none
  | v :: vs, h, hl => by
    show ((L2.wipe σ vs).set v none)[i]? = _
    by_cases e : v = i
    · subst e; rw [List.getElem?_set_self (by rw [wipe_length]; exact hl)]
    · rw [List.getElem?_set_ne e]
      exact wipe_at ((List.mem_cons.mp h).resolve_left (Ne.symm e)) hl
theorem Sto.wipe {vs : List Nat} (h : Sto vs ρ ρ' σ σ') (hl : σ'.length = σ.length) : L2.wipe σ' vs = L2.wipe σ vs := by
  apply List.ext_getElem?
  intro i
  by_cases hi : i ∈ vs
  · by_cases hl2 : i < σ.length
    · rw [wipe_at hi hl2, wipe_at hi (by omega)]
    · rw [List.getElem?_eq_none (by rw [wipe_length]; omega), List.getElem?_eq_none (by rw [wipe_length]; omega)]
  · rw [wipe_keep hi, wipe_keep hi, (h i hi).2]
theorem Sto.own {vs : List Nat} (h : Sto vs ρ ρ' σ σ') (hf : free ρ vs = true) {a : Addr} (o : OwnAt ρ σ a) : OwnAt ρ' σ' a := by
  obtain ⟨i, d, h1, h2⟩ := o
  have hi : i ∉ vs := fun z => by
    have := List.all_eq_true.mp hf i z
    rw [h1] at this
    cases this
  exact ⟨i, d, by rw [(h i hi).1]; exact h1, by rw [(h i hi).2]; exact h2⟩
/-- a target's reading -/
def tG (g : G) : TG := fun v σ H Q => ∃ S P ρ d ρ', Rel S P ρ σ H ∧ Rp (Nn P ρ σ) H v d ∧ asg g d ρ = some ρ' ∧ ∀ σ', Rel S P ρ' σ' H → Sto (gSlots g) ρ ρ' σ σ' → (∀ a, Nn P ρ' σ' a → Nn P ρ σ a) → Q σ' H
def tGs (gs : List G) : TGs := fun vs σ H Q => ∃ S P ρ ds ρ', Rel S P ρ σ H ∧ RpAll (Nn P ρ σ) H vs ds ∧ asgs gs ds ρ = some ρ' ∧ ∀ σ', Rel S P ρ' σ' H → Sto (gsSlots gs) ρ ρ' σ σ' → (∀ a, Nn P ρ' σ' a → Nn P ρ σ a) → Q σ' H
end
section
variable {X : Cx}
theorem PG.weak {x : PySem.Expr} {t t' : TG} (h : PG X x t) (w : ∀ v σ H Q, t' v σ H Q → t v σ H Q) : PG X x t' := ⟨fun pins s σ H v u Q I r q => h.run pins s σ H v u Q I r (w v σ H Q q)⟩
theorem PGs.weak {x : List PySem.Expr} {t t' : TGs} (h : PGs X x t) (w : ∀ v σ H Q, t' v σ H Q → t v σ H Q) : PGs X x t' := ⟨fun pins s σ H v u Q I r q => h.run pins s σ H v u Q I r (w v σ H Q q)⟩
theorem assignEach_cons (e : PySem.Expr) (es : List PySem.Expr) (env : PySem.Env) (h : notStar e = true) : (assignEach (e :: es) env).map (·.2) = assign e env :: (assignEach es env).map (·.2) := by
  cases e <;> first | rfl | cases h
theorem chkG_star {N : List Str} {sc : Scope} {own : Str → Bool} {g : G} {x : PySem.Expr} (h : chkG N sc own g x = true) : notStar x = true := by
  cases g <;> cases x <;> first | rfl | (unfold chkG at h; cases h)
theorem chkGs_shape {N : List Str} {sc : Scope} {own : Str → Bool} {env : PySem.Env} : ∀ {gs : List G} {xs : List PySem.Expr}, chkGs N sc own gs xs = true → (assignEach xs env).length = gs.length ∧ (assignEach xs env).findIdx? (·.1) = none
  | [], [], _ => ⟨rfl, rfl⟩
  | g :: gs, x :: xs, h => by
    unfold chkGs at h
    rw [Bool.and_eq_true] at h
    obtain ⟨h1, h2⟩ := chkGs_shape (env := env) h.2
    have hs := chkG_star h.1
    have e : assignEach (x :: xs) env = (false, assign x env) :: assignEach xs env := by cases x <;> first | rfl | cases hs
    rw [e]
    refine ⟨by simp [h1], ?_⟩
    rw [List.findIdx?_cons]
    simp [h2]
  | [], _ :: _, h => by unfold chkGs at h; cases h
  | _ :: _, [], h => by unfold chkGs at h; cases h
theorem asgs_len {ρ ρ' : Nv} : ∀ {gs : List G} {ds : List D}, asgs gs ds ρ = some ρ' → ds.length = gs.length
  | [], [], _ => rfl
  | g :: gs, d :: ds, h => by
    unfold asgs at h
    obtain ⟨ρ1, _, e2⟩ := Option.bind_eq_some_iff.mp h
    simp [asgs_len e2]
  | [], _ :: _, h => by unfold asgs at h; cases h
  | _ :: _, [], h => by unfold asgs at h; cases h
theorem PG.or {x : PySem.Expr} {t t' : TG} (h : PG X x t) (h' : PG X x t') : PG X x (fun v σ H Q => t v σ H Q ∨ t' v σ H Q) := ⟨fun pins s σ H v u Q I r q => q.elim (h.run pins s σ H v u Q I r) (h'.run pins s σ H v u Q I r)⟩
mutual
theorem okG {own : Str → Bool} (hN : X.N.Nodup) (hc : X.calm = true) (ho : ∀ x, own x = true → X.fn x = true ∨ X.env.scope.names.lookup x = some .local) : ∀ (g : G) (x : PySem.Expr), chkG X.N X.env.scope own g x = true → PG X x (tG g)
  | .v i, .Name x p, h => by
    unfold chkG at h
    simp only [Bool.and_eq_true, decide_eq_true_eq] at h
    have h2 := h.1.2
    unfold locB at h2
    have hl : L2.Loc X.env.scope x := by
      unfold L2.Loc
      split at h2 <;> first | exact .inl (by assumption) | exact .inr (by assumption) | cases h2
    refine PG.weak (pg_name (i := i) hN h.1.1 hl (ho x h.2)) fun v σ H Q ⟨S, P, ρ, d, ρ', R, r, e, q⟩ => ?_
    unfold asg at e
    cases e
    refine q _ (R.set i r) (fun j hj => ?_) fun a z => z.elim .inl fun q => .inr (own_set q)
    have : i ≠ j := fun z => hj (by simp [gSlots, z])
    exact ⟨List.getElem?_set_ne this, List.getElem?_set_ne this⟩
  | .tup gs, .Tuple es k p, h => by
    unfold chkG at h
    obtain ⟨s1, s2⟩ := chkGs_shape (env := X.env) h
    have hh := okGs hN hc ho gs es h
    refine PG.weak (PG.or (pg_tup (k := k) (pos := p) (n := gs.length) hc hh s1 s2) (pg_unl (k := k) (pos := p) (n := gs.length) hc hh s1 s2)) fun v σ H Q ⟨S, P, ρ, d, ρ', R, r, e, q⟩ => ?_
    cases d with
    | tuple ds =>
      unfold asg at e
      obtain ⟨a, xs, rfl, ha, rr⟩ := (RpB.of r).tup_of
      exact .inl ⟨a, xs, rfl, SqT.of ha, by rw [rr.length]; exact asgs_len e, S, P, ρ, ds, ρ', R, rr, e, q⟩
    | list ds =>
      unfold asg at e
      obtain ⟨a, xs, rfl, ha, rr⟩ := (RpB.of r).list_of
      exact .inr ⟨a, xs, rfl, SqL.of ha, by rw [rr.length]; exact asgs_len e, S, P, ρ, ds, ρ', R, rr, e, q⟩
    | none => unfold asg at e; cases e
    | bool _ => unfold asg at e; cases e
    | int _ => unfold asg at e; cases e
    | str _ => unfold asg at e; cases e
    | dict _ => unfold asg at e; cases e
theorem okGs {own : Str → Bool} (hN : X.N.Nodup) (hc : X.calm = true) (ho : ∀ x, own x = true → X.fn x = true ∨ X.env.scope.names.lookup x = some .local) : ∀ (gs : List G) (xs : List PySem.Expr), chkGs X.N X.env.scope own gs xs = true → PGs X xs (tGs gs)
  | [], [], h => PGs.weak pgs_nil fun v σ H Q ⟨S, P, ρ, d, ρ', R, r, e, q⟩ => by
    cases d with
    | nil => cases r; unfold asgs at e; cases e; exact ⟨rfl, q σ R Sto.refl fun a z => z⟩
    | cons _ _ => unfold asgs at e; cases e
  | g :: gs, x :: xs, h => by
    unfold chkGs at h
    rw [Bool.and_eq_true] at h
    refine PGs.weak (pgs_cons (okG hN hc ho g x h.1) (okGs hN hc ho gs xs h.2) (assignEach_cons x xs X.env (chkG_star h.1))) fun v σ H Q ⟨S, P, ρ, d, ρ', R, r, e, q⟩ => ?_
    cases d with
    | nil => unfold asgs at e; cases e
    | cons d ds =>
      cases r with
      | cons r1 rs =>
        unfold asgs at e
        obtain ⟨ρ1, e1, e2⟩ := Option.bind_eq_some_iff.mp e
        refine ⟨_, _, rfl, S, P, ρ, d, ρ1, R, r1, e1, fun σ1 R1 st1 n1 => ?_⟩
        refine ⟨S, P, ρ1, ds, ρ', R1, rs.less n1, e2, fun σ2 R2 st2 n2 => ?_⟩
        exact q σ2 R2 (st1.trans st2) fun a z => n1 a (n2 a z)
end
end
end PD
/-! PDl: walks, list comprehensions, calls. -/
namespace PD
open PySem L2 RZ

/-- J gives, from H1 on, what ds tells, while all but M stands -/
structure Wk (M N : Zn) (H1 : Hp) (J : L2.It) (ds : List D) : Prop where
  len : ds.length ≤ sizeLine
  go : ∀ i H d, Ext M H1 H → ds[i]? = some d → J.go i H
  yld : ∀ i H d x H', Ext M H1 H → ds[i]? = some d → J.yld i H x H' → Ext No H H' ∧ ∀ N', (∀ a, N' a → N a ∨ H1 a = none) → Rp N' H' x d
  stop : ∀ i H, Ext M H1 H → ds.length ≤ i → J.stop i H

section
variable {C : Calls} {X : Cx} {tb : List (Str × Nat)} {tg : PySem.Expr}
theorem PI.weak {x : PySem.Expr} {t t' : TI} (h : PI X tg x t) (w : ∀ σ H Q, t' σ H Q → t σ H Q) : PI X tg x t' := ⟨fun pins s σ H R I q => h.run pins s σ H R I (w σ H R q)⟩
theorem PI.or {x : PySem.Expr} {t t' : TI} (h : PI X tg x t) (h' : PI X tg x t') : PI X tg x (fun σ H Q => t σ H Q ∨ t' σ H Q) := ⟨fun pins s σ H R I q => q.elim (h.run pins s σ H R I) (h'.run pins s σ H R I)⟩
def tI (C : Calls) (b : Bool) (it : PD.It) : TI := fun σ H R => ∃ S P ρ Q0, Rel S P ρ σ H ∧ evi C b it ρ Q0 ∧ ∀ ds, Q0 ds → ∀ J H', Ext S.dom H H' → S.inv H' → Wk (if b = true then S.dom else Nn P ρ σ) (Nn P ρ σ) H' J ds → R J H'
theorem walks_list {K : PySem.W.Frag} {M N : Zn} {H : Hp} {a : Addr} {vs : List V} {ds : List D} (hl : ds.length ≤ sizeLine) (ha : H a = some (.lst vs)) (nM : ¬ M a) (r : RpAll N H vs ds) (f : Fit N H) (hM : ∀ b, M b → N b) : Wk M N H (Itl K a) ds where
  len := hl
  go := fun i H' d e h => by
    obtain ⟨v, hv, _⟩ := r.get' h
    exact ⟨vs, v, SqL.of (e _ _ ha nM), hv⟩
  yld := fun i H' d x H2 e h y => by
    obtain ⟨rfl, y⟩ := y
    have hv := y vs (SqL.of (e _ _ ha nM))
    obtain ⟨d', hd, rd⟩ := r.get hv
    rw [h] at hd; cases hd
    exact ⟨Ext.refl, fun N' hN => rd.move (e.mono hM) f hN⟩
  stop := fun i H' e h => ⟨vs, SqL.of (e _ _ ha nM), by rw [r.length]; exact h⟩
theorem walks_tup {K : PySem.W.Frag} {M N : Zn} {H : Hp} {a : Addr} {vs : List V} {ds : List D} (hl : ds.length ≤ sizeLine) (ha : H a = some (.tup vs)) (nM : ¬ M a) (r : RpAll N H vs ds) (f : Fit N H) (hM : ∀ b, M b → N b) : Wk M N H (Itt K a) ds where
  len := hl
  go := fun i H' d e h => by
    obtain ⟨v, hv, _⟩ := r.get' h
    exact ⟨vs, v, SqT.of (e _ _ ha nM), hv⟩
  yld := fun i H' d x H2 e h y => by
    obtain ⟨rfl, y⟩ := y
    have hv := y vs (SqT.of (e _ _ ha nM))
    obtain ⟨d', hd, rd⟩ := r.get hv
    rw [h] at hd; cases hd
    exact ⟨Ext.refl, fun N' hN => rd.move (e.mono hM) f hN⟩
  stop := fun i H' e h => ⟨vs, SqT.of (e _ _ ha nM), by rw [r.length]; exact h⟩
theorem rangeI_get {a b : Int} {i : Nat} {d : D} (h : (rangeI a b)[i]? = some d) : i < (b - a).toNat ∧ d = .int (a + i) := by
  unfold rangeI at h
  rw [List.getElem?_map] at h
  obtain ⟨j, hj, rfl⟩ := Option.map_eq_some_iff.mp h
  obtain ⟨h1, h2⟩ := List.getElem?_eq_some_iff.mp hj
  rw [List.length_range] at h1
  rw [List.getElem_range] at h2
  exact ⟨h1, by rw [h2]⟩
theorem walks_rng {M N : Zn} {H : Hp} {a b : Int} (h : RgOk a b) : Wk M N H (Itr a (b - a).toNat) (rangeI a b) where
  len := by
    unfold rangeI
    rw [List.length_map, List.length_range, sizeLine_eq]
    exact h.2.2.2.2
  go := fun i H' d e q => (rangeI_get q).1
  yld := fun i H' d x H2 e q y => by
    obtain ⟨rfl, rfl⟩ := y
    obtain ⟨_, rfl⟩ := rangeI_get q
    exact ⟨Ext.refl, fun _ _ => .int _⟩
  stop := fun i H' e q => by
    unfold rangeI at q
    rw [List.length_map, List.length_range] at q
    exact q
theorem pi_seq {R' : V → Hp → (L2.It → Hp → Prop) → Prop} {l : PySem.Expr} {tl : TE} (hl : PE X l tl)
    (hR : ∀ x H R, R' x H R → ∃ a, x = .ref a ∧ ((∃ xs, SqL X.K H a xs ∧ R (Itl X.K a) H) ∨ (∃ xs, SqT X.K H a xs ∧ R (Itt X.K a) H))) : PI X tg l (fun σ H R => tl σ H fun x H1 => R' x H1 R) := by
  refine ⟨fun pins s σ H R I h => ?_⟩
  refine thn (hl.run pins s σ H _ I h) fun v s1 ⟨x, H1, I1, r1, q1⟩ => ?_
  obtain ⟨a, rfl, ⟨xs, hq, q⟩ | ⟨xs, hq, q⟩⟩ := hR _ _ _ q1
  · cases r1
    obtain ⟨its, rv, p, hz⟩ := I1.list hq
    refine wpAny_pyIter_list p.isList ?_
    refine ⟨s1.heap.objs.size, [s1.heap.objs.size], _, _, H1, rfl, I1.kept (t' := s1.toks) fun b o e => Heap.get?_push_of_some _ e, turn_list a _, ⟨_, Heap.get?_push_size _ rfl, rfl, rfl⟩, fun b hb => ?_, q⟩
    have e : b = s1.heap.objs.size := by simpa using hb
    subst e
    exact I1.fpOk (Nat.le_refl _) (I1.hok.fresh (Nat.le_refl _))
  · cases r1
    obtain ⟨its, rv, p, hz⟩ := I1.tuple hq
    refine wpAny_pyIter_tuple (show s1.heap.IsTuple a its.toArray from p) ?_
    refine ⟨s1.heap.objs.size, [s1.heap.objs.size], _, _, H1, rfl, I1.kept (t' := s1.toks) fun b o e => Heap.get?_push_of_some _ e, turn_tuple a _, ⟨_, Heap.get?_push_size _ rfl, rfl, rfl⟩, fun b hb => ?_, q⟩
    have e : b = s1.heap.objs.size := by simpa using hb
    subst e
    exact I1.fpOk (Nat.le_refl _) (I1.hok.fresh (Nat.le_refl _))
/-- what a walked value wants -/
def SeqR (x : V) (H : Hp) (R : L2.It → Hp → Prop) (K : PySem.W.Frag) : Prop := ∃ M N d ds, RpB N H x d ∧ ltD d = some ds ∧ Fit N H ∧ (∀ b, M b → N b) ∧ (∀ a, x = .ref a → ¬ M a) ∧ ds.length ≤ sizeLine ∧ ∀ J, Wk M N H J ds → R J H
theorem seqR_ok {K : PySem.W.Frag} {x : V} {H : Hp} {R : L2.It → Hp → Prop} (h : SeqR x H R K) : ∃ a, x = .ref a ∧ ((∃ xs, SqL K H a xs ∧ R (Itl K a) H) ∨ (∃ xs, SqT K H a xs ∧ R (Itt K a) H)) := by
  obtain ⟨M, N, d, ds, r, hd, f, hM, nM, hz, q⟩ := h
  cases d <;> simp only [ltD] at hd <;> cases hd
  · obtain ⟨a, xs, rfl, ha, rr⟩ := r.list_of
    exact ⟨a, rfl, .inl ⟨xs, SqL.of ha, q _ (walks_list hz ha (nM a rfl) rr f hM)⟩⟩
  · obtain ⟨a, xs, rfl, ha, rr⟩ := r.tup_of
    exact ⟨a, rfl, .inr ⟨xs, SqT.of ha, q _ (walks_tup hz ha (nM a rfl) rr f hM)⟩⟩
theorem seq_size {pins : List (Addr × Obj)} {s : Shared} {σ : L2.St} {H : Hp} {N : Zn} {v : V} {d : D} {ds : List D} (I : Inv X pins σ H s) (r : RpB N H v d) (hd : ltD d = some ds) : ds.length ≤ sizeLine := by
  cases d <;> simp only [ltD] at hd <;> cases hd
  · obtain ⟨a, xs, rfl, ha, rr⟩ := r.list_of
    obtain ⟨_, _, _, hz⟩ := I.list (SqL.of ha)
    rw [← rr.length]; exact hz
  · obtain ⟨a, xs, rfl, ha, rr⟩ := r.tup_of
    obtain ⟨_, _, _, hz⟩ := I.tuple (SqT.of ha)
    rw [← rr.length]; exact hz
/-- a list or tuple walked -/
theorem it_val (b : Bool) {e : E} {x : PySem.Expr} (hb : PE X x (tBo C e)) (he : PE X x (tE C e)) : PI X tg x (tI C b (.val e)) := by
  have szE : ∀ {t : TE}, PE X x t → PE X x (fun σ H Q => t σ H fun v H' => (∀ N d ds, RpB N H' v d → ltD d = some ds → ds.length ≤ sizeLine) → Q v H') := fun h =>
    ⟨fun pins s σ H Q I q => thn (h.run pins s σ H _ I q) fun u s1 ⟨v, H1, I1, r1, q1⟩ => ⟨v, H1, I1, r1, q1 fun N d ds r hd => seq_size I1 r hd⟩⟩
  cases b with
  | true =>
    refine PI.weak (pi_seq (szE hb) (R' := fun x H R => SeqR x H R X.K) fun x H R h => seqR_ok h) fun σ H R ⟨S, P, ρ, Q0, R', h, q⟩ => ?_
    refine ⟨S, P, ρ, _, R', h, fun d hd v H1 e1 i1 r1 sz => ?_⟩
    obtain ⟨ds, eds, q0⟩ := hd
    have R1 := R'.ext e1 i1
    exact ⟨S.dom, _, d, ds, r1.1, eds, R1.fit, R1.domN, r1.2, sz _ d ds r1.1 eds, fun J w => q ds q0 J H1 e1 i1 w⟩
  | false =>
    refine PI.weak (pi_seq (szE he) (R' := fun x H R => SeqR x H R X.K) fun x H R h => seqR_ok h) fun σ H R ⟨S, P, ρ, Q0, R', h, q⟩ => ?_
    refine ⟨S, P, ρ, _, R', h, fun d hd v H1 e1 i1 r1 _ sz => ?_⟩
    obtain ⟨ds, eds, q0⟩ := hd
    have R1 := R'.ext e1 i1
    refine ⟨Nn P ρ σ, _, d, ds, .of r1, eds, R1.fit, fun _ z => z, fun a ea z => ?_, sz _ d ds (.of r1) eds, fun J w => q ds q0 J H1 e1 i1 w⟩
    subst ea
    cases r1 with
    | lst n _ _ => exact n z
    | tup ha _ =>
      obtain ⟨o, ho, m⟩ := R1.fit.dom a z
      rw [ha] at ho; cases ho; exact m
    | dK n _ _ => exact n z
    | dT n _ _ _ => exact n z
theorem rngD_of {lo hi : D} {ds : List D} (h : rngD lo hi = some ds) : ∃ a b, lo = .int a ∧ hi = .int b ∧ RgOk a b ∧ ds = rangeI a b := by
  unfold rngD at h
  split at h
  · split at h <;> cases h
    exact ⟨_, _, rfl, rfl, by assumption, rfl⟩
  · cases h
theorem it_rng1 (b : Bool) {hi : E} {x : PySem.Expr} {p p2 : Pos} (hg : Gl X "range") (hm : X.mg "range" = none) (hs : notStar x = true) (h : PE X x (tE C hi)) : PI X tg (.Call (.Name "range" p) [x] [] p2) (tI C b (.rng .no hi)) := by
  have hst : starEach [x] X.env = [(false, eval x X.env)] := star_eq hs
  refine PI.weak (pi_range1 hg hm (pa_cons h pa_nil hst) hst) fun σ H R ⟨S, P, ρ, Q0, R', h, q⟩ => ?_
  refine ⟨S, P, ρ, _, R', h, fun d hd v H1 e1 i1 r1 _ => ?_⟩
  obtain ⟨ds, eds, q0⟩ := hd
  obtain ⟨a, c, ea, rfl, hr, rfl⟩ := rngD_of eds
  cases ea
  cases (RpB.of r1).int_of
  refine ⟨c, rfl, hr.2.2.1, hr.2.2.2.1, ?_⟩
  have w := q _ q0 (Itr 0 (c - 0).toNat) H1 e1 i1 (walks_rng hr)
  rwa [Int.sub_zero] at w
theorem it_rng2 (b : Bool) {lo hi : E} {x y : PySem.Expr} {p p2 : Pos} (hg : Gl X "range") (hm : X.mg "range" = none) (hs : notStar x = true) (hs2 : notStar y = true) (hl : PE X x (tE C lo)) (h : PE X y (tE C hi)) : PI X tg (.Call (.Name "range" p) [x, y] [] p2) (tI C b (.rng (.yes lo) hi)) := by
  have hst2 : starEach [y] X.env = [(false, eval y X.env)] := star_eq hs2
  have hst : starEach [x, y] X.env = [(false, eval x X.env), (false, eval y X.env)] := (star_eq hs).trans (by rw [hst2])
  refine PI.weak (pi_range2 hg hm (pa_cons hl (pa_cons h pa_nil hst2) (star_eq hs)) hst hst2) fun σ H R ⟨S, P, ρ, Q0, R', h, q⟩ => ?_
  refine ⟨S, P, ρ, _, R', h, fun d hd v H1 e1 i1 r1 _ => ?_⟩
  have R1 := R'.ext e1 i1
  obtain ⟨j, rfl, hd⟩ := hd
  cases (RpB.of r1).int_of
  refine ⟨S, P, ρ, _, R1, hd, fun d2 hd2 v2 H2 e2 i2 r2 _ => ?_⟩
  obtain ⟨ds, eds, q0⟩ := hd2
  obtain ⟨a, c, ea, rfl, hr, rfl⟩ := rngD_of eds
  cases ea
  cases (RpB.of r2).int_of
  exact ⟨_, _, rfl, ⟨hr.1, hr.2.1, hr.2.2.1, hr.2.2.2.1⟩, q _ q0 (Itr j (c - j).toNat) H2 (e1.trans e2) i2 (walks_rng hr)⟩
theorem zip_get {xs ys : List D} {i : Nat} {d : D} (h : (List.zipWith pairT xs ys)[i]? = some d) : ∃ x y, xs[i]? = some x ∧ ys[i]? = some y ∧ d = .tuple [x, y] := by
  rw [List.getElem?_zipWith] at h
  split at h
  · cases h; exact ⟨_, _, by assumption, by assumption, rfl⟩
  · cases h
theorem walks_zipL {K : PySem.W.Frag} {M N : Zn} {H : Hp} {a b : Addr} {vs ws : List V} {ds es : List D} (hl : ds.length ≤ sizeLine) (ha : H a = some (.lst vs)) (hb : H b = some (.lst ws)) (nM : ¬ M a) (nM2 : ¬ M b) (r : RpAll N H vs ds) (r2 : RpAll N H ws es) (f : Fit N H) (hM : ∀ b, M b → N b) : Wk M N H (Itz K a b) (List.zipWith pairT ds es) where
  len := by rw [List.length_zipWith]; omega
  go := fun i H' d e h => by
    obtain ⟨x, y, hx, hy, rfl⟩ := zip_get h
    obtain ⟨v, hv, _⟩ := r.get' hx
    obtain ⟨w, hw, _⟩ := r2.get' hy
    exact ⟨vs, ws, v, w, SqL.of (e _ _ ha nM), SqL.of (e _ _ hb nM2), hv, hw⟩
  yld := fun i H' d x H2 e h y => by
    obtain ⟨p, q, hp, hq, rfl⟩ := zip_get h
    obtain ⟨T, u, v, rfl, hT, rfl, hu, hv⟩ := y
    obtain ⟨d1, h1, rd1⟩ := r.get (hu vs (SqL.of (e _ _ ha nM)))
    obtain ⟨d2, h2, rd2⟩ := r2.get (hv ws (SqL.of (e _ _ hb nM2)))
    rw [hp] at h1; rw [hq] at h2
    cases h1; cases h2
    have en : Ext No H' (upd H' T (.tup [u, v])) := Ext.new hT
    have e2 : Ext N H (upd H' T (.tup [u, v])) := (e.mono hM).trans (en.any N)
    exact ⟨en, fun N' hN => .tup upd_same (.cons (rd1.move e2 f hN) (.cons (rd2.move e2 f hN) .nil))⟩
  stop := fun i H' e h => ⟨vs, ws, SqL.of (e _ _ ha nM), SqL.of (e _ _ hb nM2), by rw [List.length_zipWith] at h; rw [r.length, r2.length]; omega⟩
theorem walks_zipT {K : PySem.W.Frag} {M N : Zn} {H : Hp} {a b : Addr} {vs ws : List V} {ds es : List D} (hl : ds.length ≤ sizeLine) (ha : H a = some (.tup vs)) (hb : H b = some (.tup ws)) (nM : ¬ M a) (nM2 : ¬ M b) (r : RpAll N H vs ds) (r2 : RpAll N H ws es) (f : Fit N H) (hM : ∀ b, M b → N b) : Wk M N H (ItzT K a b) (List.zipWith pairT ds es) where
  len := by rw [List.length_zipWith]; omega
  go := fun i H' d e h => by
    obtain ⟨x, y, hx, hy, rfl⟩ := zip_get h
    obtain ⟨v, hv, _⟩ := r.get' hx
    obtain ⟨w, hw, _⟩ := r2.get' hy
    exact ⟨vs, ws, v, w, SqT.of (e _ _ ha nM), SqT.of (e _ _ hb nM2), hv, hw⟩
  yld := fun i H' d x H2 e h y => by
    obtain ⟨p, q, hp, hq, rfl⟩ := zip_get h
    obtain ⟨T, u, v, rfl, hT, rfl, hu, hv⟩ := y
    obtain ⟨d1, h1, rd1⟩ := r.get (hu vs (SqT.of (e _ _ ha nM)))
    obtain ⟨d2, h2, rd2⟩ := r2.get (hv ws (SqT.of (e _ _ hb nM2)))
    rw [hp] at h1; rw [hq] at h2
    cases h1; cases h2
    have en : Ext No H' (upd H' T (.tup [u, v])) := Ext.new hT
    have e2 : Ext N H (upd H' T (.tup [u, v])) := (e.mono hM).trans (en.any N)
    exact ⟨en, fun N' hN => .tup upd_same (.cons (rd1.move e2 f hN) (.cons (rd2.move e2 f hN) .nil))⟩
  stop := fun i H' e h => ⟨vs, ws, SqT.of (e _ _ ha nM), SqT.of (e _ _ hb nM2), by rw [List.length_zipWith] at h; rw [r.length, r2.length]; omega⟩
theorem size_of {t : TE} {x : PySem.Expr} (h : PE X x t) : PE X x (fun σ H Q => t σ H fun v H' => (∀ N d ds, RpB N H' v d → ltD d = some ds → ds.length ≤ sizeLine) → Q v H') :=
  ⟨fun pins s σ H Q I q => thn (h.run pins s σ H _ I q) fun u s1 ⟨v, H1, I1, r1, q1⟩ => ⟨v, H1, I1, r1, q1 fun N d ds r hd => seq_size I1 r hd⟩⟩
theorem zip_run {K : PySem.W.Frag} {M N : Zn} {H : Hp} {x y : V} {d e : D} {ds : List D} {R : L2.It → Hp → Prop} (r : RpB N H x d) (r2 : RpB N H y e) (hz : zipD d e = some ds) (f : Fit N H) (hM : ∀ b, M b → N b) (n1 : ∀ a, x = .ref a → ¬ M a) (n2 : ∀ a, y = .ref a → ¬ M a) (sz : ∀ zs, ltD d = some zs → zs.length ≤ sizeLine) (q : ∀ J, Wk M N H J ds → R J H) :
    ∃ a b xs ys, [x, y] = [.ref a, .ref b] ∧ ((SqL K H a xs ∧ SqL K H b ys ∧ R (Itz K a b) H) ∨ (SqT K H a xs ∧ SqT K H b ys ∧ R (ItzT K a b) H)) := by
  unfold zipD at hz
  split at hz
  · cases hz
    obtain ⟨a, xs, rfl, ha, rr⟩ := r.list_of
    obtain ⟨b, ys, rfl, hb, rr2⟩ := r2.list_of
    exact ⟨a, b, xs, ys, rfl, .inl ⟨SqL.of ha, SqL.of hb, q _ (walks_zipL (sz _ rfl) ha hb (n1 a rfl) (n2 b rfl) rr rr2 f hM)⟩⟩
  · cases hz
    obtain ⟨a, xs, rfl, ha, rr⟩ := r.tup_of
    obtain ⟨b, ys, rfl, hb, rr2⟩ := r2.tup_of
    exact ⟨a, b, xs, ys, rfl, .inr ⟨SqT.of ha, SqT.of hb, q _ (walks_zipT (sz _ rfl) ha hb (n1 a rfl) (n2 b rfl) rr rr2 f hM)⟩⟩
  · cases hz
theorem rp_top {N : Zn} {H : Hp} {v : V} {d : D} (r : Rp N H v d) (f : Fit N H) : ∀ a, v = .ref a → ¬ N a := fun a ea z => by
  subst ea
  cases r with
  | lst n _ _ => exact n z
  | tup ha _ =>
    obtain ⟨o, ho, m⟩ := f.dom a z
    rw [ha] at ho; cases ho; exact m
  | dK n _ _ => exact n z
  | dT n _ _ _ => exact n z
theorem it_zip (b : Bool) {e f : E} {x y : PySem.Expr} {p p2 tpos : Pos} {elts : List PySem.Expr} {kk : Nat} (hg : Gl X "zip") (hm : X.mg "zip" = none) (hs : notStar x = true) (hs2 : notStar y = true) (hxB : PE X x (tBo C e)) (hxE : PE X x (tE C e)) (hyB : PE X y (tBo C f)) (hyE : PE X y (tE C f)) :
    PI X (.Tuple elts kk tpos) (.Call (.Name "zip" p) [x, y] [] p2) (tI C b (.zip e f)) := by
  have hst2 : starEach [y] X.env = [(false, eval y X.env)] := star_eq hs2
  have hpl : (backTo p2 (starEach [y] X.env)).any (·.1) = false := by rw [hst2]; rfl
  cases b with
  | true =>
    refine PI.weak (pi_zipA hg hm (pa_cons (size_of hxB) (pa_cons hyB pa_nil hst2) (star_eq hs)) (star_eq hs) hpl) fun σ H R ⟨S, P, ρ, Q0, R', h, q⟩ => ?_
    refine ⟨S, P, ρ, _, R', h, fun d hd v H1 e1 i1 r1 sz => ?_⟩
    have R1 := R'.ext e1 i1
    refine ⟨S, P, ρ, _, R1, hd, fun d2 hd2 v2 H2 e2 i2 r2 => ?_⟩
    have R2 := R1.ext e2 i2
    obtain ⟨ds, eds, q0⟩ := hd2
    have r1' := r1.ext R1.fit R1.domN e2
    exact zip_run r1'.1 r2.1 eds R2.fit R2.domN r1'.2 r2.2 (fun zs hz => sz _ d zs r1.1 hz) fun J w => q ds q0 J H2 (e1.trans e2) i2 w
  | false =>
    refine PI.weak (pi_zipA hg hm (pa_cons (size_of hxE) (pa_cons hyE pa_nil hst2) (star_eq hs)) (star_eq hs) hpl) fun σ H R ⟨S, P, ρ, Q0, R', h, q⟩ => ?_
    refine ⟨S, P, ρ, _, R', h, fun d hd v H1 e1 i1 r1 _ sz => ?_⟩
    have R1 := R'.ext e1 i1
    refine ⟨S, P, ρ, _, R1, hd, fun d2 hd2 v2 H2 e2 i2 r2 _ => ?_⟩
    have R2 := R1.ext e2 i2
    obtain ⟨ds, eds, q0⟩ := hd2
    have r1' := r1.ext (e2.mono R1.domN) R1.fit
    exact zip_run (.of r1') (.of r2) eds R2.fit (fun _ z => z) (rp_top r1' R2.fit) (rp_top r2 R2.fit) (fun zs hz => sz _ d zs (.of r1) hz) fun J w => q ds q0 J H2 (e1.trans e2) i2 w
def tTo (C : Calls) (c : To) : TT := fun σ H Q => ∃ S P ρ Q0, Rel S P ρ σ H ∧ evc C c ρ Q0 ∧ ∀ b, Q0 b → ∀ H', Ext S.dom H H' → S.inv H' → Q b H'
theorem to_no : PTs X [] (tTo C .no) := ⟨fun pins s σ H Q I ⟨S, P, ρ, Q0, R, h, q⟩ => pts_nil.run pins s σ H Q I (q _ h H Ext.refl R.inv)⟩
theorem to_yes {c : T} {x : PySem.Expr} (h : PT X x (tT C c)) : PTs X [x] (tTo C (.yes c)) := ⟨fun pins s σ H Q I ⟨S, P, ρ, Q0, R, hh, q⟩ => (pts_one h).run pins s σ H Q I ⟨S, P, ρ, Q0, R, hh, q⟩⟩
theorem Ext.mut {M : Zn} {H1 H : Hp} {p : Addr} {o : HO} (e : Ext M H1 H) (hp : H1 p = none) : Ext M H1 (upd H p o) := fun a q ha n => by
  rw [upd_ne (ne_of_none ha hp)]; exact e a q ha n
theorem wipe_wipe {σ : L2.St} {vs : List Nat} : wipe (wipe σ vs) vs = wipe σ vs := by
  apply List.ext_getElem?
  intro i
  by_cases hi : i ∈ vs
  · by_cases hl2 : i < σ.length
    · rw [wipe_at hi hl2, wipe_at hi (by rw [wipe_length]; exact hl2)]
    · rw [List.getElem?_eq_none (by rw [wipe_length, wipe_length]; omega), List.getElem?_eq_none (by rw [wipe_length]; omega)]
  · rw [wipe_keep hi]
mutual
theorem asg_len : ∀ {g : G} {d : D} {ρ ρ' : Nv}, asg g d ρ = some ρ' → ρ'.length = ρ.length
  | .v i, d, ρ, ρ', h => by unfold asg at h; cases h; simp
  | .tup gs, .tuple ds, ρ, ρ', h => by unfold asg at h; exact asgs_len2 h
  | .tup gs, .list ds, ρ, ρ', h => by unfold asg at h; exact asgs_len2 h
  | .tup _, .none, ρ, ρ', h => by unfold asg at h; cases h
  | .tup _, .bool _, ρ, ρ', h => by unfold asg at h; cases h
  | .tup _, .int _, ρ, ρ', h => by unfold asg at h; cases h
  | .tup _, .str _, ρ, ρ', h => by unfold asg at h; cases h
  | .tup _, .dict _, ρ, ρ', h => by unfold asg at h; cases h
theorem asgs_len2 : ∀ {gs : List G} {ds : List D} {ρ ρ' : Nv}, asgs gs ds ρ = some ρ' → ρ'.length = ρ.length
  | [], [], ρ, ρ', h => by unfold asgs at h; cases h; rfl
  | g :: gs, d :: ds, ρ, ρ', h => by
    unfold asgs at h
    obtain ⟨ρ1, e1, e2⟩ := Option.bind_eq_some_iff.mp h
    rw [asgs_len2 e2, asg_len e1]
  | [], _ :: _, _, _, h => by unfold asgs at h; cases h
  | _ :: _, [], _, _, h => by unfold asgs at h; cases h
end
/-- a list comprehension -/
theorem ev_lc {vs : List Nat} {g : G} {it : PD.It} {c : To} {elt : E} {tg iter x : PySem.Expr} {ifs : List PySem.Expr} {scope : Scope} {own : List (Str × Nat)} {pos : Pos} (hc : X.calm = true) (hN : X.N.Nodup) (hi : PI X tg iter (tI C true it)) (ok : BlkOk X.N X.env.scope scope own) (hv : own.map (·.2) = vs) (hgs : gSlots g = vs)
    (hg : ∀ (s : Shared) (H : Hp) (Cc : Addr) (cl : List (Str × Addr)) (fp : List Addr), PG (X.blk s H scope (compEnvC scope cl Cc X.env) fp) tg (tG g)) (ht : ∀ (s : Shared) (H : Hp) (Cc : Addr) (cl : List (Str × Addr)) (fp : List Addr), PTs (X.blk s H scope (compEnvC scope cl Cc X.env) fp) ifs (tTo C c))
    (he : ∀ (s : Shared) (H : Hp) (Cc : Addr) (cl : List (Str × Addr)) (fp : List Addr), PE (X.blk s H scope (compEnvC scope cl Cc X.env) fp) x (tE C elt)) (hs : ∀ z, foldedSetIterable iter X.env z = pure z) :
    PE X (.ListComp x [⟨tg, iter, ifs, 0⟩] scope pos) (tE C (.lc vs g it c elt)) ∧
    ∀ {i : Nat} {y : Str} {py spos : Pos}, X.N[i]? = some y → X.env.scope.names.lookup y = some .local → swapsWith (.ListComp x [⟨tg, iter, ifs, 0⟩] scope pos) (some (.Name y py)) spos.line X.env = pure true →
      PS X (.Assign [.Name y py] (.ListComp x [⟨tg, iter, ifs, 0⟩] scope pos) spos) (tAsg (tE C (.lc vs g it c elt)) (gName i)) := by
  have key : ∀ σ H Q, tE C (.lc vs g it c elt) σ H Q → tLc (tI C true it) (tG g) (tTo C c) (tE C elt) (own.map (·.2)) σ H Q := by
    intro σ H Q ⟨S, P, ρ, Q0, R, ⟨hf, h⟩, q⟩
    rw [hv]
    refine ⟨S, P, ρ, _, R, h, fun ds hds J H1 e1 i1 w => fun D hD => ?_⟩
    have R1 := R.ext e1 i1
    have Rp1 : Rel S (fun a => P a ∨ a = D) (wipeN ρ vs) (wipe σ vs) (upd H1 D (.lst [])) := (R1.shrink vs).prot hD trivial
    generalize hP' : (fun a => P a ∨ a = D) = P' at Rp1
    have hPD : P' D := by rw [← hP']; exact .inr rfl
    have hPP : ∀ a, P' a → P a ∨ a = D := fun a z => by rw [← hP'] at z; exact z
    have hNN : ∀ a, Nn P' (wipeN ρ vs) (wipe σ vs) a → Nn P ρ σ a ∨ H1 a = none := fun a z => by
      rcases z with z | z
      · rcases hPP a z with z | z
        · exact .inl (.inl z)
        · exact .inr (z ▸ hD)
      · exact .inl (.inr (own_wipe z))
    have hNb : ∀ a, Nn P ρ σ a → Nn P' (wipeN ρ vs) (wipe σ vs) a := fun a z => by
      rcases z with z | z
      · exact .inl (by rw [← hP']; exact .inl z)
      · exact .inr (own_free hf z)
    have nD : ¬ S.dom D := fun z => by
      obtain ⟨o, ho, _⟩ := (S.fit H1 i1).dom D z
      rw [hD] at ho; cases ho
    refine ⟨fun i m H => ∃ acc ads, i ≤ ds.length ∧ m = ds.length - i ∧ H D = some (.lst acc) ∧ Rel S P' (wipeN ρ vs) (wipe σ vs) H ∧ RpAll (Nn P' (wipeN ρ vs) (wipe σ vs)) H acc ads ∧ ads.length ≤ i ∧ Ext S.dom H1 H ∧
      lcW (ds.drop i) (fun d K => lift (asg g d (wipeN ρ vs)) fun ρ' => evc C c ρ' fun t => if t = true then ev C elt ρ' (fun y => K (some y)) else K none) (fun r => Q0 (.list (ads ++ r))), ⟨ds.length, [], [], Nat.zero_le _, rfl, upd_same, Rp1, .nil, Nat.le_refl _, Ext.new hD, by simpa using hds⟩, ?_⟩
    rintro i m H2 ⟨acc, ads, hi, rfl, hD2, R2, ra, hl, e2, hw⟩
    by_cases hlt : i < ds.length
    · right
      have hgd : ds[i]? = some ds[i] := List.getElem?_eq_getElem hlt
      refine ⟨w.go i H2 _ e2 hgd, fun H' => ∃ m', m' < ds.length - i ∧ ∃ acc ads, i + 1 ≤ ds.length ∧ m' = ds.length - (i + 1) ∧ H' D = some (.lst acc) ∧ Rel S P' (wipeN ρ vs) (wipe σ vs) H' ∧ RpAll (Nn P' (wipeN ρ vs) (wipe σ vs)) H' acc ads ∧ ads.length ≤ i + 1 ∧ Ext S.dom H1 H' ∧
        lcW (ds.drop (i + 1)) (fun d K => lift (asg g d (wipeN ρ vs)) fun ρ' => evc C c ρ' fun t => if t = true then ev C elt ρ' (fun y => K (some y)) else K none) (fun r => Q0 (.list (ads ++ r))), fun H' z => z, fun v H3 hy => ?_⟩
      obtain ⟨e3, hrp⟩ := w.yld i H2 _ v H3 e2 hgd hy
      have R3 := R2.ext0 e3
      rw [List.drop_eq_getElem_cons hlt] at hw
      obtain ⟨ρ', ea, hw⟩ := hw
      refine ⟨S, P', _, ds[i], ρ', R3, hrp _ hNN, ea, fun σ' R4 st n4 => ?_⟩
      rw [hgs] at st
      have hlen : σ'.length = (wipe σ vs).length := by
        have a1 := R4.len
        have a2 := R3.len
        have a3 : ρ'.length = (wipeN ρ vs).length := by
          exact asg_len ea
        omega
      have hff : free (wipeN ρ vs) vs = true := by
        unfold free
        rw [List.all_eq_true]
        intro j hj
        split
        · rename_i hh
          exact absurd hj (wipeN_some hh).2
        · rfl
      refine ⟨by rw [st.wipe hlen, wipe_wipe], S, P', ρ', _, R4, hw, fun b hb H5 e5 i5 => ?_⟩
      have R5 := R4.ext e5 i5
      have R5w := R3.ext e5 i5
      have hD5 : H5 D = some (.lst acc) := e5 D _ (e3 D _ hD2 fun z => z) nD
      have ra5 : RpAll (Nn P' (wipeN ρ vs) (wipe σ vs)) H5 acc ads := (ra.ext (e3.any _) R2.fit).ext (e5.mono R3.domN) R3.fit
      cases b with
      | false =>
        simp only [Bool.false_eq_true, if_false] at hb ⊢
        exact ⟨_, by omega, acc, ads, hlt, rfl, hD5, R5w, ra5, by omega, (e2.trans (e3.any _)).trans e5, by simpa using hb⟩
      | true =>
        simp only [if_true] at hb ⊢
        refine ⟨S, P', ρ', _, R5, hb, fun d hd v6 H6 e6 i6 r6 _ => ?_⟩
        have R6 := R5w.ext e6 i6
        have hD6 : H6 D = some (.lst acc) := e6 D _ hD5 nD
        refine ⟨acc, hD6, ?_, _, by omega, acc ++ [v6], ads ++ [d], hlt, rfl, upd_same, ?_, ?_, by simp; omega, ?_, ?_⟩
        · have := ra.length
          have := w.len
          omega
        · refine R6.extP (M := fun a => a = D) (fun a z => (show a = D from z) ▸ hPD) (fun a o ho n => by rw [upd_ne n]; exact ho) (S.stab _ _ i6 fun a ha => upd_ne fun z => nD (z ▸ ha)) ⟨fun a z => ?_⟩
          by_cases hz : a = D
          · exact ⟨.lst (acc ++ [v6]), by rw [hz]; exact upd_same, trivial⟩
          · obtain ⟨o, ho, m⟩ := R6.fitP.dom a z
            exact ⟨o, by rw [upd_ne hz]; exact ho, m⟩
        · have up : Ext (Nn P' (wipeN ρ vs) (wipe σ vs)) H6 (upd H6 D (.lst (acc ++ [v6]))) := fun a o ho n => by
            rw [upd_ne (fun z => n (.inl (by rw [z]; exact hPD)))]; exact ho
          have r6' : Rp (Nn P' (wipeN ρ vs) (wipe σ vs)) H6 v6 d := r6.less fun a z => z.elim .inl fun z => .inr (st.own hff z)
          exact ((ra5.ext (e6.mono R5w.domN) R5w.fit).append (.cons r6' .nil)).ext up R6.fit
        · exact ((e2.trans (e3.any _)).trans (e5.trans e6)).mut hD
        · simpa using hd
    · left
      have hi' : i = ds.length := by omega
      subst hi'
      refine ⟨w.stop _ H2 e2 (Nat.le_refl _), ?_⟩
      rw [List.drop_length] at hw
      have hw : Q0 (.list (ads ++ [])) := hw
      rw [List.append_nil] at hw
      refine q _ hw _ H2 (e1.trans e2) R2.inv (.lst (R1.fit.ne hD) hD2 (ra.less hNb)) (fun _ _ => ⟨D, rfl, fresh_trans i1 e1 hD, .lst hD2 (ra.less fun a z => z.elim (hNb a) fun z => .inl (by rw [z]; exact hPD))⟩)
  refine ⟨PE.weak (pe_lc hc hN hi ok hg ht he hs) key, fun hy hyl hsw => ?_⟩
  refine ⟨fun pins s σ H Dd I h => (ps_setLc hc hN hy hyl hsw hi ok hg ht he hs).run pins s σ H Dd I (key _ _ _ h)⟩
end
end PD
/-! PDm: calls, tests, and: every expression is as its compact form says. -/
namespace PD
open PySem L2

section
variable {C : Calls} {X : Cx} {tb : List (Str × Nat)}
theorem gl_of {x : Str} (h : glB X.env.scope x = true) : Gl X x := by
  unfold glB at h
  split at h
  · assumption
  · cases h
theorem no_star : ∀ {xs : List PySem.Expr} {env : PySem.Env} {pos : Pos}, xs.all notStar = true → (backTo pos (starEach xs env)).any (·.1) = false
  | [], _, _, _ => rfl
  | x :: xs, env, pos, h => by
    rw [List.all_cons, Bool.and_eq_true] at h
    rw [star_eq h.1]
    show (false || (backTo pos (starEach xs env)).any (·.1)) = false
    rw [no_star h.2]; rfl
theorem ev_call (G : Good tb C X) {f : Nat} {nm : Str} {np : Nat} {as : Es} {x : PySem.Expr} {xs : List PySem.Expr} {p pos : Pos} (hf : tb[f]? = some (nm, np)) (hg : glB X.env.scope nm = true) (hn : okName nm = true) (hs : (x :: xs).all notStar = true) (hl : (x :: xs).length = np)
    (ha : PA X (x :: xs) (tEa C as)) : PE X (.Call (.Name nm p) (x :: xs) [] pos) (tE C (.call f as)) := by
  obtain ⟨k, a, fd, ps, hr, hm, hk, hb, F⟩ := G.fns f nm np hf
  unfold okName at hn
  simp only [Bool.and_eq_true, Bool.not_eq_true'] at hn
  rw [List.all_cons, Bool.and_eq_true] at hs
  refine PE.weak (pe_callG F hr G.grd (gl_of hg) hm hk hb ha hn.1.1 (star_eq hs.1) (no_star hs.2)) fun σ H Q ⟨S, P, ρ, Q0, R, h, q⟩ => ?_
  refine ⟨S, P, ρ, _, R, h, fun bs hbs vs H1 e1 i1 r1 => ?_⟩
  have R1 := R.ext e1 i1
  exact ⟨S, _, bs, Q0, R1.domN, R1.fit, i1, r1, hbs, fun d hd v H2 e2 i2 r2 => q d hd v H2 (e1.trans e2) i2 r2 (fun z => nomatch z)⟩
/-- a built-in called -/
theorem w_prim {p : Prim} {as : Es} {σ : L2.St} {H : Hp} {Q : VK} (h : tE C (.prim p as) σ H Q) :
    tCB (fun xs H Q => ∃ S N ds r, Fit N H ∧ RpBs S N H xs ds ∧ primD p ds = some r ∧ Out true N H r Q) (tEb C as) σ H Q := by
  obtain ⟨S, P, ρ, Q0, R, h, q⟩ := h
  refine ⟨S, P, ρ, _, R, h, fun ds hds vs H1 e1 i1 r1 => ?_⟩
  have R1 := R.ext e1 i1
  obtain ⟨r, er, q0⟩ := hds
  refine ⟨S, _, ds, r, R1.fit, r1, er, fun v' H' e' rp fs => q r q0 v' H' (e1.trans (e'.any _)) (S.ext i1 e') rp fun f l => (fs rfl l).back i1 e1⟩
theorem ev_primB {p : Prim} {as : Es} {nm : Str} {id : String} {x : PySem.Expr} {xs : List PySem.Expr} {pp pos : Pos} (hc : PrR X p (.builtin id)) (hg : glB X.env.scope nm = true) (hm : X.mg nm = none) (hv : bootBuiltins nm = some (.builtin id)) (h1 : nm ≠ "__name__") (h2 : (nm == ("__debug__" : Str)) = false) (hs : (x :: xs).all notStar = true)
    (ha : PA X (x :: xs) (tEb C as)) : PE X (.Call (.Name nm pp) (x :: xs) [] pos) (tE C (.prim p as)) := by
  rw [List.all_cons, Bool.and_eq_true] at hs
  exact PE.weak (pe_callB hc (gl_of hg) hm hv ha h1 h2 (star_eq hs.1) (no_star hs.2)) fun σ H Q h => w_prim h
theorem ev_primT {p : Prim} {as : Es} {nm : Str} {id : String} {x : PySem.Expr} {xs : List PySem.Expr} {pp pos : Pos} (hc : PrR X p (.type id)) (hg : glB X.env.scope nm = true) (hm : X.mg nm = none) (hv : bootBuiltins nm = some (.type id)) (h1 : nm ≠ "__name__") (h2 : (nm == ("__debug__" : Str)) = false) (hs : (x :: xs).all notStar = true)
    (ha : PA X (x :: xs) (tEb C as)) : PE X (.Call (.Name nm pp) (x :: xs) [] pos) (tE C (.prim p as)) := by
  rw [List.all_cons, Bool.and_eq_true] at hs
  exact PE.weak (pe_callTy hc (gl_of hg) hm hv ha h1 h2 (star_eq hs.1) (no_star hs.2)) fun σ H Q h => w_prim h
theorem pr_repr (G : Good tb C X) : PrR X .repr (.builtin "repr") := by
  intro pins s σ H xs us Q I r h
  obtain ⟨S, N, ds, d, f, rb, hp, o⟩ := h
  unfold primD at hp
  split at hp <;> (try (rename_i e; cases e)) <;> (try cases hp)
  rename_i d
  split at hp <;> cases hp
  rename_i ok
  unfold showOk at ok
  simp only [Bool.and_eq_true, decide_eq_true_eq] at ok
  obtain ⟨⟨h1, h2⟩, h3⟩ := ok
  have hu := G.units
  obtain ⟨x, rfl, q⟩ := rb.one
  obtain ⟨u, rfl, rx⟩ := r.one
  obtain ⟨as, rd, hd⟩ := q.reads I rx
  have sm : PyData.hasDict d = true → sysModules ∉ as := fun _ z => by
    obtain ⟨ob, hob⟩ := G.smod
    obtain ⟨_, hn⟩ := I.bs _ _ hob
    obtain ⟨o', ho'⟩ := hd _ z
    rw [hn] at ho'; cases ho'
  have fin : ∀ (t : Tok) (s' : Shared), Inv X pins σ H s' → EP X pins σ Q (.str d.shown t) s' := fun t s' I' => ⟨.str _, H, I', ⟨t, rfl⟩, o.imm (.str _) rfl⟩
  cases rd with
  | none =>
    exact PySem.P.repr_of_none (fin _ _ (I.tok _))
  | bool b =>
    have e : (PyData.bool b).shown = (if b then "True" else "False" : Str) := by simp only [PyData.shown]
    rw [e] at fin
    exact PySem.P.repr_of_bool (fin _ _ (I.tok _))
  | int i t =>
    have e : (PyData.int i).shown = (toString i : Str) := by simp only [PyData.shown]
    rw [e] at fin
    exact PySem.P.repr_of_int (by simpa [PyData.showable] using h1) (fin _ _ (I.tok _))
  | str x t =>
    have e : (PyData.str x).shown = reprText x := by simp only [PyData.shown]
    rw [e] at fin h3
    exact PySem.P.repr_of_str (fin _ _ (I.tok _)) h3
  | list a1 a2 a3 a4 =>
    exact repr_of_reads' (h₀ := s.heap) (.list a1 a2 a3 a4) h1 sm G.grd (by omega) (fun _ _ q => q) (fun h' u tk hk => fin _ _ (I.kept hk)) h3
  | tuple a1 a2 a3 a4 =>
    exact repr_of_reads' (h₀ := s.heap) (.tuple a1 a2 a3 a4) h1 sm G.grd (by omega) (fun _ _ q => q) (fun h' u tk hk => fin _ _ (I.kept hk)) h3
  | dict a1 a2 a3 a4 a5 =>
    exact repr_of_reads' (h₀ := s.heap) (.dict a1 a2 a3 a4 a5) h1 sm G.grd (by omega) (fun _ _ q => q) (fun h' u tk hk => fin _ _ (I.kept hk)) h3
theorem ev_prim (G : Good tb C X) {p : Prim} {as : Es} {nm : Str} {ty : Bool} {id : String} {x : PySem.Expr} {xs : List PySem.Expr} {pp pos : Pos} (hp : primName p = some (nm, ty, id)) (hg : glB X.env.scope nm = true) (hs : (x :: xs).all notStar = true)
    (ha : PA X (x :: xs) (tEb C as)) : PE X (.Call (.Name nm pp) (x :: xs) [] pos) (tE C (.prim p as)) := by
  cases p <;> simp only [primName] at hp <;> (try cases hp)
  · exact ev_primB (pr_len G.units) hg (G.blt _ (by simp)) (by decide +kernel) (by decide) (by decide) hs ha
  · exact ev_primT pr_tuple hg (G.blt _ (by simp)) (by decide +kernel) (by decide) (by decide) hs ha
  · exact ev_primT (pr_list G.calm) hg (G.blt _ (by simp)) (by decide +kernel) (by decide) (by decide) hs ha
  · exact ev_primB (pr_sorted G.calm G.units) hg (G.blt _ (by simp)) (by decide +kernel) (by decide) (by decide) hs ha
  · exact ev_primB (pr_sum G.calm) hg (G.blt _ (by simp)) (by decide +kernel) (by decide) (by decide) hs ha
  · exact ev_primB (pr_max G.calm) hg (G.blt _ (by simp)) (by decide +kernel) (by decide) (by decide) hs ha
  · exact ev_primB (pr_min G.calm) hg (G.blt _ (by simp)) (by decide +kernel) (by decide) (by decide) hs ha
  · exact ev_primB pr_abs hg (G.blt _ (by simp)) (by decide +kernel) (by decide) (by decide) hs ha
  · exact ev_primB (pr_all G.calm) hg (G.blt _ (by simp)) (by decide +kernel) (by decide) (by decide) hs ha
  · exact ev_primB (pr_any G.calm) hg (G.blt _ (by simp)) (by decide +kernel) (by decide) (by decide) hs ha
  · exact ev_primT pr_int hg (G.blt _ (by simp)) (by decide +kernel) (by decide) (by decide) hs ha
  · exact ev_primB (pr_repr G) hg (G.blt _ (by simp)) (by decide +kernel) (by decide) (by decide) hs ha
  · exact ev_primT (pr_dictOf G.calm G.units) hg (G.blt _ (by simp)) (by decide +kernel) (by decide) (by decide) hs ha
/-! isinstance -/
def tyN : Ty → String
  | .int => "int" | .bool => "bool" | .str => "str" | .list => "list" | .tuple => "tuple" | .dict => "dict"
def tyOfD : D → String
  | .none => "NoneType" | .bool _ => "bool" | .int _ => "int" | .str _ => "str" | .list _ => "list" | .tuple _ => "tuple" | .dict _ => "dict"
theorem ty_of {N : Zn} {H : Hp} {x : V} {d : D} (h : RpB N H x d) : TyOf X.K H x (.type (tyOfD d)) := by
  cases d with
  | none => cases h.non_of; exact .non
  | bool b => cases h.bl_of; exact .bl b
  | int i => cases h.int_of; exact .int i
  | str z => cases h.str_of; exact .str z
  | list xs => obtain ⟨a, ys, rfl, ha, _⟩ := h.list_of; exact .lst ha
  | tuple xs => obtain ⟨a, ys, rfl, ha, _⟩ := h.tup_of; exact .tup ha
  | dict xs =>
    obtain ⟨a, rfl, ⟨_, _, ha, _⟩ | ⟨_, _, _, ha, _⟩⟩ := h.dict_of
    · exact .dK ha
    · exact .dT ha
theorem kit_of (d : D) (t : Ty) : PySem.W.kitOne X.K (.type (tyOfD d)) (.type (tyN t)) = some (isiD d [t]) := by
  refine kit_ty (K := X.K) ?_
  cases d <;> cases t <;> (dsimp only [tyOfD, tyN, isiD, List.any]; decide +kernel)
def rIsiD : List V → Hp → VK → Prop := fun xs H Q => ∃ N x d t, xs = [x, .ty (tyN t)] ∧ RpB N H x d ∧ Q (.bl (isiD d [t])) H
theorem cr_isi : CallR X (.builtin "isinstance") rIsiD := by
  intro pins s σ H xs us Q I r h
  obtain ⟨N, x, d, t, rfl, rb, q⟩ := h
  obtain ⟨u, v, rfl, r1, r2⟩ := r.two
  cases r2
  exact isinst_ok I r1 (ty_of rb) (kit_of d t) fun tk => ⟨.bl _, H, I.tok _, rfl, q⟩
theorem ev_isi (G : Good tb C X) {a : E} {t : Ty} {x : PySem.Expr} {tn : Str} {p p2 pos : Pos} (ht : bootBuiltins tn = some (.type (tyN t))) (hm : X.mg tn = none) (hn : tn ≠ "__name__") (hdb : (tn == ("__debug__" : Str)) = false) (hg : glB X.env.scope "isinstance" = true) (hg2 : glB X.env.scope tn = true) (hs : notStar x = true)
    (ha : PE X x (tBo C a)) : PE X (.Call (.Name "isinstance" p) [x, .Name tn p2] [] pos) (tE C (.isi a [t])) :=
  PE.weak (pe_callB cr_isi (gl_of hg) (G.blt _ (by simp)) (by decide +kernel) (pa_cons ha (pa_cons (pe_bltn (v := .ty (tyN t)) (gl_of hg2) hm ht rfl hn hdb) pa_nil) (star_eq hs)) (by decide) (by decide) (star_eq hs)) fun σ H Q ⟨S, P, ρ, Q0, R, h, q⟩ =>
    ⟨S, P, ρ, _, R, h, fun d hd v H1 e1 i1 r1 => ⟨_, v, d, t, rfl, r1.1, q _ hd _ H1 e1 i1 (.bl _) (fun z => nomatch z)⟩⟩
/-! list(range(..)), tuple(range(..)) -/
def tRgE (C : Calls) (lo : Eo) (hi : E) : L2.St → Hp → (Int → Int → Hp → Prop) → Prop := fun σ H Q => ∃ S P ρ Q0, Rel S P ρ σ H ∧ (evo C lo ρ fun l => ev C hi ρ fun h => lift (rngD (.int (l.getD 0)) h) Q0) ∧ ∀ a b, RgOk a b → Q0 (rangeI a b) → ∀ H', Ext S.dom H H' → S.inv H' → Q a b H'
theorem prg_e1 (G : Good tb C X) {hi : E} {x : PySem.Expr} {p pos : Pos} (hg : glB X.env.scope "range" = true) (hs : notStar x = true) (h : PE X x (tE C hi)) : PRg X (.Call (.Name "range" p) [x] [] pos) (tRgE C .no hi) :=
  fun pins s σ H Q I ⟨S, P, ρ, Q0, R, hh, q⟩ => prg_1 (gl_of hg) (G.blt _ (by simp)) h (star_eq hs) pins s σ H Q I ⟨S, P, ρ, _, R, hh, fun d hd v H1 e1 i1 r1 _ => by
    obtain ⟨ds, eds, q0⟩ := hd
    obtain ⟨a, c, ea, rfl, hr, rfl⟩ := rngD_of eds
    cases ea
    exact ⟨c, (RpB.of r1).int_of, q _ _ hr q0 H1 e1 i1⟩⟩
theorem prg_e2 (G : Good tb C X) {lo hi : E} {x y : PySem.Expr} {p pos : Pos} (hg : glB X.env.scope "range" = true) (hs : notStar x = true) (hs2 : notStar y = true) (hl : PE X x (tE C lo)) (h : PE X y (tE C hi)) : PRg X (.Call (.Name "range" p) [x, y] [] pos) (tRgE C (.yes lo) hi) :=
  fun pins s σ H Q I ⟨S, P, ρ, Q0, R, hh, q⟩ => prg_2 (gl_of hg) (G.blt _ (by simp)) hl h (star_eq hs) (star_eq hs2) (no_star (by simp [hs2])) pins s σ H Q I ⟨S, P, ρ, _, R, hh, fun d hd v H1 e1 i1 r1 _ => by
    obtain ⟨j, rfl, hd⟩ := hd
    refine ⟨S, P, ρ, _, R.ext e1 i1, hd, fun d2 hd2 v2 H2 e2 i2 r2 _ => ?_⟩
    obtain ⟨ds, eds, q0⟩ := hd2
    obtain ⟨a, c, ea, rfl, hr, rfl⟩ := rngD_of eds
    cases ea
    exact ⟨j, c, (RpB.of r1).int_of, (RpB.of r2).int_of, q _ _ hr q0 H2 (e1.trans e2) i2⟩⟩
theorem rgV_rp {N : Zn} {H : Hp} (a b : Int) : RpAll N H (rgV a b) (rangeI a b) := by
  unfold rgV rangeI
  generalize List.range (b - a).toNat = l
  induction l with
  | nil => exact .nil
  | cons i l ih => exact .cons (.int _) ih
theorem ev_rg (G : Good tb C X) {t : Bool} {lo : Eo} {hi : E} {x : PySem.Expr} {p pos : Pos} (hg : glB X.env.scope (if t then "tuple" else "list") = true) (hs : notStar x = true) (h : PRg X x (tRgE C lo hi)) : PE X (.Call (.Name (if t then "tuple" else "list") p) [x] [] pos) (tE C (.rg t lo hi)) := by
  cases t with
  | true =>
    refine PE.weak (pe_tupRg G.calm (gl_of hg) (G.blt _ (by simp)) h (star_eq hs)) fun σ H Q ⟨S, P, ρ, Q0, R, hh, q⟩ => ⟨S, P, ρ, _, R, hh, fun a b hr q0 H1 e1 i1 => ⟨hr, fun z hz => ?_⟩⟩
    exact q _ q0 _ _ (e1.trans (Ext.new hz)) (S.ext i1 (Ext.new hz)) (.tup upd_same (rgV_rp a b)) (fun z => nomatch z)
  | false =>
    refine PE.weak (pe_listRg G.calm (gl_of hg) (G.blt _ (by simp)) h (star_eq hs)) fun σ H Q ⟨S, P, ρ, Q0, R, hh, q⟩ => ⟨S, P, ρ, _, R, hh, fun a b hr q0 H1 e1 i1 => ⟨hr, fun z hz => ?_⟩⟩
    exact q _ q0 _ _ (e1.trans (Ext.new hz)) (S.ext i1 (Ext.new hz)) (.lst ((R.ext e1 i1).fit.ne hz) upd_same (rgV_rp a b)) (fun _ _ => (freshL (R.ext e1 i1).fit (rgV_rp a b) hz).back i1 e1)
/-! tests -/
theorem t_plain {a : E} {x : PySem.Expr} (hp : plainTest x = true) (h : PE X x (tBo C a)) : PT X x (tT C (.e a)) :=
  PT.weak (pt_truth h (by intro w; cases x <;> first | rfl | cases hp)) fun σ H Q ⟨S, P, ρ, Q0, R, hh, q⟩ => ⟨S, P, ρ, _, R, hh, fun d hd v H1 e1 i1 r1 => by
    obtain ⟨k, ek, q0⟩ := hd
    exact ⟨k, truV_of r1.1 ek, q k q0 H1 e1 i1⟩⟩
theorem t_cmp (hu : X.A.units + 64 < cLine) {op : COp} {a b : E} {x y : PySem.Expr} {p : Pos} (ha : PE X x (tBo C a)) (hb : PE X y (tBo C b)) (hs : notSet y = true) : PT X (.Compare x [copF op] [y] p) (tT C (.e (.cmp op a b))) :=
  PT.weak (pt_cmpR (op2_cop hu op) ha hb (by cases y <;> first | rfl | cases hs)) fun σ H Q ⟨S, P, ρ, Q0, R, h, q⟩ => by
    refine w_op2s (C := C) (a := a) (b := b) (sem := copD op) (fr := false) ⟨S, P, ρ, (fun d => lift (truD d) Q0), R, h, fun d hd hb v H1 e1 i1 r1 _ => ?_⟩
    obtain ⟨k, ek, q0⟩ := hd
    obtain ⟨_, _, eb⟩ := hb
    obtain ⟨k', rfl⟩ := copD_bool eb
    cases ek
    exact ⟨_, (RpB.of r1).bl_of, q _ q0 H1 e1 i1⟩
theorem t_chain (hu : X.A.units + 64 < cLine) {o1 o2 : COp} {a b c : E} {x y z : PySem.Expr} {p : Pos} (ha : PE X x (tBo C a)) (hb : PE X y (tBo C b)) (hc : PE X z (tBo C c)) (hs : notSet z = true) :
    PT X (.Compare x [copF o1, copF o2] [y, z] p) (tT C (.e (.chain o1 o2 a b c))) := by
  refine PT.weak (pt_chain (op2_cop hu o1) (op2_cop hu o2) ha hb hc (by
    show behindInMarks (copF o2) z = false
    cases z <;> first | rfl | cases hs)) fun σ H Q ⟨S, P, ρ, Q0, R, h, q⟩ => ?_
  refine ⟨S, P, ρ, _, R, h, fun d hd v H1 e1 i1 r1 => ?_⟩
  have R1 := R.ext e1 i1
  refine ⟨S, P, ρ, _, R1, hd, fun d2 hd2 v2 H2 e2 i2 r2 => ?_⟩
  have R2 := R1.ext e2 i2
  obtain ⟨w, ew, k, ek, hk⟩ := hd2
  refine ⟨_, d, d2, w, R2.fit, (r1.ext R1.fit R1.domN e2).1, r2.1, ew, fun v' H' e' rp _ => ?_⟩
  obtain ⟨k', rfl⟩ := copD_bool ew
  cases ek
  cases (RpB.of rp).bl_of
  refine ⟨_, rfl, ?_⟩
  have R3 := R2.ext0 e'
  cases k with
  | false =>
    simp only [Bool.false_eq_true, if_false] at hk ⊢
    obtain ⟨k2, ek2, q0⟩ := hk
    cases ek2
    exact ⟨_, rfl, q _ q0 H' ((e1.trans e2).trans (e'.any _)) R3.inv⟩
  | true =>
    simp only [if_true] at hk ⊢
    refine ⟨S, P, ρ, _, R3, hk, fun d3 hd3 v3 H3 e3 i3 r3 => ?_⟩
    have R4 := R3.ext e3 i3
    obtain ⟨u, eu, k2, ek2, q0⟩ := hd3
    refine ⟨_, d2, d3, u, R4.fit, ((r2.ext R2.fit R2.domN (e'.any _)).ext R3.fit R3.domN e3).1, r3.1, eu, fun v4 H4 e4 rp4 _ => ?_⟩
    obtain ⟨k3, rfl⟩ := copD_bool eu
    cases ek2
    exact ⟨_, (RpB.of rp4).bl_of, q _ q0 H4 ((((e1.trans e2).trans (e'.any _)).trans e3).trans (e4.any _)) (S.ext i3 e4)⟩
theorem t_and {a b : T} {x y : PySem.Expr} {r : List PySem.Expr} {p : Pos} (ha : PT X x (tT C a)) (hb : PW X (.BoolOp .And (y :: r) p) (tT C b)) : PW X (.BoolOp .And (x :: y :: r) p) (tT C (.and a b)) :=
  ⟨fun whole pins s σ H Q I ⟨S, P, ρ, Q0, R, h, q⟩ => (pw_and ha hb).run whole pins s σ H Q I ⟨S, P, ρ, _, R, h, fun c hc H1 e1 i1 => by
    cases c with
    | true =>
      simp only [if_true] at hc ⊢
      exact ⟨S, P, ρ, _, R.ext e1 i1, hc, fun k hk H2 e2 i2 => q k hk H2 (e1.trans e2) i2⟩
    | false =>
      simp only [Bool.false_eq_true, if_false] at hc ⊢
      exact q _ hc H1 e1 i1⟩⟩
theorem t_or {a b : T} {x y : PySem.Expr} {r : List PySem.Expr} {p : Pos} (ha : PT X x (tT C a)) (hb : PW X (.BoolOp .Or (y :: r) p) (tT C b)) : PW X (.BoolOp .Or (x :: y :: r) p) (tT C (.or a b)) :=
  ⟨fun whole pins s σ H Q I ⟨S, P, ρ, Q0, R, h, q⟩ => (pw_or ha hb).run whole pins s σ H Q I ⟨S, P, ρ, _, R, h, fun c hc H1 e1 i1 => by
    cases c with
    | true =>
      simp only [if_true] at hc ⊢
      exact q _ hc H1 e1 i1
    | false =>
      simp only [Bool.false_eq_true, if_false] at hc ⊢
      exact ⟨S, P, ρ, _, R.ext e1 i1, hc, fun k hk H2 e2 i2 => q k hk H2 (e1.trans e2) i2⟩⟩⟩
theorem t_not {a : T} {x : PySem.Expr} {p : Pos} (ha : PT X x (tT C a)) : PT X (.UnaryOp .Not x p) (tT C (.not a)) :=
  PT.weak (pt_not ha) fun σ H Q ⟨S, P, ρ, Q0, R, h, q⟩ => ⟨S, P, ρ, _, R, h, fun c hc H1 e1 i1 => q _ hc H1 e1 i1⟩
end
end PD
set_option maxHeartbeats 4000000
/-! PDn: every expression is as its compact form says. -/
namespace PD
open PySem L2
section
variable {C : Calls} {tb : List (Str × Nat)}
theorem folded_plain {X : Cx} {x : PySem.Expr} (h : notSet x = true) : ∀ z, foldedSetIterable x X.env z = pure z := by
  intro z
  cases x <;> first | rfl | cases h
theorem fnB_ok {sc scope : Scope} {z : Str} (h : fnB scope z = true) : (scope.names.lookup z == some .cell) = true ∨ (relS scope sc).names.lookup z = some .local := by
  unfold fnB at h
  rw [Bool.or_eq_true] at h
  rcases h with h | h
  · exact .inl h
  · exact .inr (lookup_relS_keep (by decide) (eq_of_beq h))
theorem var_ok {X : Cx} {e : E} {x : PySem.Expr} (h : chkE X.N tb e X.env.scope x = true) : ∀ i, e = .var i → PE X x (tVar i) := by
  rintro i rfl
  unfold chkE at h
  split at h
  · exact var_of rfl h
  · cases h
theorem unB_pe {X : Cx} {op : PySem.BoolOp} {y : PySem.Expr} {r : List PySem.Expr} {p : Pos} {t : TE} (h : PE X (unB (.BoolOp op (y :: r) p)) t) : PE X (.BoolOp op (y :: r) p) t := by
  cases r with
  | nil => exact pe_one h
  | cons z r => exact h
theorem bnd {a b : Bool} (h : (a && b) = true) : a = true ∧ b = true := by rwa [Bool.and_eq_true] at h
theorem tyS_ok (t : Ty) : bootBuiltins (tyS t) = some (.type (tyN t)) ∧ tyS t ≠ "__name__" ∧ (tyS t == ("__debug__" : Str)) = false ∧ tyS t ∈ (["len", "tuple", "list", "sorted", "sum", "max", "min", "abs", "all", "any", "int", "repr", "range", "isinstance", "dict", "zip", "enumerate", "reversed", "str", "set", "bool"] : List Str) := by
  cases t <;> exact ⟨by decide +kernel, by decide +kernel, by decide +kernel, by decide +kernel⟩
mutual
theorem okE : ∀ (e : E) (X : Cx) (x : PySem.Expr), Good tb C X → chkE X.N tb e X.env.scope x = true → PE X x (tE C e)
  | .var i, X, x, G, h => ev_var (var_ok h i rfl)
  | .cst d, X, x, G, h => by
    unfold chkE at h; split at h
    · exact ev_cst h
    · cases h
  | .bin op a b, X, x, G, h => by
    unfold chkE at h; split at h
    · obtain ⟨h, h2⟩ := bnd h
      obtain ⟨h0, h1⟩ := bnd h
      rw [← of_decide_eq_true h0]
      exact ev_bin (bo_of (var_ok h1) (okE a X _ G h1)) (bo_of (var_ok h2) (okE b X _ G h2))
    · cases h
  | .neg a, X, x, G, h => by
    unfold chkE at h; split at h
    · exact ev_neg (bo_of (var_ok h) (okE a X _ G h))
    · cases h
  | .not a, X, x, G, h => by
    unfold chkE at h; split at h
    · exact ev_not (bo_of (var_ok h) (okE a X _ G h))
    · cases h
  | .and a b, X, x, G, h => by
    unfold chkE at h; split at h
    · obtain ⟨h1, h2⟩ := bnd h
      exact ev_and (okE a X _ G h1) (unB_pe (okE b X _ G h2))
    · cases h
  | .or a b, X, x, G, h => by
    unfold chkE at h; split at h
    · obtain ⟨h1, h2⟩ := bnd h
      exact ev_or (okE a X _ G h1) (unB_pe (okE b X _ G h2))
    · cases h
  | .cmp op a b, X, x, G, h => by
    unfold chkE at h; split at h
    · obtain ⟨h, h3⟩ := bnd h
      obtain ⟨h, h2⟩ := bnd h
      obtain ⟨h0, h1⟩ := bnd h
      rw [← of_decide_eq_true h0]
      exact ev_cmp G.units (bo_of (var_ok h1) (okE a X _ G h1)) (bo_of (var_ok h2) (okE b X _ G h2)) h3
    · cases h
  | .chain o1 o2 a b c, X, x, G, h => by
    unfold chkE at h; split at h
    · obtain ⟨h, h5⟩ := bnd h
      obtain ⟨h, h4⟩ := bnd h
      obtain ⟨h, h3⟩ := bnd h
      obtain ⟨h, h2⟩ := bnd h
      obtain ⟨h0, h1⟩ := bnd h
      rw [← of_decide_eq_true h0, ← of_decide_eq_true h1]
      exact ev_chain G.units (bo_of (var_ok h2) (okE a X _ G h2)) (bo_of (var_ok h3) (okE b X _ G h3)) (bo_of (var_ok h4) (okE c X _ G h4)) h5
    · cases h
  | .ife c a b, X, x, G, h => by
    unfold chkE at h; split at h
    · obtain ⟨h, h2⟩ := bnd h
      obtain ⟨h0, h1⟩ := bnd h
      exact ev_ife (okT c X _ G h0).1 (okE a X _ G h1) (okE b X _ G h2)
    · cases h
  | .tup es, X, x, G, h => by
    unfold chkE at h; split at h
    · exact ev_tup (okEs es X _ G h)
    · cases h
  | .lst es, X, x, G, h => by
    unfold chkE at h; split at h
    · exact ev_lst (okEs es X _ G h)
    · cases h
  | .dnew, X, x, G, h => by
    unfold chkE at h; split at h
    · exact ev_dnew
    · cases h
  | .idx a i, X, x, G, h => by
    unfold chkE at h; split at h
    · obtain ⟨h, h2⟩ := bnd h
      obtain ⟨h0, h1⟩ := bnd h
      exact ev_idx G.units (bo_of (var_ok h1) (okE a X _ G h1)) (okE i X _ G h2) h0
    · cases h
  | .slc a lo hi, X, x, G, h => by
    unfold chkE at h; split at h
    · obtain ⟨h, h2⟩ := bnd h
      obtain ⟨h0, h1⟩ := bnd h
      exact ev_slc (bo_of (var_ok h0) (okE a X _ G h0)) (okEo lo X _ G h1) (okEo hi X _ G h2)
    · cases h
  | .rev a, X, x, G, h => by
    unfold chkE at h; split at h
    · exact ev_rev (bo_of (var_ok h) (okE a X _ G h))
    · cases h
  | .call f as, X, x, G, h => by
    unfold chkE at h; split at h
    · rename_i x0 p0 xs pos0
      split at h
      · rename_i nm np hf
        obtain ⟨h, h6⟩ := bnd h
        obtain ⟨h, h5⟩ := bnd h
        obtain ⟨h, h4⟩ := bnd h
        obtain ⟨h, h3⟩ := bnd h
        obtain ⟨h, h2⟩ := bnd h
        obtain ⟨h0, h1⟩ := bnd h
        have e := of_decide_eq_true h0
        subst e
        cases xs with
        | nil => cases h3
        | cons y ys => exact ev_call G hf h1 h2 h5 (of_decide_eq_true h6) (okEa as X _ G h4)
      · cases h
    · cases h
  | .prim p as, X, x, G, h => by
    unfold chkE at h; split at h
    · rename_i x0 p0 xs pos0
      split at h
      · rename_i nm ty id hf
        obtain ⟨h, h5⟩ := bnd h
        obtain ⟨h, h4⟩ := bnd h
        obtain ⟨h, h3⟩ := bnd h
        obtain ⟨h0, h1⟩ := bnd h
        have e := of_decide_eq_true h0
        subst e
        cases xs with
        | nil => cases h3
        | cons y ys => exact ev_prim G hf h1 h5 (okEb as X _ G h4)
      · cases h
    · cases h
  | .isi a ts, X, x, G, h => by
    unfold chkE at h; split at h
    · split at h
      · rename_i t
        obtain ⟨h, h5⟩ := bnd h
        obtain ⟨h, h4⟩ := bnd h
        obtain ⟨h, h3⟩ := bnd h
        obtain ⟨h, h2⟩ := bnd h
        obtain ⟨h0, h1⟩ := bnd h
        have e := of_decide_eq_true h0
        have e2 := of_decide_eq_true h2
        subst e e2
        obtain ⟨t1, t2, t3, t4⟩ := tyS_ok t
        exact ev_isi G t1 (G.blt _ t4) t2 t3 h1 h3 h4 (bo_of (var_ok h5) (okE a X _ G h5))
      · cases h
    · cases h
  | .lc vs g it c elt, X, x, G, h => by
    unfold chkE at h; split at h
    · rename_i x0 tg iter ifs scope pos0
      obtain ⟨h, h6⟩ := bnd h
      obtain ⟨h, h5⟩ := bnd h
      obtain ⟨h, h4⟩ := bnd h
      obtain ⟨h, h3⟩ := bnd h
      obtain ⟨h, h2⟩ := bnd h
      obtain ⟨h0, h1⟩ := bnd h
      have hl := of_decide_eq_true h2
      obtain ⟨i1, i2⟩ := okIt it X tg _ G h4
      exact (ev_lc G.calm G.nd (i1 true) (blkOk_by h0) (by rw [List.map_snd_zip]; omega) (of_decide_eq_true h1).symm
        (fun s H Cc cl fp => okG (X := X.blk s H scope (compEnvC scope cl Cc X.env) fp) G.nd G.calm (fun z hz => fnB_ok hz) g tg h3)
        (fun s H Cc cl fp => okTo c (X.blk s H scope (compEnvC scope cl Cc X.env) fp) _ (G.blk _ _ _ _ _) h5)
        (fun s H Cc cl fp => okE elt (X.blk s H scope (compEnvC scope cl Cc X.env) fp) _ (G.blk _ _ _ _ _) h6) (folded_plain i2)).1
    · cases h
  | .rg t lo hi, X, x, G, h => by
    unfold chkE at h; split at h
    · obtain ⟨h, h4⟩ := bnd h
      obtain ⟨h, h3⟩ := bnd h
      obtain ⟨h, h2⟩ := bnd h
      obtain ⟨h0, h1⟩ := bnd h
      have e := of_decide_eq_true h0
      have e2 := of_decide_eq_true h2
      subst e e2
      split at h4
      · obtain ⟨a1, a2⟩ := bnd h4
        exact ev_rg G h1 rfl (prg_e1 G h3 a2 (okE hi X _ G a1))
      · rename_i l _ _
        obtain ⟨h4, a4⟩ := bnd h4
        obtain ⟨h4, a3⟩ := bnd h4
        obtain ⟨a1, a2⟩ := bnd h4
        exact ev_rg G h1 rfl (prg_e2 G h3 a3 a4 (okE l X _ G a1) (okE hi X _ G a2))
      · cases h4
    · cases h
  | .lc2 .., X, x, G, h => by unfold chkE at h; cases h
  | .dc .., X, x, G, h => by unfold chkE at h; cases h
  | .srt .., X, x, G, h => by unfold chkE at h; cases h
theorem okT : ∀ (c : T) (X : Cx) (x : PySem.Expr), Good tb C X → chkT X.N tb c X.env.scope x = true → PT X x (tT C c) ∧ ∀ op vs p, x = .BoolOp op vs p → PW X x (tT C c)
  | .and a b, X, x, G, h => by
    unfold chkT at h; split at h
    · obtain ⟨h1, h2⟩ := bnd h
      rename_i u y r p
      have hb : PW X (.BoolOp .And (y :: r) p) (tT C b) := by
        cases r with
        | nil => exact pw_and1 (okT b X _ G h2).1
        | cons z r => exact (okT b X _ G h2).2 _ _ _ rfl
      have w := t_and (okT a X _ G h1).1 hb
      exact ⟨w.pt, fun _ _ _ _ => w⟩
    · cases h
  | .or a b, X, x, G, h => by
    unfold chkT at h; split at h
    · obtain ⟨h1, h2⟩ := bnd h
      rename_i u y r p
      have hb : PW X (.BoolOp .Or (y :: r) p) (tT C b) := by
        cases r with
        | nil => exact pw_or1 (okT b X _ G h2).1
        | cons z r => exact (okT b X _ G h2).2 _ _ _ rfl
      have w := t_or (okT a X _ G h1).1 hb
      exact ⟨w.pt, fun _ _ _ _ => w⟩
    · cases h
  | .not a, X, x, G, h => by
    unfold chkT at h; split at h
    · exact ⟨t_not (okT a X _ G h).1, fun _ _ _ e => by cases e⟩
    · cases h
  | .e a, X, x, G, h => by
    unfold chkT at h
    obtain ⟨h1, h2⟩ := bnd h
    by_cases hp : plainTest x = true
    · exact ⟨t_plain hp (bo_of (var_ok h1) (okE a X _ G h1)), fun _ _ _ e => by subst e; cases hp⟩
    · have hc : isCmp a = true := by
        rw [Bool.or_eq_true] at h2
        exact h2.resolve_left hp
      cases a with
      | cmp op a b =>
        unfold chkE at h1; split at h1
        · obtain ⟨h, h3⟩ := bnd h1
          obtain ⟨h, h2⟩ := bnd h
          obtain ⟨h0, h1⟩ := bnd h
          rw [← of_decide_eq_true h0]
          exact ⟨t_cmp G.units (bo_of (var_ok h1) (okE a X _ G h1)) (bo_of (var_ok h2) (okE b X _ G h2)) h3, fun _ _ _ e => by cases e⟩
        · cases h1
      | chain o1 o2 a b c =>
        unfold chkE at h1; split at h1
        · obtain ⟨h, h5⟩ := bnd h1
          obtain ⟨h, h4⟩ := bnd h
          obtain ⟨h, h3⟩ := bnd h
          obtain ⟨h, h2⟩ := bnd h
          obtain ⟨h0, h1⟩ := bnd h
          rw [← of_decide_eq_true h0, ← of_decide_eq_true h1]
          exact ⟨t_chain G.units (bo_of (var_ok h2) (okE a X _ G h2)) (bo_of (var_ok h3) (okE b X _ G h3)) (bo_of (var_ok h4) (okE c X _ G h4)) h5, fun _ _ _ e => by cases e⟩
        · cases h1
      | _ => cases hc
theorem okTo : ∀ (c : To) (X : Cx) (xs : List PySem.Expr), Good tb C X → chkTo X.N tb c X.env.scope xs = true → PTs X xs (tTo C c)
  | .no, X, xs, G, h => by
    unfold chkTo at h; split at h
    · exact to_no
    · cases h
  | .yes c, X, xs, G, h => by
    unfold chkTo at h; split at h
    · exact to_yes (okT c X _ G h).1
    · cases h
theorem okEs : ∀ (es : Es) (X : Cx) (xs : List PySem.Expr), Good tb C X → chkEs X.N tb es X.env.scope xs = true → PA X xs (tEs C es)
  | .nil, X, xs, G, h => by
    unfold chkEs at h; split at h
    · exact es_nil
    · cases h
  | .cons e r, X, xs, G, h => by
    unfold chkEs at h; split at h
    · obtain ⟨h, h3⟩ := bnd h
      obtain ⟨h1, h2⟩ := bnd h
      exact es_cons h1 (okE e X _ G h2) (okEs r X _ G h3)
    · cases h
  | .star e r, X, xs, G, h => by
    unfold chkEs at h; split at h
    · obtain ⟨h1, h2⟩ := bnd h
      exact es_star (bo_of (var_ok h1) (okE e X _ G h1)) (okEs r X _ G h2)
    · cases h
theorem okEb : ∀ (es : Es) (X : Cx) (xs : List PySem.Expr), Good tb C X → chkEs X.N tb es X.env.scope xs = true → PA X xs (tEb C es)
  | .nil, X, xs, G, h => by
    unfold chkEs at h; split at h
    · exact eb_nil
    · cases h
  | .cons e r, X, xs, G, h => by
    unfold chkEs at h; split at h
    · obtain ⟨h, h3⟩ := bnd h
      obtain ⟨h1, h2⟩ := bnd h
      exact eb_cons h1 (bo_of (var_ok h2) (okE e X _ G h2)) (okEb r X _ G h3)
    · cases h
  | .star e r, X, xs, G, h => by
    exact ⟨fun _ _ _ _ _ _ _ ⟨_, _, _, _, _, z, _⟩ => z.elim⟩
theorem okEa : ∀ (es : Es) (X : Cx) (xs : List PySem.Expr), Good tb C X → chkEs X.N tb es X.env.scope xs = true → PA X xs (tEa C es)
  | .nil, X, xs, G, h => by
    unfold chkEs at h; split at h
    · exact ea_nil
    · cases h
  | .cons e r, X, xs, G, h => by
    unfold chkEs at h; split at h
    · obtain ⟨h, h3⟩ := bnd h
      obtain ⟨h1, h2⟩ := bnd h
      exact ea_cons h1 (var_ok h2) (okE e X _ G h2) (okEa r X _ G h3)
    · cases h
  | .star e r, X, xs, G, h => by
    exact ⟨fun _ _ _ _ _ _ _ ⟨_, _, _, _, _, z, _⟩ => z.elim⟩
theorem okEo : ∀ (e : Eo) (X : Cx) (x : Option PySem.Expr), Good tb C X → chkEo X.N tb e X.env.scope x = true → PO X x (tEo C e)
  | .no, X, x, G, h => by
    unfold chkEo at h; split at h
    · exact eo_no
    · cases h
  | .yes e, X, x, G, h => by
    unfold chkEo at h; split at h
    · exact eo_yes (okE e X _ G h)
    · cases h
theorem okIt : ∀ (it : PD.It) (X : Cx) (tg x : PySem.Expr), Good tb C X → chkIt X.N tb (isTup tg) it X.env.scope x = true → (∀ b, PI X tg x (tI C b it)) ∧ notSet x = true
  | .val e, X, tg, x, G, h => by
    unfold chkIt at h
    obtain ⟨h1, h2⟩ := bnd h
    exact ⟨fun b => it_val b (bo_of (var_ok h1) (okE e X _ G h1)) (okE e X _ G h1), h2⟩
  | .rng lo hi, X, tg, x, G, h => by
    unfold chkIt at h; split at h
    · obtain ⟨h, h4⟩ := bnd h
      obtain ⟨h0, h1⟩ := bnd h
      have e := of_decide_eq_true h0
      subst e
      refine ⟨fun b => ?_, rfl⟩
      split at h4
      · obtain ⟨a1, a2⟩ := bnd h4
        exact it_rng1 b (gl_of h1) (G.blt _ (by simp)) a2 (okE hi X _ G a1)
      · rename_i l _ _
        obtain ⟨h4, a4⟩ := bnd h4
        obtain ⟨h4, a3⟩ := bnd h4
        obtain ⟨a1, a2⟩ := bnd h4
        exact it_rng2 b (gl_of h1) (G.blt _ (by simp)) a3 a4 (okE l X _ G a1) (okE hi X _ G a2)
      · cases h4
    · cases h
  | .rng3 .., X, tg, x, G, h => by unfold chkIt at h; cases h
  | .enum .., X, tg, x, G, h => by unfold chkIt at h; cases h
  | .zip e f, X, tg, x, G, h => by
    unfold chkIt at h; split at h
    · obtain ⟨h, h7⟩ := bnd h
      obtain ⟨h, h6⟩ := bnd h
      obtain ⟨h, h5⟩ := bnd h
      obtain ⟨h, h4⟩ := bnd h
      obtain ⟨h, h3⟩ := bnd h
      obtain ⟨h1, h2⟩ := bnd h
      have e := of_decide_eq_true h2
      subst e
      cases tg <;> first | (cases h1; done) | skip
      exact ⟨fun b => it_zip b (gl_of h3) (G.blt _ (by simp)) h6 h7 (bo_of (var_ok h4) (okE e X _ G h4)) (okE e X _ G h4) (bo_of (var_ok h5) (okE f X _ G h5)) (okE f X _ G h5), rfl⟩
    · cases h
  | .items .., X, tg, x, G, h => by unfold chkIt at h; cases h
  | .values .., X, tg, x, G, h => by unfold chkIt at h; cases h
  | .revd .., X, tg, x, G, h => by unfold chkIt at h; cases h
end
end
end PD
/-! PDo: statements: syntax, meaning, check. -/
namespace PD
open PySem L2

mutual
inductive Sm where
  | set (o : Bool) (i : Nat) (e : E)
  | asg (g : G) (e : E)
  | par (is : List (Bool × Nat)) (es : Es)
  | aug (i : Nat) (op : BOp) (e : E)
  | ret (e : E)
  | retN
  | ite (c : T) (a b : Ss)
  | for_ (g : G) (it : It) (body : Ss)
  | whl (c : T) (body : Ss)
  | app (i : Nat) (e : E)
  | ext (i : Nat) (e : E)
  | seti (i : Nat) (k e : E)
  | popTo (g : G) (i : Nat) (k : Eo)
  | drop (e : E)
  | brk | cont | pass
inductive Ss where
  | nil | cons (s : Sm) (r : Ss) | frz (i : Nat) (r : Ss)
end
structure Ko where
  nx : Nv → Prop
  rt : D → Prop
  bk : Nv → Prop := fun _ => False
  ct : Nv → Prop := fun _ => False

def lookO (ρ : Nv) (i : Nat) : Option D := match ρ[i]? with
  | some (some (.own d)) => some d
  | _ => none
def lstD : D → Option (List D)
  | .list xs => some xs
  | _ => none
def setD : D → D → D → Option D
  | .list xs, .int i, x => (ixN xs.length i).map fun j => .list (xs.set j x)
  | .dict kvs, k, x => if isKey k && kindOk kvs k && decide (kvs.length < sizeLine) then some (.dict (dput kvs k x)) else none
  | _, _, _ => none
def popD (xs : List D) : Option Int → Option (D × List D)
  | none => xs.getLast?.map fun x => (x, xs.dropLast)
  | some i => if -(2 ^ 63) ≤ i ∧ i < 2 ^ 63 then (seqIndex? i xs.length).bind fun k => xs[k]?.map fun x => (x, xs.eraseIdx k) else none
def intOp : BOp → Int → Int → Option Int
  | .add, a, b => some (a + b)
  | .sub, a, b => some (a - b)
  | _, _, _ => none
def forW : List D → (D → Nv → (Nv → Prop) → Prop) → Nv → (Nv → Prop) → Prop
  | [], _, ρ, Q => Q ρ
  | d :: ds, st, ρ, Q => st d ρ fun ρ' => forW ds st ρ' Q
def whileW : Nat → (Nv → W Bool) → (Nv → (Nv → Prop) → Prop) → Nv → (Nv → Prop) → Prop
  | 0, _, _, _, _ => False
  | n + 1, c, b, ρ, Q => c ρ fun t => if t = true then b ρ fun ρ' => whileW n c b ρ' Q else Q ρ
/-- what stands side by side in an assignment -/
def parW (C : Calls) : List (Bool × Nat) → Es → Nv → W (List (Nat × B))
  | [], .nil, _ => fun Q => Q []
  | (o, i) :: is, .cons e r, ρ => fun Q => ev C e ρ fun x => (o = true → isL x = true) ∧ parW C is r ρ fun bs => Q ((i, if o = true then .own x else .sh x) :: bs)
  | _, _, _ => fun _ => False
def sets : Nv → List (Nat × B) → Nv
  | ρ, [] => ρ
  | ρ, (i, b) :: r => sets (ρ.set i (some b)) r

mutual
def exec (C : Calls) : Sm → Nv → Ko → Prop
  | .set o i e, ρ, K => ev C e ρ fun x => if o = true then isL x = true ∧ K.nx (ρ.set i (some (.own x))) else K.nx (ρ.set i (some (.sh x)))
  | .asg g e, ρ, K => ev C e ρ fun x => lift (asg g x ρ) K.nx
  | .par is es, ρ, K => parW C is es ρ fun bs => K.nx (sets ρ bs)
  | .aug i op e, ρ, K => lift (look ρ i) fun x => ev C e ρ fun y => ∃ a b c, x = .int a ∧ y = .int b ∧ intOp op a b = some c ∧ K.nx (ρ.set i (some (.sh (.int c))))
  | .ret e, ρ, K => ev C e ρ K.rt
  | .retN, _, K => K.rt .none
  | .ite c a b, ρ, K => tst C c ρ fun t => if t = true then execs C a ρ K else execs C b ρ K
  | .for_ g it body, ρ, K => evi C false it ρ fun ds => forW ds (fun d ρ k => lift (asg g d ρ) fun ρ' => execs C body ρ' { K with nx := k, ct := k, bk := K.nx }) ρ K.nx
  | .whl c body, ρ, K => ∃ n, whileW n (tst C c) (fun ρ k => execs C body ρ { K with nx := k, ct := k, bk := K.nx }) ρ K.nx
  | .app i e, ρ, K => lift (lookO ρ i) fun l => lift (lstD l) fun xs => ev C e ρ fun x => xs.length < sizeLine ∧ K.nx (ρ.set i (some (.own (.list (xs ++ [x])))))
  | .ext i e, ρ, K => lift (lookO ρ i) fun l => lift (lstD l) fun xs => ev C e ρ fun x => lift (lstD x) fun ys => xs.length + ys.length ≤ sizeLine ∧ K.nx (ρ.set i (some (.own (.list (xs ++ ys)))))
  | .seti i k e, ρ, K => ev C e ρ fun x => lift (lookO ρ i) fun l => ev C k ρ fun y => lift (setD l y x) fun l' => K.nx (ρ.set i (some (.own l')))
  | .popTo g i k, ρ, K => lift (lookO ρ i) fun l => lift (lstD l) fun xs => evo C k ρ fun o => lift (popD xs o) fun p => lift (asg g p.1 (ρ.set i (some (.own (.list p.2))))) K.nx
  | .drop e, ρ, K => ev C e ρ fun _ => K.nx ρ
  | .brk, ρ, K => K.bk ρ
  | .cont, ρ, K => K.ct ρ
  | .pass, ρ, K => K.nx ρ
def execs (C : Calls) : Ss → Nv → Ko → Prop
  | .nil, ρ, K => K.nx ρ
  | .cons s r, ρ, K => exec C s ρ { K with nx := fun ρ' => execs C r ρ' K }
  | .frz i r, ρ, K => execs C r (match ρ[i]? with
      | some (some (.own d)) => ρ.set i (some (.sh d))
      | _ => ρ) K
end

/-! ### the check -/
def isComp : PySem.Expr → Bool
  | .ListComp .. => true | .SetComp .. => true | .DictComp .. => true | _ => false
/-- is the name stored within the comprehension? -/
def swB (sc : Scope) (v : PySem.Expr) (x : Str) (p : Pos) : Bool := match v with
  | .ListComp _ _ s _ | .SetComp _ _ s _ | .DictComp _ _ _ s _ => sc.names.lookup x == some .local && p.line == v.pos.line && !(s.names.any fun (n, k) => n == x && (k == .local || k == .cell))
  | _ => false
/-- are the stores of a, b = x, y swapped ones? none: not known to the model -/
def swS (sc : Scope) (ts vs : List PySem.Expr) : Option (Option (List Str)) :=
  if !(ts.length == 2 || ts.length == 3) || vs.length != ts.length then some none
  else if vs.any (fun | .Starred .. => true | _ => false) then some none
  else
    let line := (ts.head?.map (·.pos.line)).getD 0
    let names := ts.filterMap fun
      | .Name id pos => if sc.names.lookup id == some .local && pos.line == line then some id else none
      | _ => none
    if names.length != ts.length || names.eraseDups.length != names.length then some none
    else if vs.all (foldedForSure 8) then some none
    else if vs.all (constantsAlone 8) then none
    else some (some names)
def isTuple : PySem.Expr → Bool
  | .Tuple .. => true | _ => false
def notNameT : PySem.Expr → Bool
  | .Name .. => false | _ => true
def parFr : List (Bool × Nat) → Es → Bool
  | [], .nil => true
  | (o, _) :: is, .cons e r => (!o || frE e) && parFr is r
  | _, _ => false
def isLoc (sc : Scope) : PySem.Expr → Bool
  | .Name x _ => decide (sc.names.lookup x = some .local)
  | _ => false
def tsNames : List PySem.Expr → List Str
  | .Name x _ :: r => x :: tsNames r
  | _ => []
def chkNames (N : List Str) (sc : Scope) : List (Bool × Nat) → List PySem.Expr → Bool
  | [], [] => true
  | (_, i) :: is, .Name x _ :: es => decide (N[i]? = some x) && locB sc x && chkNames N sc is es
  | _, _ => false
section
variable (N : List Str) (tb : List (Str × Nat)) (sc : Scope)
mutual
def chkS : Sm → PySem.Stmt → Bool
  | .set o i e, z => (match z with
    | .Assign [.Name x p] v _ => decide (N[i]? = some x) && locB sc x && chkE N tb e sc v && (!o || frE e)
    | _ => false)
  | .asg g e, z => (match z with
    | .Assign [t] v _ => notNameT t && chkG N sc (fun _ => true) g t && chkE N tb e sc v && !(isTuple v)
    | _ => false)
  | .par is es, z => (match z with
    | .Assign [.Tuple ts _ _] (.Tuple vs _ _) _ => chkNames N sc is ts && chkEs N tb es sc vs && vs.all notStar && parFr is es && decide ((is.map (·.2)).Nodup) && decide (is.length ≤ 64) && (match swS sc ts vs with
        | some none => true
        | some (some ns) => (decide (ts.length = 2) || decide (ts.length = 3)) && ts.all (isLoc sc) && decide (ns = tsNames ts)
        | none => false)
    | _ => false)
  | .aug i op e, z => (match z with
    | .AugAssign (.Name x _) o v _ => decide (N[i]? = some x) && locB sc x && decide (bopF op = o) && chkE N tb e sc v
    | _ => false)
  | .ret e, z => (match z with
    | .Return (some v) _ => chkE N tb e sc v
    | _ => false)
  | .retN, z => (match z with
    | .Return none _ => true
    | _ => false)
  | .ite c a b, z => (match z with
    | .If t x y _ => chkT N tb c sc t && chkSs a x && chkSs b y
    | _ => false)
  | .for_ g it body, z => (match z with
    | .For tg iter b [] _ => chkG N sc (fun _ => true) g tg && chkIt N tb (isTup tg) it sc iter && chkSs body b
    | _ => false)
  | .whl c body, z => (match z with
    | .While t b [] _ => chkT N tb c sc t && chkSs body b
    | _ => false)
  | .app i e, z => (match z with
    | .Expr (.Call (.Attribute (.Name x _) m ap) [v] [] cp) _ => varOk N sc i x && decide (m = ("append" : Str)) && (ap.endLine == cp.line) && notStar v && chkE N tb e sc v
    | _ => false)
  | .ext i e, z => (match z with
    | .Expr (.Call (.Attribute (.Name x _) m ap) [v] [] cp) _ => varOk N sc i x && decide (m = ("extend" : Str)) && (ap.endLine == cp.line) && notStar v && chkE N tb e sc v
    | _ => false)
  | .seti i k e, z => (match z with
    | .Assign [.Subscript (.Name x _) y _] v _ => varOk N sc i x && notSlice y && chkE N tb k sc y && chkE N tb e sc v
    | _ => false)
  | .popTo g i k, z => (match z with
    | .Assign [t] (.Call (.Attribute (.Name x _) m ap) as [] cp) _ => chkG N sc (fun _ => true) g t && varOk N sc i x && decide (m = ("pop" : Str)) && (ap.endLine == cp.line) && (match k, as with
        | .no, [] => true
        | .yes k, [v] => notStar v && chkE N tb k sc v
        | _, _ => false)
    | _ => false)
  | .drop e, z => (match z with
    | .Expr v _ => chkE N tb e sc v && !(isComp v)
    | _ => false)
  | .brk, z => (match z with
    | .Break _ => true
    | _ => false)
  | .cont, z => (match z with
    | .Continue _ => true
    | _ => false)
  | .pass, z => (match z with
    | .Pass _ => true
    | _ => false)
def chkSs : Ss → List PySem.Stmt → Bool
  | .nil, z => z.isEmpty
  | .cons s r, z => (match z with
    | x :: xs => chkS s x && chkSs r xs
    | [] => false)
  | .frz i r, z => chkSs r z
end
end
end PD
set_option maxHeartbeats 2000000
/-! PDp: statements are as their compact forms say. -/
namespace PD
open PySem L2

/-- what a text may change -/
def Ch (S : Src) (ρ : Nv) (σ : L2.St) : Zn := fun a => S.dom a ∨ OwnAt ρ σ a
structure Stp (S : Src) (ρ : Nv) (σ : L2.St) (H : Hp) (ρ' : Nv) (σ' : L2.St) (H' : Hp) : Prop where
  ext : Ext (Ch S ρ σ) H H'
  own : ∀ a, OwnAt ρ' σ' a → OwnAt ρ σ a ∨ H a = none
  inv : S.inv H'
section
variable {S : Src} {P : Zn} {ρ ρ1 ρ2 : Nv} {σ σ1 σ2 : L2.St} {H H1 H2 : Hp}
theorem Rel.stp (R : Rel S P ρ σ H) : Stp S ρ σ H ρ σ H := ⟨Ext.refl, fun _ z => .inl z, R.inv⟩
theorem Stp.back (i : S.inv H1) (e : Ext (Ch S ρ σ) H H1) {a : Addr} (n : H1 a = none) : OwnAt ρ σ a ∨ H a = none := by
  cases h : H a with
  | none => exact .inr rfl
  | some o =>
    by_cases c : Ch S ρ σ a
    · rcases c with c | c
      · obtain ⟨o', h', _⟩ := (S.fit H1 i).dom a c
        rw [n] at h'; cases h'
      · exact .inl c
    · have := e a o h c
      rw [n] at this; cases this
theorem Stp.trans (a : Stp S ρ σ H ρ1 σ1 H1) (b : Stp S ρ1 σ1 H1 ρ2 σ2 H2) : Stp S ρ σ H ρ2 σ2 H2 where
  ext := fun x o e n => b.ext x o (a.ext x o e n) fun z => z.elim (fun z => n (.inl z)) fun z => (a.own x z).elim (fun z => n (.inr z)) fun z => by rw [e] at z; cases z
  own := fun x z => (b.own x z).elim (a.own x) fun z => Stp.back a.inv a.ext z
  inv := b.inv
theorem Stp.exp (e : Ext S.dom H H1) (i : S.inv H1) : Stp S ρ σ H ρ σ H1 := ⟨e.mono fun _ z => .inl z, fun _ z => .inl z, i⟩

/-- what is wanted behind a statement -/
structure FinS (S : Src) (P : Zn) (ρ : Nv) (σ : L2.St) (H : Hp) (K : Ko) (D : Ends) : Prop where
  nx : ∀ ρ' σ' H', K.nx ρ' → Rel S P ρ' σ' H' → Stp S ρ σ H ρ' σ' H' → D.nx σ' H'
  rt : ∀ d v H', K.rt d → Ext (Ch S ρ σ) H H' → S.inv H' → Rp P H' v d → D.rt v H'
  bk : ∀ ρ' σ' H', K.bk ρ' → Rel S P ρ' σ' H' → Stp S ρ σ H ρ' σ' H' → D.bk σ' H'
  ct : ∀ ρ' σ' H', K.ct ρ' → Rel S P ρ' σ' H' → Stp S ρ σ H ρ' σ' H' → D.ct σ' H'
theorem FinS.on {K : Ko} {D : Ends} (f : FinS S P ρ σ H K D) (s : Stp S ρ σ H ρ1 σ1 H1) : FinS S P ρ1 σ1 H1 K D where
  nx := fun ρ' σ' H' k r t => f.nx ρ' σ' H' k r (s.trans t)
  rt := fun d v H' k e i r => f.rt d v H' k (fun x o h n => e x o (s.ext x o h n) fun z => z.elim (fun z => n (.inl z)) fun z => (s.own x z).elim (fun z => n (.inr z)) fun z => by rw [h] at z; cases z) i r
  bk := fun ρ' σ' H' k r t => f.bk ρ' σ' H' k r (s.trans t)
  ct := fun ρ' σ' H' k r t => f.ct ρ' σ' H' k r (s.trans t)
def tS (C : Calls) (s : Sm) : TS := fun D σ H => ∃ S P ρ K, Rel S P ρ σ H ∧ exec C s ρ K ∧ FinS S P ρ σ H K D
def tSs (C : Calls) (s : Ss) : TS := fun D σ H => ∃ S P ρ K, Rel S P ρ σ H ∧ execs C s ρ K ∧ FinS S P ρ σ H K D

/-! own slots -/
theorem own_setO {i : Nat} {d : D} {p a : Addr} (h : OwnAt (ρ.set i (some (.own d))) (σ.set i (some (.ref p))) a) : a = p ∨ ∃ (j : Nat) (e : D), j ≠ i ∧ ρ[j]? = some (some (.own e)) ∧ σ[j]? = some (some (.ref a)) := by
  obtain ⟨j, e, h1, h2⟩ := h
  by_cases hj : i = j
  · subst hj
    left
    by_cases hl : i < σ.length
    · rw [List.getElem?_set_self hl] at h2; cases h2; rfl
    · rw [List.getElem?_eq_none (by simpa using hl)] at h2; cases h2
  · rw [List.getElem?_set_ne hj] at h1 h2
    exact .inr ⟨j, e, Ne.symm hj, h1, h2⟩
theorem set_get {α : Type} {l : List (Option α)} {i j : Nat} {x y : α} (h : (l.set i (some x))[j]? = some (some y)) : (i = j ∧ x = y ∧ i < l.length) ∨ (i ≠ j ∧ l[j]? = some (some y)) := by
  by_cases hj : i = j
  · subst hj
    by_cases hl : i < l.length
    · rw [List.getElem?_set_self hl] at h; cases h; exact .inl ⟨rfl, rfl, hl⟩
    · rw [List.getElem?_eq_none (by simpa using hl)] at h; cases h
  · rw [List.getElem?_set_ne hj] at h; exact .inr ⟨hj, h⟩
/-- a slot given data of its own: at p, new since H, or the slot's own object that has changed -/
theorem Rel.setO (R : Rel S P ρ σ H) {i : Nat} {p : Addr} {d : D} (hp : H p = none ∨ ∃ e, ρ[i]? = some (some (.own e)) ∧ σ[i]? = some (some (.ref p))) (e : Ext (fun a => S.dom a ∨ a = p) H H1) (inv : S.inv H1) (fp : Fit P H1)
    (l : isL d = true) (rb : RpB (fun a => Nn P ρ σ a ∨ a = p) H1 (.ref p) d) : Rel S P (ρ.set i (some (.own d))) (σ.set i (some (.ref p))) H1 := by
  have nPp : ¬ P p := fun z => by
    rcases hp with hp | ⟨e, h1, h2⟩
    · obtain ⟨o, ho, _⟩ := R.fitP.dom p z
      rw [hp] at ho; cases ho
    · obtain ⟨a, q, _, _, n⟩ := R.own i e h1
      rw [h2] at q; cases q
      exact n z
  have hN : ∀ a, Nn P (ρ.set i (some (.own d))) (σ.set i (some (.ref p))) a → Nn P ρ σ a ∨ a = p := fun a z => by
    rcases z with z | z
    · exact .inl (.inl z)
    · rcases own_setO z with z | ⟨j, e, _, h1, h2⟩
      · exact .inr z
      · exact .inl (.inr ⟨j, e, h1, h2⟩)
  have hpN : Nn P ρ σ p ∨ H p = none := by
    rcases hp with hp | ⟨e, h1, h2⟩
    · exact .inr hp
    · exact .inl (.inr ⟨i, e, h1, h2⟩)
  have hN2 : ∀ a, Nn P (ρ.set i (some (.own d))) (σ.set i (some (.ref p))) a → Nn P ρ σ a ∨ H a = none := fun a z => (hN a z).elim .inl fun z => z ▸ hpN
  have eN : Ext (Nn P ρ σ) H H1 := fun a o h n => by
    refine e a o h fun z => ?_
    rcases z with z | z
    · exact n (.inl (R.sub a z))
    · subst z
      exact hpN.elim n fun z => by rw [h] at z; cases z
  have other : ∀ (j : Nat) (f : D), j ≠ i → ρ[j]? = some (some (.own f)) → ∀ a, σ[j]? = some (some (.ref a)) → a ≠ p := fun j f hj h1 a h2 z => by
    subst z
    rcases hp with hp | ⟨e, h3, h4⟩
    · obtain ⟨b, q, l', r, _⟩ := R.own j f h1
      rw [h2] at q; cases q
      obtain ⟨o, ho, _⟩ := r.list_at l'
      rw [hp] at ho; cases ho
    · exact hj (R.dis j i f e a h1 h3 h2 h4)
  refine ⟨by simp [R.len], R.sub, fp, inv, fun j f h => ?_, fun j f h => ?_, fun j k f g a h1 h2 h3 h4 => ?_, fun j h => ?_⟩
  · rcases set_get h with ⟨_, q, _⟩ | ⟨hj, h⟩
    · cases q
    · obtain ⟨v, q, r⟩ := R.sh j f h
      exact ⟨v, by rw [List.getElem?_set_ne hj]; exact q, r.move eN R.fit hN2⟩
  · rcases set_get h with ⟨rfl, q, hl⟩ | ⟨hj, h⟩
    · cases q
      exact ⟨p, by rw [List.getElem?_set_self (by rw [← R.len]; exact hl)], l, rb.less hN, nPp⟩
    · obtain ⟨a, q, l', r, n⟩ := R.own j f h
      have hap := other j f (Ne.symm hj) h a q
      exact ⟨a, by rw [List.getElem?_set_ne hj]; exact q, l', r.move eN R.fit hN2 (fun b o eb hb => by cases eb; exact e _ o hb fun z => z.elim (fun z => n (R.sub _ z)) hap), n⟩
  · rcases set_get h1 with ⟨rfl, _, hl⟩ | ⟨hj, h1⟩
    · rcases set_get h2 with ⟨rfl, _, _⟩ | ⟨hk, h2⟩
      · rfl
      · rw [List.getElem?_set_self (by rw [← R.len]; exact hl)] at h3; cases h3
        rw [List.getElem?_set_ne hk] at h4
        exact absurd rfl (other k g (Ne.symm hk) h2 _ h4)
    · rw [List.getElem?_set_ne hj] at h3
      rcases set_get h2 with ⟨rfl, _, hl⟩ | ⟨hk, h2⟩
      · rw [List.getElem?_set_self (by rw [← R.len]; exact hl)] at h4; cases h4
        exact absurd rfl (other j f (Ne.symm hj) h1 _ h3)
      · rw [List.getElem?_set_ne hk] at h4
        exact R.dis j k f g a h1 h2 h3 h4
  · rcases set_get h with ⟨_, q, _⟩ | ⟨hj, h⟩
    · cases q
    · rw [List.getElem?_set_ne hj]; exact R.src j h
theorem Fit.upd' {p : Addr} {o : HO} (f : Fit P H) (m : Mut (some o)) : Fit P (upd H p o) := ⟨fun a z => by
  by_cases h : a = p
  · exact ⟨o, by rw [h]; exact upd_same, m⟩
  · obtain ⟨q, h1, h2⟩ := f.dom a z
    exact ⟨q, by rw [upd_ne h]; exact h1, h2⟩⟩
/-- a slot's own data becomes anybody's -/
theorem Rel.frz (R : Rel S P ρ σ H) (i : Nat) {d : D} (h : ρ[i]? = some (some (.own d))) : Rel S P (ρ.set i (some (.sh d))) σ H ∧ ∀ a, OwnAt (ρ.set i (some (.sh d))) σ a → OwnAt ρ σ a := by
  obtain ⟨p, hp, l, rb, nP⟩ := R.own i d h
  have hl : i < ρ.length := by
    rcases Nat.lt_or_ge i ρ.length with q | q
    · exact q
    · rw [List.getElem?_eq_none q] at h; cases h
  have key : ∀ (j : Nat) (e : D), (ρ.set i (some (.sh d)))[j]? = some (some (.own e)) → i ≠ j ∧ ρ[j]? = some (some (.own e)) := fun j e q => by
    rcases set_get q with ⟨_, q, _⟩ | q
    · cases q
    · exact q
  have hO : ∀ a, OwnAt (ρ.set i (some (.sh d))) σ a → OwnAt ρ σ a := fun a ⟨j, e, h1, h2⟩ => ⟨j, e, (key j e h1).2, h2⟩
  have hN : ∀ a, Nn P (ρ.set i (some (.sh d))) σ a → Nn P ρ σ a := fun a z => z.elim .inl fun z => .inr (hO a z)
  have np : ¬ Nn P (ρ.set i (some (.sh d))) σ p := fun z => by
    rcases z with z | ⟨j, e, h1, h2⟩
    · exact nP z
    · obtain ⟨hj, h3⟩ := key j e h1
      exact hj (R.dis i j d e p h h3 hp h2)
  refine ⟨⟨by simp [R.len], R.sub, R.fitP, R.inv, fun j e q => ?_, fun j e q => ?_, fun j k e f a h1 h2 h3 h4 => R.dis j k e f a (key j e h1).2 (key k f h2).2 h3 h4, fun j q => ?_⟩, hO⟩
  · rcases set_get q with ⟨rfl, q, _⟩ | ⟨_, q⟩
    · cases q
      refine ⟨.ref p, hp, ?_⟩
      cases rb with
      | of r => exact r.less hN
      | lst q1 r => exact .lst np q1 (r.less hN)
      | dK q1 r => exact .dK np q1 (r.less hN)
      | dT z q1 r => exact .dT np z q1 (r.less hN)
    · obtain ⟨v, q1, r⟩ := R.sh j e q
      exact ⟨v, q1, r.less hN⟩
  · obtain ⟨a, q1, l', r, n⟩ := R.own j e (key j e q).2
    exact ⟨a, q1, l', r.less hN, n⟩
  · rcases set_get q with ⟨_, q, _⟩ | ⟨_, q⟩
    · cases q
    · exact R.src j q
end
end PD
set_option maxHeartbeats 2000000
/-! PDq: single statements. -/
namespace PD
open PySem L2
theorem PS.weak {X : Cx} {x : PySem.Stmt} {t t' : TS} (h : PS X x t) (w : ∀ D σ H, t' D σ H → t D σ H) : PS X x t' := ⟨fun pins s σ H D I q => h.run pins s σ H D I (w D σ H q)⟩
theorem PSs.weak {X : Cx} {x : List PySem.Stmt} {t t' : TS} (h : PSs X x t) (w : ∀ D σ H, t' D σ H → t D σ H) : PSs X x t' := ⟨fun pins s σ H D I q => h.run pins s σ H D I (w D σ H q)⟩
section
variable {C : Calls} {X : Cx} {tb : List (Str × Nat)} {D : Ends} {σ : L2.St} {H : Hp}
theorem Rel.stpSet {S : Src} {P : Zn} {ρ : Nv} {H1 : Hp} (e : Ext S.dom H H1) (i1 : S.inv H1) {i : Nat} {v : V} {d : PD.D} : Stp S ρ σ H (ρ.set i (some (.sh d))) (σ.set i (some v)) H1 :=
  ⟨e.mono fun _ z => .inl z, fun _ z => .inl (own_set z), i1⟩
theorem w_set {o : Bool} {i : Nat} {e : E} (ho : o = true → frE e = true) (h : tS C (.set o i e) D σ H) : tAsg (tE C e) (gName i) D σ H := by
  obtain ⟨S, P, ρ, K, R, h, f⟩ := h
  refine ⟨S, P, ρ, _, R, h, fun d hd v H1 e1 i1 r1 fs => ?_⟩
  have R1 := R.ext e1 i1
  show D.nx (σ.set i (some v)) H1
  cases o with
  | false =>
    simp only [Bool.false_eq_true, if_false] at hd
    exact f.nx _ _ _ hd (R1.set i r1) (Rel.stpSet (P := P) e1 i1)
  | true =>
    simp only [if_true] at hd
    obtain ⟨hl, hk⟩ := hd
    obtain ⟨p, rfl, np, rb⟩ := fs (ho rfl) hl
    refine f.nx _ _ _ hk (R.setO (.inl np) (e1.mono fun _ z => .inl z) i1 R1.fitP hl rb) ⟨e1.mono fun _ z => .inl z, fun a z => ?_, i1⟩
    rcases own_setO z with z | ⟨j, g, _, h1, h2⟩
    · exact .inr (z ▸ np)
    · exact .inl ⟨j, g, h1, h2⟩
theorem w_asg {g : G} {e : E} (h : tS C (.asg g e) D σ H) : tAsg (tE C e) (tG g) D σ H := by
  obtain ⟨S, P, ρ, K, R, h, f⟩ := h
  refine ⟨S, P, ρ, _, R, h, fun d hd v H1 e1 i1 r1 fs => ?_⟩
  obtain ⟨ρ', ea, hk⟩ := hd
  have R1 := R.ext e1 i1
  refine ⟨S, P, ρ, d, ρ', R1, r1, ea, fun σ' R2 st n2 => f.nx _ _ _ hk R2 ⟨e1.mono fun _ z => .inl z, fun a z => ?_, i1⟩⟩
  rcases n2 a (.inr z) with q | q
  · obtain ⟨j, d', h1, h2⟩ := z
    obtain ⟨b, q1, _, _, n⟩ := R2.own j d' h1
    rw [h2] at q1; cases q1
    exact absurd q n
  · exact .inl q
theorem w_ret {e : E} (h : tS C (.ret e) D σ H) : tRet (tE C e) D σ H := by
  obtain ⟨S, P, ρ, K, R, h, f⟩ := h
  exact ⟨S, P, ρ, _, R, h, fun d hd v H1 e1 i1 r1 _ => f.rt d v H1 hd (e1.mono fun _ z => .inl z) i1 (r1.less fun _ z => .inl z)⟩
theorem w_retN (h : tS C .retN D σ H) : tRetN D σ H := by
  obtain ⟨S, P, ρ, K, R, h, f⟩ := h
  exact f.rt _ _ H h Ext.refl R.inv .non
theorem w_ite {c : T} {a b : Ss} (h : tS C (.ite c a b) D σ H) : tIfS (tT C c) (tSs C a) (tSs C b) D σ H := by
  obtain ⟨S, P, ρ, K, R, h, f⟩ := h
  refine ⟨S, P, ρ, _, R, h, fun t ht H1 e1 i1 => ?_⟩
  cases t with
  | true =>
    simp only [if_true] at ht ⊢
    exact ⟨S, P, ρ, K, R.ext e1 i1, ht, f.on (Stp.exp e1 i1)⟩
  | false =>
    simp only [Bool.false_eq_true, if_false] at ht ⊢
    exact ⟨S, P, ρ, K, R.ext e1 i1, ht, f.on (Stp.exp e1 i1)⟩
theorem w_drop {e : E} (h : tS C (.drop e) D σ H) : tDrop (tE C e) D σ H := by
  obtain ⟨S, P, ρ, K, R, h, f⟩ := h
  exact ⟨S, P, ρ, _, R, h, fun d hd v H1 e1 i1 r1 _ => f.nx _ _ _ hd (R.ext e1 i1) (Stp.exp e1 i1)⟩
theorem w_for {g : G} {it : PD.It} {b : Ss} (h : tS C (.for_ g it b) D σ H) : tFor (tI C false it) (tG g) (tSs C b) D σ H := by
  obtain ⟨S, P, ρ, K, R, h, f⟩ := h
  refine ⟨S, P, ρ, _, R, h, fun ds hds J H1 e1 i1 w => ?_⟩
  have R1 := R.ext e1 i1
  have f1 := f.on (Stp.exp e1 i1)
  simp only [Bool.false_eq_true, if_false] at w
  refine ⟨fun i m σ' H' => i ≤ ds.length ∧ m = ds.length - i ∧ ∃ ρ', Rel S P ρ' σ' H' ∧ Stp S ρ σ H1 ρ' σ' H' ∧
    forW (ds.drop i) (fun d ρ k => lift (asg g d ρ) fun ρ' => execs C b ρ' { K with nx := k, ct := k, bk := K.nx }) ρ' K.nx, ⟨ds.length, Nat.zero_le _, rfl, ρ, R1, R1.stp, by simpa using hds⟩, ?_⟩
  rintro i m σ2 H2 ⟨hi, rfl, ρ2, R2, st, hw⟩
  have eN : Ext (Nn P ρ σ) H1 H2 := st.ext.mono fun a z => z.elim (fun z => .inl (R.sub a z)) .inr
  by_cases hlt : i < ds.length
  · right
    have hgd : ds[i]? = some ds[i] := List.getElem?_eq_getElem hlt
    refine ⟨w.go i H2 _ eN hgd, fun σ' H' => ∃ m', m' < ds.length - i ∧ i + 1 ≤ ds.length ∧ m' = ds.length - (i + 1) ∧ ∃ ρ', Rel S P ρ' σ' H' ∧ Stp S ρ σ H1 ρ' σ' H' ∧
      forW (ds.drop (i + 1)) (fun d ρ k => lift (asg g d ρ) fun ρ' => execs C b ρ' { K with nx := k, ct := k, bk := K.nx }) ρ' K.nx, fun σ' H' z => z, fun v H3 hy => ?_⟩
    obtain ⟨e3, hrp⟩ := w.yld i H2 _ v H3 eN hgd hy
    have R3 := R2.ext0 e3
    rw [List.drop_eq_getElem_cons hlt] at hw
    obtain ⟨ρ3, ea, hw⟩ := hw
    have s3 : Stp S ρ2 σ2 H2 ρ2 σ2 H3 := Stp.exp (e3.any _) R3.inv
    refine ⟨S, P, ρ2, ds[i], ρ3, R3, hrp _ (fun a z => ?_), ea, fun σ4 R4 _ n4 => ?_⟩
    · rcases z with z | z
      · exact .inl (.inl z)
      · exact (st.own a z).elim (fun z => .inl (.inr z)) .inr
    · have s4 : Stp S ρ2 σ2 H3 ρ3 σ4 H3 := ⟨Ext.refl, fun a z => by
        rcases n4 a (.inr z) with q | q
        · obtain ⟨j, d', h1, h2⟩ := z
          obtain ⟨b, q1, _, _, n⟩ := R4.own j d' h1
          rw [h2] at q1; cases q1
          exact absurd q n
        · exact .inl q, R4.inv⟩
      have s5 := (st.trans s3).trans s4
      refine ⟨S, P, ρ3, _, R4, hw, ?_⟩
      have f5 := f1.on s5
      have nxt : ∀ ρ' σ' H', forW (ds.drop (i + 1)) (fun d ρ k => lift (asg g d ρ) fun ρ' => execs C b ρ' { K with nx := k, ct := k, bk := K.nx }) ρ' K.nx → Rel S P ρ' σ' H' → Stp S ρ3 σ4 H3 ρ' σ' H' → _ := fun ρ' σ' H' k r t => (⟨ds.length - (i + 1), by omega, hlt, rfl, ρ', r, s5.trans t, k⟩ : ∃ m', m' < ds.length - i ∧ i + 1 ≤ ds.length ∧ m' = ds.length - (i + 1) ∧ ∃ ρ', Rel S P ρ' σ' H' ∧ Stp S ρ σ H1 ρ' σ' H' ∧
        forW (ds.drop (i + 1)) (fun d ρ k => lift (asg g d ρ) fun ρ' => execs C b ρ' { K with nx := k, ct := k, bk := K.nx }) ρ' K.nx)
      exact ⟨nxt, f5.rt, f5.nx, nxt⟩
  · left
    have hi' : i = ds.length := by omega
    subst hi'
    rw [List.drop_length] at hw
    exact ⟨w.stop _ H2 eN (Nat.le_refl _), f1.nx _ _ _ hw R2 st⟩
theorem w_whl {c : T} {b : Ss} (h : tS C (.whl c b) D σ H) : tWhile (tT C c) (tSs C b) D σ H := by
  obtain ⟨S, P, ρ, K, R, ⟨n, h⟩, f⟩ := h
  refine ⟨fun m σ' H' => ∃ ρ', Rel S P ρ' σ' H' ∧ Stp S ρ σ H ρ' σ' H' ∧ whileW m (tst C c) (fun ρ k => execs C b ρ { K with nx := k, ct := k, bk := K.nx }) ρ' K.nx, ⟨n, ρ, R, R.stp, h⟩, ?_⟩
  rintro m σ2 H2 ⟨ρ2, R2, st, hw⟩
  cases m with
  | zero => cases hw
  | succ m =>
    refine ⟨S, P, ρ2, _, R2, hw, fun t ht H3 e3 i3 => ?_⟩
    have s3 := st.trans (Stp.exp e3 i3)
    have R3 := R2.ext e3 i3
    have f3 := f.on s3
    cases t with
    | false =>
      simp only [Bool.false_eq_true, if_false] at ht ⊢
      exact f3.nx _ _ _ ht R3 R3.stp
    | true =>
      simp only [if_true] at ht ⊢
      refine ⟨fun σ' H' => ∃ m', m' < m + 1 ∧ ∃ ρ', Rel S P ρ' σ' H' ∧ Stp S ρ σ H ρ' σ' H' ∧ whileW m' (tst C c) (fun ρ k => execs C b ρ { K with nx := k, ct := k, bk := K.nx }) ρ' K.nx, fun σ' H' z => z, S, P, ρ2, _, R3, ht, ?_⟩
      have nxt : ∀ ρ' σ' H', whileW m (tst C c) (fun ρ k => execs C b ρ { K with nx := k, ct := k, bk := K.nx }) ρ' K.nx → Rel S P ρ' σ' H' → Stp S ρ2 σ2 H3 ρ' σ' H' → ∃ m', m' < m + 1 ∧ ∃ ρ', Rel S P ρ' σ' H' ∧ Stp S ρ σ H ρ' σ' H' ∧ whileW m' (tst C c) (fun ρ k => execs C b ρ { K with nx := k, ct := k, bk := K.nx }) ρ' K.nx :=
        fun ρ' σ' H' k r t => ⟨m, by omega, ρ', r, s3.trans t, k⟩
      exact ⟨nxt, f3.rt, f3.nx, nxt⟩
theorem w_cons {s : Sm} {r : Ss} (h : tSs C (.cons s r) D σ H) : tSeq (tS C s) (tSs C r) D σ H := by
  obtain ⟨S, P, ρ, K, R, h, f⟩ := h
  exact ⟨S, P, ρ, _, R, h, ⟨fun ρ' σ' H' k r t => ⟨S, P, ρ', K, r, k, f.on t⟩, f.rt, f.bk, f.ct⟩⟩
theorem w_frz {i : Nat} {r : Ss} (h : tSs C (.frz i r) D σ H) : tSs C r D σ H := by
  obtain ⟨S, P, ρ, K, R, h, f⟩ := h
  have h : execs C r (match ρ[i]? with
      | some (some (.own d)) => ρ.set i (some (.sh d))
      | _ => ρ) K := h
  split at h
  · rename_i d hd
    obtain ⟨R', hO⟩ := R.frz i hd
    exact ⟨S, P, _, K, R', h, f.on ⟨Ext.refl, fun a z => .inl (hO a z), R.inv⟩⟩
  · exact ⟨S, P, _, K, R, h, f⟩
end
end PD
set_option maxHeartbeats 2000000
/-! PDr: one's own lists and dicts are written. -/
namespace PD
open PySem L2
section
variable {S : Src} {P : Zn} {ρ : Nv} {σ : L2.St} {H : Hp}
theorem set_same {α : Type} : ∀ {l : List α} {i : Nat} {x : α}, l[i]? = some x → l.set i x = l
  | a :: l, 0, x, h => by cases h; rfl
  | a :: l, i + 1, x, h => by
    have : l[i]? = some x := by simpa using h
    simp [set_same this]
theorem Rel.write (R : Rel S P ρ σ H) {i : Nat} {e d : D} {a : Addr} {o : HO} (h1 : ρ[i]? = some (some (.own e))) (h2 : σ[i]? = some (some (.ref a))) (m : Mut (some o)) (l : isL d = true) (rb : RpB (Nn P ρ σ) (upd H a o) (.ref a) d) :
    Rel S P (ρ.set i (some (.own d))) σ (upd H a o) ∧ Stp S ρ σ H (ρ.set i (some (.own d))) σ (upd H a o) := by
  have nP : ¬ P a := by
    obtain ⟨b, q, _, _, n⟩ := R.own i e h1
    rw [h2] at q; cases q
    exact n
  have nD : ¬ S.dom a := fun z => nP (R.sub _ z)
  have inv : S.inv (upd H a o) := S.stab _ _ R.inv fun b hb => upd_ne fun z => nD (z ▸ hb)
  have ha : OwnAt ρ σ a := ⟨i, e, h1, h2⟩
  have es : σ.set i (some (.ref a)) = σ := set_same h2
  have ex : Ext (fun b => S.dom b ∨ b = a) H (upd H a o) := fun b q hb n => by rw [upd_ne (fun z => n (.inr z))]; exact hb
  have R' := R.setO (i := i) (p := a) (d := d) (H1 := upd H a o) (.inr ⟨e, h1, h2⟩) ex inv (Fit.upd' R.fitP m) l (rb.less fun b z => z.elim id fun z => z ▸ .inr ha)
  rw [es] at R'
  refine ⟨R', ex.mono fun b z => z.elim .inl fun z => z ▸ .inr ha, fun b z => ?_, inv⟩
  rw [← es] at z
  rcases own_setO z with z | ⟨j, g, _, h3, h4⟩
  · exact .inl (z ▸ ha)
  · exact .inl ⟨j, g, h3, h4⟩
theorem Rel.at_own (R : Rel S P ρ σ H) {i : Nat} {d : D} (h : lookO ρ i = some d) : ρ[i]? = some (some (.own d)) ∧ ∃ a, σ[i]? = some (some (.ref a)) ∧ RpB (Nn P ρ σ) H (.ref a) d ∧ ¬ P a := by
  unfold lookO at h
  split at h
  · rename_i d' hd
    cases h
    obtain ⟨a, q, _, r, n⟩ := R.own i _ hd
    exact ⟨hd, a, q, r, n⟩
  · cases h
theorem upd_ext (R : Rel S P ρ σ H) {i : Nat} {d : D} {a : Addr} {o : HO} (h1 : ρ[i]? = some (some (.own d))) (h2 : σ[i]? = some (some (.ref a))) : Ext (Nn P ρ σ) H (upd H a o) := fun b q hb n => by
  rw [upd_ne (fun z => n (.inr ⟨i, d, h1, by rw [z]; exact h2⟩))]; exact hb
theorem lstD_of {d : D} {xs : List D} (h : lstD d = some xs) : d = .list xs := by
  unfold lstD at h; split at h
  · cases h; rfl
  · cases h
end
section
variable {C : Calls} {X : Cx} {tb : List (Str × Nat)} {D : Ends} {σ : L2.St} {H : Hp}
theorem tyV_list {K : PySem.W.Frag} {a : Addr} {xs : List V} (h : H a = some (.lst xs)) : tyV K "list" (.ref a) H := .inl ⟨rfl, xs, SqL.of h⟩
theorem w_app {i : Nat} {e : E} (h : tS C (.app i e) D σ H) : tDrop (tBM X.K "list" rAppend (tVar i) (tCons (tE C e) tNil)) D σ H := by
  obtain ⟨S, P, ρ, K, R, ⟨l, hl, ds, hds, h⟩, f⟩ := h
  have := lstD_of hds; subst this
  obtain ⟨h1, a, h2, rb, nP⟩ := R.at_own hl
  obtain ⟨a', xs, ea, ha, ra⟩ := rb.list_of
  cases ea
  refine ⟨.ref a, h2, tyV_list ha, S, P, ρ, _, R, h, fun d hd v H1 e1 i1 r1 _ => ?_⟩
  have R1 := R.ext e1 i1
  obtain ⟨hlen, hk⟩ := hd
  have ha1 : H1 a = some (.lst xs) := e1 a _ ha fun z => nP (R.sub _ z)
  have ra1 := ra.ext (e1.mono R.domN) R.fit
  refine ⟨a, xs, v, rfl, rfl, ha1, by rw [ra.length]; exact hlen, ?_⟩
  have up := upd_ext (o := .lst (xs ++ [v])) R1 h1 h2
  obtain ⟨R2, st⟩ := R1.write (d := .list (ds ++ [d])) (o := .lst (xs ++ [v])) h1 h2 trivial rfl (.lst upd_same ((ra1.append (.cons r1 .nil)).ext up R1.fit))
  exact f.nx _ _ _ hk R2 ((Stp.exp e1 i1).trans st)
theorem w_ext {i : Nat} {e : E} (h : tS C (.ext i e) D σ H) : tDrop (tBM X.K "list" rExtend (tVar i) (tCons (tE C e) tNil)) D σ H := by
  obtain ⟨S, P, ρ, K, R, ⟨l, hl, ds, hds, h⟩, f⟩ := h
  have := lstD_of hds; subst this
  obtain ⟨h1, a, h2, rb, nP⟩ := R.at_own hl
  obtain ⟨a', xs, ea, ha, ra⟩ := rb.list_of
  cases ea
  refine ⟨.ref a, h2, tyV_list ha, S, P, ρ, _, R, h, fun d hd v H1 e1 i1 r1 _ => ?_⟩
  have R1 := R.ext e1 i1
  obtain ⟨es, hes, hlen, hk⟩ := hd
  have := lstD_of hes; subst this
  obtain ⟨b, ys, rfl, hb, rb'⟩ := (RpB.of r1).list_of
  have ha1 : H1 a = some (.lst xs) := e1 a _ ha fun z => nP (R.sub _ z)
  have ra1 := ra.ext (e1.mono R.domN) R.fit
  refine ⟨a, b, xs, ys, rfl, rfl, ha1, hb, by rw [ra.length, rb'.length]; exact hlen, ?_⟩
  have up := upd_ext (o := .lst (xs ++ ys)) R1 h1 h2
  obtain ⟨R2, st⟩ := R1.write (d := .list (ds ++ es)) (o := .lst (xs ++ ys)) h1 h2 trivial rfl (.lst upd_same ((ra1.append rb').ext up R1.fit))
  exact f.nx _ _ _ hk R2 ((Stp.exp e1 i1).trans st)
def tPop (X : Cx) (i : Nat) (C : Calls) (k : Eo) : TE := match k with
  | .no => tBM0 X.K "list" rPop (tVar i)
  | .yes k => tBM X.K "list" rPopAt (tVar i) (tCons (tE C k) tNil)
theorem w_pop {g : G} {i : Nat} {k : Eo} (h : tS C (.popTo g i k) D σ H) : tAsg (tPop X i C k) (tG g) D σ H := by
  obtain ⟨S, P, ρ, K, R, ⟨l, hl, ds, hds, h⟩, f⟩ := h
  have := lstD_of hds; subst this
  obtain ⟨h1, a, h2, rb, nP⟩ := R.at_own hl
  obtain ⟨a', xs, ea, ha, ra⟩ := rb.list_of
  cases ea
  have fin : ∀ (H1 : Hp) (e1 : Ext S.dom H H1) (i1 : S.inv H1) (v : V) (d : PD.D) (vs : List V) (es : List PD.D), Rp (Nn P ρ σ) H1 v d → RpAll (Nn P ρ σ) H1 vs es → lift (asg g d (ρ.set i (some (.own (.list es))))) K.nx → tG g v σ (upd H1 a (.lst vs)) D.nx := by
    intro H1 e1 i1 v d vs es rv rvs hk
    have R1 := R.ext e1 i1
    have up := upd_ext (o := .lst vs) R1 h1 h2
    obtain ⟨R2, st⟩ := R1.write (d := .list es) (o := .lst vs) h1 h2 trivial rfl (.lst upd_same (rvs.ext up R1.fit))
    obtain ⟨ρ', ea, hk⟩ := hk
    refine ⟨S, P, _, d, ρ', R2, ?_, ea, fun σ' R3 _ n3 => f.nx _ _ _ hk R3 (((Stp.exp e1 i1).trans st).trans ⟨Ext.refl, fun b z => ?_, R3.inv⟩)⟩
    · refine (rv.ext up R1.fit).less fun b z => z.elim .inl fun z => ?_
      obtain ⟨j, g', h3, h4⟩ := z
      rcases set_get h3 with ⟨rfl, _, _⟩ | ⟨_, h3⟩
      · exact .inr ⟨_, _, h1, h4⟩
      · exact .inr ⟨j, g', h3, h4⟩
    · rcases n3 b (.inr z) with q | q
      · obtain ⟨j, d', h3, h4⟩ := z
        obtain ⟨b', q1, _, _, n⟩ := R3.own j d' h3
        rw [h4] at q1; cases q1
        exact absurd q n
      · exact .inl q
  cases k with
  | no =>
    refine ⟨.ref a, h2, tyV_list ha, ?_⟩
    obtain ⟨⟨x, es⟩, hp, hk⟩ := h
    unfold popD at hp
    obtain ⟨y, hy, ep⟩ := Option.map_eq_some_iff.mp hp
    cases ep
    rw [List.getLast?_eq_getElem?] at hy
    obtain ⟨v, hv, rv⟩ := ra.get' hy
    refine ⟨a, xs, v, rfl, rfl, ha, by rw [ra.length]; exact hv, ?_⟩
    exact fin H Ext.refl R.inv v x _ _ rv ra.dropLast hk
  | yes k =>
    refine ⟨.ref a, h2, tyV_list ha, S, P, ρ, _, R, h, fun d hd v H1 e1 i1 r1 _ => ?_⟩
    obtain ⟨j, rfl, ⟨x, es⟩, hp, hk⟩ := hd
    cases (RpB.of r1).int_of
    unfold popD at hp
    simp only at hp
    split at hp
    · rename_i hr
      obtain ⟨n, hn, hp⟩ := Option.bind_eq_some_iff.mp hp
      obtain ⟨y, hy, ep⟩ := Option.map_eq_some_iff.mp hp
      cases ep
      have ra1 := ra.ext (e1.mono R.domN) R.fit
      obtain ⟨w, hw, rw'⟩ := ra1.get' hy
      refine ⟨a, xs, j, n, w, rfl, rfl, e1 a _ ha fun z => nP (R.sub _ z), hr.1, hr.2, by rw [ra.length]; exact hn, hw, ?_⟩
      exact fin H1 e1 i1 w x _ _ rw' (ra1.eraseIdx n) hk
    · cases hp
def tAg (op : BOp) : TIp := fun x y H Q => ∃ a b c, x = .int a ∧ y = .int b ∧ intOp op a b = some c ∧ Q (.int c) H
theorem ip_any (op : BOp) : PIp X (bopF op) (tAg op) := by
  intro pins s σ H x y v u Q I r1 r2 h
  obtain ⟨a, b, c, rfl, rfl, hc, q⟩ := h
  cases op <;> simp only [intOp] at hc <;> first | (exfalso; cases hc; done) | skip
  · cases hc; exact ip_add pins s σ H _ _ v u Q I r1 r2 ⟨a, b, rfl, rfl, q⟩
  · cases hc; exact ip_sub pins s σ H _ _ v u Q I r1 r2 ⟨a, b, rfl, rfl, q⟩
theorem w_aug {i : Nat} {op : BOp} {e : E} (h : tS C (.aug i op e) D σ H) : tAug i (tE C e) (tAg op) D σ H := by
  obtain ⟨S, P, ρ, K, R, ⟨x, hx, h⟩, f⟩ := h
  unfold look at hx
  split at hx
  · rename_i d hd
    cases hx
    obtain ⟨v, hv, rv⟩ := R.sh i _ hd
    refine ⟨v, hv, S, P, ρ, _, R, h, fun y ⟨a, b, c, e1, e2, hc, hk⟩ w H1 ex1 i1 r1 _ => ?_⟩
    subst e1 e2
    cases (RpB.of rv).int_of
    cases (RpB.of r1).int_of
    exact ⟨a, b, c, rfl, rfl, hc, f.nx _ _ _ hk ((R.ext ex1 i1).set i (.int c)) (Rel.stpSet (P := P) ex1 i1)⟩
  · cases hx
/-! d[k] = x, l[i] = x -/
def tSt : TSet := fun o y v H Q => ∃ N a l k x l', o = .ref a ∧ N a ∧ Fit N H ∧ RpB N H (.ref a) l ∧ RpB N H y k ∧ Rp N H v x ∧ setD l k x = some l' ∧ isL l' = true ∧ ∀ ob, Mut (some ob) → RpB N (upd H a ob) (.ref a) l' → Q (upd H a ob)
theorem set_any (hu : X.A.units + 64 < cLine) : PSet X tSt := by
  intro pins s σ H o y v ov iv u Q I ro ry rv h
  obtain ⟨N, a, l, k, x, l', rfl, na, f, rl, rk, rx, hs, hl', q⟩ := h
  have up : ∀ ob, Ext N H (upd H a ob) := fun ob b q hb n => by rw [upd_ne (fun z => n (by rw [z]; exact na))]; exact hb
  cases (show ov = Value.ref a from ro)
  unfold setD at hs
  split at hs
  · rename_i ds i
    obtain ⟨j, hj, rfl⟩ := Option.map_eq_some_iff.mp hs
    obtain ⟨a', xs, ea, ha, ra⟩ := rl.list_of
    cases ea
    cases rk.int_of
    refine set_list pins s σ H (.ref a) (.int i) v _ iv u Q I rfl ry rv ⟨a, xs, i, j, rfl, rfl, ha, by rw [ra.length]; exact hj, ?_⟩
    exact q _ trivial (.lst upd_same ((ra.set j rx).ext (up _) f))
  · split at hs
    · rename_i hc
      simp only [Bool.and_eq_true, decide_eq_true_eq] at hc
      obtain ⟨⟨k1, k2⟩, k3⟩ := hc
      cases hs
      obtain ⟨a', ea, ⟨ks, es, ha, r, rfl⟩ | ⟨ks, es, hne, ha, r, rfl⟩⟩ := rl.dict_of
      · cases ea
        have hl : ks.length = es.length := by simpa using r.length
        have hz : ks.length < sizeLine := by simp [List.length_zip, hl] at k3; omega
        rcases key_cases k1 with ⟨k, rfl⟩ | ⟨k, rfl⟩
        · obtain ⟨es', re, he⟩ := put_rp keyD keyD_eqv k rx r
          have hdp : DPut H a y v (upd H a (.dK (putK ks k v))) := by rw [Rp.key rk]; exact DPut.k ha hz
          refine d_setItem (by omega) I hdp ry rv fun s' I' => ⟨_, I', q _ trivial ?_⟩
          rw [he]
          exact .dK upd_same (re.ext (up _) f)
        · obtain rfl := kindOk_K hl k2
          cases r
          obtain ⟨b, rfl, hb⟩ := Rp.tkey rk
          have hne : b ≠ a := ne_of hb ha (by intro z; cases z)
          have hdp : DPut (upd H a (.dT [])) a (.ref b) v (upd (upd H a (.dT [])) a (.dT (putK [] k v))) := DPut.t upd_same (by rw [upd_ne hne]; exact hb) hz
          rw [upd_upd] at hdp
          obtain ⟨es', re, he⟩ := put_rp tkeyD tkeyD_eqv k rx (kvs := []) (ds := []) .nil
          refine d_setItem (by omega) (Inv.toT I ha) hdp ry rv fun s' I' => ⟨_, I', q _ trivial ?_⟩
          have he' : dput [] (tkeyD k) x = _ := he
          simp only [List.map_nil, List.zip_nil_right] at *
          rw [he']
          exact .dT putK_ne upd_same (re.ext (up _) f)
      · cases ea
        have hl : ks.length = es.length := by simpa using r.length
        have hz : ks.length < sizeLine := by simp [List.length_zip, hl] at k3; omega
        rcases key_cases k1 with ⟨k, rfl⟩ | ⟨k, rfl⟩
        · exact absurd (kindOk_T hl k2) hne
        · obtain ⟨b, rfl, hb⟩ := Rp.tkey rk
          obtain ⟨es', re, he⟩ := put_rp tkeyD tkeyD_eqv k rx r
          refine d_setItem (by omega) I (DPut.t ha hb hz) ry rv fun s' I' => ⟨_, I', q _ trivial ?_⟩
          rw [he]
          exact .dT putK_ne upd_same (re.ext (up _) f)
    · cases hs
  · cases hs
theorem w_seti {i : Nat} {k e : E} (h : tS C (.seti i k e) D σ H) : tAsg (tE C e) (gSub (tVar i) (tE C k) tSt) D σ H := by
  obtain ⟨S, P, ρ, K, R, h, f⟩ := h
  refine ⟨S, P, ρ, _, R, h, fun x ⟨l, hl, hd⟩ v H1 e1 i1 r1 _ => ?_⟩
  have R1 := R.ext e1 i1
  obtain ⟨h1, a, h2, rb, nP⟩ := R1.at_own hl
  refine ⟨.ref a, h2, S, P, ρ, _, R1, hd, fun y ⟨l', hs, hk⟩ w H2 e2 i2 r2 _ => ?_⟩
  have R2 := R1.ext e2 i2
  obtain ⟨h1', a', h2', rb', nP'⟩ := R2.at_own hl
  have ea : a' = a := by rw [h2] at h2'; cases h2'; rfl
  subst ea
  have hl' : isL l' = true := by
    unfold setD at hs
    split at hs
    · obtain ⟨j, hj, rfl⟩ := Option.map_eq_some_iff.mp hs; rfl
    · split at hs
      · cases hs; rfl
      · cases hs
    · cases hs
  refine ⟨Nn P ρ σ, a', l, y, x, l', rfl, .inr ⟨i, l, h1, h2⟩, R2.fit, rb', .of r2, r1.ext (e2.mono R1.domN) R1.fit, hs, hl', fun ob m rb2 => ?_⟩
  obtain ⟨R3, st⟩ := R2.write h1 h2 m hl' rb2
  exact f.nx _ _ _ hk R3 (((Stp.exp e1 i1).trans (Stp.exp e2 i2)).trans st)
end
end PD
set_option maxHeartbeats 2000000
/-! PDs: assignments side by side; name = value. -/
namespace PD
open PySem L2
section
variable {S : Src} {P : Zn} {ρ : Nv} {σ : L2.St} {H : Hp}
inductive PBs (M : Zn) (H : Hp) : List Addr → List V → List (Nat × B) → Prop
  | nil : PBs M H [] [] []
  | sh {ps v vs i d bs} : Rp M H v d → PBs M H ps vs bs → PBs M H ps (v :: vs) ((i, .sh d) :: bs)
  | own {ps p vs i d bs} : isL d = true → RpB M H (.ref p) d → M p → p ∉ ps → PBs M H ps vs bs → PBs M H (p :: ps) (.ref p :: vs) ((i, .own d) :: bs)
theorem PBs.length {M : Zn} : ∀ {ps : List Addr} {vs : List V} {bs : List (Nat × B)}, PBs M H ps vs bs → vs.length = bs.length
  | _, _, _, .nil => rfl
  | _, _, _, .sh _ t => by simp [PBs.length t]
  | _, _, _, .own _ _ _ _ t => by simp [PBs.length t]
/-- a place kept away is a slot's own -/
theorem Rel.take {P1 : Zn} {p : Addr} {d : D} {i : Nat} (R : Rel S P1 ρ σ H) (h1 : ∀ a, P a → P1 a) (h2 : ∀ a, P1 a → P a ∨ a = p) (hp : P1 p) (np : ¬ P p) (hs : ∀ a, S.dom a → P a) (l : isL d = true) (rb : RpB (Nn P1 ρ σ) H (.ref p) d) :
    Rel S P (ρ.set i (some (.own d))) (σ.set i (some (.ref p))) H := by
  have hN : ∀ a, Nn P (ρ.set i (some (.own d))) (σ.set i (some (.ref p))) a → Nn P1 ρ σ a := fun a z => by
    rcases z with z | z
    · exact .inl (h1 a z)
    · rcases own_setO z with z | ⟨j, e, _, h3, h4⟩
      · exact .inl (z ▸ hp)
      · exact .inr ⟨j, e, h3, h4⟩
  have other : ∀ (j : Nat) (f : D), ρ[j]? = some (some (.own f)) → ∀ a, σ[j]? = some (some (.ref a)) → a ≠ p := fun j f h3 a h4 z => by
    obtain ⟨b, q, _, _, n⟩ := R.own j f h3
    rw [h4] at q; cases q
    exact n (z ▸ hp)
  refine ⟨by simp [R.len], hs, ⟨fun a z => R.fitP.dom a (h1 a z)⟩, R.inv, fun j f h => ?_, fun j f h => ?_, fun j k f g a h3 h4 h5 h6 => ?_, fun j h => ?_⟩
  · rcases set_get h with ⟨_, q, _⟩ | ⟨hj, h⟩
    · cases q
    · obtain ⟨v, q, r⟩ := R.sh j f h
      exact ⟨v, by rw [List.getElem?_set_ne hj]; exact q, r.less hN⟩
  · rcases set_get h with ⟨rfl, q, hl⟩ | ⟨hj, h⟩
    · cases q
      exact ⟨p, by rw [List.getElem?_set_self (by rw [← R.len]; exact hl)], l, rb.less hN, np⟩
    · obtain ⟨a, q, l', r, n⟩ := R.own j f h
      exact ⟨a, by rw [List.getElem?_set_ne hj]; exact q, l', r.less hN, fun z => n (h1 a z)⟩
  · rcases set_get h3 with ⟨rfl, _, hl⟩ | ⟨hj, h3⟩
    · rcases set_get h4 with ⟨rfl, _, _⟩ | ⟨hk, h4⟩
      · rfl
      · rw [List.getElem?_set_self (by rw [← R.len]; exact hl)] at h5; cases h5
        rw [List.getElem?_set_ne hk] at h6
        exact absurd rfl (other k g h4 _ h6)
    · rw [List.getElem?_set_ne hj] at h5
      rcases set_get h4 with ⟨rfl, _, hl⟩ | ⟨hk, h4⟩
      · rw [List.getElem?_set_self (by rw [← R.len]; exact hl)] at h6; cases h6
        exact absurd rfl (other j f h3 _ h5)
      · rw [List.getElem?_set_ne hk] at h6
        exact R.dis j k f g a h3 h4 h5 h6
  · rcases set_get h with ⟨_, q, _⟩ | ⟨hj, h⟩
    · cases q
    · rw [List.getElem?_set_ne hj]; exact R.src j h
/-- a place that was new is kept away from now on -/
theorem Rel.prot2 {H1 : Hp} (R : Rel S P ρ σ H) (e : Ext S.dom H H1) (i : S.inv H1) {p : Addr} {o : HO} (hp : H p = none) (ho : H1 p = some o) (m : Mut (some o)) : Rel S (fun a => P a ∨ a = p) ρ σ H1 := by
  have hN : ∀ a, Nn (fun a => P a ∨ a = p) ρ σ a → Nn P ρ σ a ∨ H a = none := fun a h => by
    rcases h with (h | h) | h
    · exact .inl (.inl h)
    · exact .inr (h ▸ hp)
    · exact .inl (.inr h)
  have eN := e.mono R.domN
  refine ⟨R.len, fun a h => .inl (R.sub a h), ⟨fun a h => ?_⟩, i, fun j d h => ?_, fun j d h => ?_, R.dis, R.src⟩
  · rcases h with h | rfl
    · exact (R.ext e i).fitP.dom a h
    · exact ⟨o, ho, m⟩
  · obtain ⟨v, q, r⟩ := R.sh j d h
    exact ⟨v, q, r.move eN R.fit hN⟩
  · obtain ⟨a, q, l, r, n⟩ := R.own j d h
    refine ⟨a, q, l, r.move eN R.fit hN (fun b o' eb hb => by cases eb; exact e _ o' hb fun z => n (R.sub _ z)), fun z => ?_⟩
    rcases z with z | z
    · exact n z
    · obtain ⟨o', ho', _⟩ := r.list_at l
      rw [z, hp] at ho'; cases ho'
def setsV : L2.St → List Nat → List V → L2.St
  | σ, i :: is, v :: vs => setsV (σ.set i (some v)) is vs
  | σ, _, _ => σ
theorem sets_rel : ∀ {ps : List Addr} {vs : List V} {bs : List (Nat × B)} {M : Zn} {ρ : Nv} {σ : L2.St}, (∀ a, S.dom a → P a) → Rel S (fun a => P a ∨ a ∈ ps) ρ σ H → (∀ a, Nn (fun a => P a ∨ a ∈ ps) ρ σ a → M a) → (∀ p ∈ ps, ¬ P p) → PBs M H ps vs bs →
    Rel S P (sets ρ bs) (setsV σ (bs.map (·.1)) vs) H ∧ ∀ a, OwnAt (sets ρ bs) (setsV σ (bs.map (·.1)) vs) a → OwnAt ρ σ a ∨ a ∈ ps
  | _, _, _, M, ρ, σ, hs, R, hM, hn, .nil => by
    have e : (fun a => P a ∨ a ∈ ([] : List Addr)) = P := by funext a; simp
    rw [e] at R
    exact ⟨R, fun a z => .inl z⟩
  | ps, _, _, M, ρ, σ, hs, R, hM, hn, .sh (i := i) (v := v) (d := d) r t => by
    have R1 := R.set i (r.less hM)
    obtain ⟨R2, h2⟩ := sets_rel hs R1 (fun a z => hM a (z.elim .inl fun z => .inr (own_set z))) hn t
    exact ⟨R2, fun a z => (h2 a z).elim (fun z => .inl (own_set z)) .inr⟩
  | p :: ps, .ref _ :: _, (i, .own d) :: _, M, ρ, σ, hs, R, hM, hn, .own l rb hMp hnp t => by
    have R1 : Rel S (fun a => P a ∨ a ∈ ps) (ρ.set i (some (.own d))) (σ.set i (some (.ref p))) H :=
      R.take (p := p) (fun a z => z.elim .inl fun z => .inr (List.mem_cons_of_mem _ z)) (fun a z => z.elim (fun z => .inl (.inl z)) fun z => (List.mem_cons.mp z).elim .inr fun z => .inl (.inr z)) (.inr (List.mem_cons_self ..))
        (fun z => z.elim (hn p (List.mem_cons_self ..)) hnp) (fun a z => .inl (hs a z)) l (rb.less hM)
    have hM1 : ∀ a, Nn (fun a => P a ∨ a ∈ ps) (ρ.set i (some (.own d))) (σ.set i (some (.ref p))) a → M a := fun a z => by
      rcases z with z | z
      · exact hM a (.inl (z.elim .inl fun z => .inr (List.mem_cons_of_mem _ z)))
      · rcases own_setO z with z | ⟨j, e, _, h3, h4⟩
        · exact z ▸ hMp
        · exact hM a (.inr ⟨j, e, h3, h4⟩)
    obtain ⟨R2, h2⟩ := sets_rel hs R1 hM1 (fun q hq => hn q (List.mem_cons_of_mem _ hq)) t
    · refine ⟨R2, fun a z => (h2 a z).elim (fun z => ?_) fun z => .inr (List.mem_cons_of_mem _ z)⟩
      rcases own_setO z with z | ⟨j, e, _, h3, h4⟩
      · exact .inr (z ▸ List.mem_cons_self ..)
      · exact .inl ⟨j, e, h3, h4⟩
end
/-- several values, some of them new -/
def tPr (C : Calls) (is : List (Bool × Nat)) (es : Es) : TA := fun σ H Q => ∃ S P ρ Q0, Rel S P ρ σ H ∧ parW C is es ρ Q0 ∧ ∀ bs, Q0 bs → ∀ ps vs H', Ext S.dom H H' → S.inv H' → Rel S (fun a => P a ∨ a ∈ ps) ρ σ H' → (∀ p ∈ ps, H p = none) →
  PBs (Nn (fun a => P a ∨ a ∈ ps) ρ σ) H' ps vs bs → bs.map (·.1) = is.map (·.2) → Q vs H'
section
variable {C : Calls} {X : Cx} {tb : List (Str × Nat)} {D : Ends} {σ : L2.St} {H : Hp}
theorem pr_nil : PA X [] (tPr C [] .nil) := PA.weak pa_nil fun σ H Q ⟨S, P, ρ, Q0, R, h, q⟩ => q _ h [] [] H Ext.refl R.inv (by
  have e : (fun a => P a ∨ a ∈ ([] : List Addr)) = P := by funext a; simp
  rw [e]; exact R) (fun p hp => by cases hp) .nil rfl
theorem pr_cons {o : Bool} {i : Nat} {is : List (Bool × Nat)} {e : E} {r : Es} {x : PySem.Expr} {xs : List PySem.Expr} (ho : o = true → frE e = true) (he : PE X x (tE C e)) (hr : PA X xs (tPr C is r)) (hs : notStar x = true) : PA X (x :: xs) (tPr C ((o, i) :: is) (.cons e r)) := by
  have hst : starEach (x :: xs) X.env = (false, eval x X.env) :: starEach xs X.env := by cases x <;> first | rfl | cases hs
  refine PA.weak (pa_cons he hr hst) fun σ H Q ⟨S, P, ρ, Q0, R, h, q⟩ => ⟨S, P, ρ, _, R, h, fun d hd v H1 e1 i1 r1 fs => ?_⟩
  obtain ⟨hl, hd⟩ := hd
  have R1 := R.ext e1 i1
  cases o with
  | false =>
    refine ⟨S, P, ρ, _, R1, hd, fun bs hb ps vs H2 e2 i2 R2 hp pb hm => q _ hb ps (v :: vs) H2 (e1.trans e2) i2 R2 (fun p z => fresh_trans i1 e1 (hp p z)) (.sh ?_ pb) (by simp [hm])⟩
    refine r1.move (e2.mono R1.domN) R1.fit fun a z => ?_
    rcases z with (z | z) | z
    · exact .inl (.inl z)
    · exact .inr (hp a z)
    · exact .inl (.inr z)
  | true =>
    obtain ⟨p, rfl, np, rb⟩ := fs (ho rfl) (hl rfl)
    obtain ⟨ob, hob, mob⟩ := rb.list_at (hl rfl)
    have Rp1 := R.prot2 e1 i1 np hob mob
    refine ⟨S, _, ρ, _, Rp1, hd, fun bs hb ps vs H2 e2 i2 R2 hp pb hm => ?_⟩
    have eP : (fun a => (P a ∨ a = p) ∨ a ∈ ps) = fun a => P a ∨ a ∈ p :: ps := by funext a; simp [or_assoc]
    rw [eP] at R2 pb
    have npp : p ∉ ps := fun z => by have := hp p z; rw [hob] at this; cases this
    have nD : ¬ S.dom p := fun z => by
      obtain ⟨o', ho', _⟩ := (S.fit H R.inv).dom p z
      rw [np] at ho'; cases ho'
    refine q _ hb (p :: ps) (.ref p :: vs) H2 (e1.trans e2) i2 R2 (fun a z => (List.mem_cons.mp z).elim (fun z => z ▸ np) fun z => fresh_trans i1 e1 (hp a z)) (.own (hl rfl) ?_ (.inl (.inr (List.mem_cons_self ..))) npp pb) (by simp [hm])
    refine rb.move (N := fun a => Nn P ρ σ a ∨ a = p) (e2.mono fun a z => .inl (R.domN a z)) ⟨fun a z => ?_⟩ (fun a z => ?_) (fun b o' eb hb' => by cases eb; exact e2 _ o' hb' nD)
    · rcases z with z | rfl
      · exact R1.fit.dom a z
      · exact ⟨ob, hob, mob⟩
    · rcases z with (z | z) | z
      · exact .inl (.inl (.inl z))
      · exact (List.mem_cons.mp z).elim (fun z => .inl (.inr z)) fun z => .inr (hp a z)
      · exact .inl (.inl (.inr z))
/-- what follows: the names hold the values -/
theorem w_par {is : List (Bool × Nat)} {es : Es} (h : tS C (.par is es) D σ H) : tPr C is es σ H fun vs H1 => vs.length = is.length ∧ ∀ H2, Ext No H1 H2 → D.nx (setsV σ (is.map (·.2)) vs) H2 := by
  obtain ⟨S, P, ρ, K, R, h, f⟩ := h
  refine ⟨S, P, ρ, _, R, h, fun bs hk ps vs H1 e1 i1 R1 hp pb hm => ⟨?_, fun H2 e2 => ?_⟩⟩
  · rw [pb.length, ← List.length_map (f := (·.1)), hm, List.length_map]
  · have R2 := R1.ext0 e2
    have hn : ∀ p ∈ ps, ¬ P p := fun p z w => by
      obtain ⟨o, ho, _⟩ := R.fitP.dom p w
      rw [hp p z] at ho; cases ho
    have pb2 : PBs (Nn (fun a => P a ∨ a ∈ ps) ρ σ) H2 ps vs bs := by
      clear hk hm
      generalize hM : Nn (fun a => P a ∨ a ∈ ps) ρ σ = M at pb ⊢
      have fM : Fit M H1 := hM ▸ R1.fit
      clear hM R2 R1 hn hp
      induction pb with
      | nil => exact .nil
      | sh r t ih => exact .sh (r.ext (e2.any _) fM) ih
      | own l rb hMp hnp t ih => exact .own l (rb.ext e2 fM) hMp hnp ih
    obtain ⟨R3, h3⟩ := sets_rel R.sub R2 (fun a z => z) hn pb2
    rw [hm] at R3 h3
    exact f.nx _ _ _ hk R3 ⟨(e1.trans (e2.any _)).mono fun _ z => .inl z, fun a z => (h3 a z).elim .inl fun z => .inr (hp a z), S.ext i1 e2⟩
end
end PD
set_option maxHeartbeats 4000000
/-! PDt: every text is as its compact form says. -/
namespace PD
open PySem L2
theorem swap_name {X : Cx} (hk : X.env.scope.kind = .function) {v : PySem.Expr} {x : Str} {p : Pos} {l : Nat} : swapsWith v (some (.Name x p)) l X.env = pure (swB X.env.scope v x p) := by
  have hb : (X.env.blockKind == ScopeKind.function) = true := by unfold Env.blockKind; rw [hk]; rfl
  cases v <;> first
    | rfl
    | (unfold swapsWith swB; simp only [hb, Bool.true_and]; rfl)
theorem swap_none {X : Cx} {v : PySem.Expr} {l : Nat} (h : isComp v = false) : swapsWith v none l X.env = pure false := by
  cases v <;> first | rfl | cases h
theorem swap_sole {X : Cx} {v t : PySem.Expr} {l : Nat} (h : notNameT t = true) : swapsWithSole [t] v l X.env = pure false := by
  cases t <;> first | (cases h; done) | (cases v <;> rfl)
theorem sw_stores0 {X : Cx} {t v : PySem.Expr} (h : isTuple v = false) : swappedStores [t] v X.env = pure none := by
  cases v <;> first | (cases h; done) | (cases t <;> rfl)
theorem sw_stores {X : Cx} (hk : X.env.scope.kind = .function) {ts vs : List PySem.Expr} {k k2 p p2} {o : Option (List Str)} (h : swS X.env.scope ts vs = some o) : swappedStores [.Tuple ts k p] (.Tuple vs k2 p2) X.env = pure o := by
  have hb : (X.env.blockKind != ScopeKind.function) = false := by unfold Env.blockKind; rw [hk]; rfl
  unfold swS at h
  unfold swappedStores
  simp only [pure_bind]
  rw [hb, Bool.or_false]
  split at h
  · rename_i h1; cases h; exact if_pos h1
  · rename_i h1; refine (if_neg h1).trans ?_
    split at h
    · rename_i h2; cases h; exact if_pos h2
    · rename_i h2; refine (if_neg h2).trans ?_
      simp only at h
      split at h
      · rename_i h3; cases h; exact if_pos h3
      · rename_i h3; refine (if_neg h3).trans ?_
        split at h
        · rename_i h4; cases h; exact if_pos h4
        · rename_i h4; refine (if_neg h4).trans ?_
          split at h
          · cases h
          · rename_i h5; cases h; exact if_neg h5

structure Stm (X : Cx) : Prop where
  kind : X.env.scope.kind = .function
  fn : ∀ x, X.fn x = true
  own : PassesOwn (model X.prog X.w) X.A X.env X.xe
section
variable {C : Calls} {tb : List (Str × Nat)} {X : Cx}
theorem loc_of {sc : Scope} {x : Str} (h : locB sc x = true) : L2.Loc sc x := by
  unfold locB at h; unfold L2.Loc
  split at h <;> first | exact .inl (by assumption) | exact .inr (by assumption) | cases h
def gNs : List (Bool × Nat) → TGs
  | [] => gNil
  | (_, i) :: r => gCons (gName i) (gNs r)
theorem gNs_run {H : Hp} {Q : L2.St → Hp → Prop} : ∀ {is : List (Bool × Nat)} {vs : List V} {σ : L2.St}, vs.length = is.length → Q (setsV σ (is.map (·.2)) vs) H → gNs is vs σ H Q
  | [], [], σ, _, q => ⟨rfl, q⟩
  | (_, i) :: r, v :: vs, σ, h, q => ⟨v, vs, rfl, gNs_run (is := r) (by simpa using h) q⟩
theorem pgs_names (G : Good tb C X) (M : Stm X) : ∀ {is : List (Bool × Nat)} {ts : List PySem.Expr}, chkNames X.N X.env.scope is ts = true → PGs X ts (gNs is)
  | [], [], _ => pgs_nil
  | (_, i) :: r, .Name x p :: ts, h => by
    unfold chkNames at h
    obtain ⟨h, h3⟩ := bnd h
    obtain ⟨h1, h2⟩ := bnd h
    exact pgs_cons (pg_name (i := i) G.nd (of_decide_eq_true h1) (loc_of h2) (.inl (M.fn x))) (pgs_names G M h3) rfl
theorem names_shape {N : List Str} {sc : Scope} {env : PySem.Env} : ∀ {is : List (Bool × Nat)} {ts : List PySem.Expr}, chkNames N sc is ts = true → (assignEach ts env).length = is.length ∧ (assignEach ts env).findIdx? (·.1) = none ∧ ts.length = is.length
  | [], [], _ => ⟨rfl, rfl, rfl⟩
  | (_, i) :: r, .Name x p :: ts, h => by
    unfold chkNames at h
    obtain ⟨h, h3⟩ := bnd h
    obtain ⟨a1, a2, a3⟩ := names_shape (env := env) h3
    refine ⟨?_, ?_, by simp [a3]⟩
    · show ((false, assign (.Name x p) env) :: assignEach ts env).length = _
      simp [a1]
    · show ((false, assign (.Name x p) env) :: assignEach ts env).findIdx? (·.1) = none
      rw [List.findIdx?_cons, a2]; rfl
theorem okPr (G : Good tb C X) : ∀ {is : List (Bool × Nat)} {es : Es} {xs : List PySem.Expr}, chkEs X.N tb es X.env.scope xs = true → xs.all notStar = true → parFr is es = true → PA X xs (tPr C is es)
  | [], .nil, xs, h, _, _ => by
    unfold chkEs at h; split at h
    · exact pr_nil
    · cases h
  | (o, i) :: is, .cons e r, xs, h, hs, hp => by
    unfold chkEs at h; split at h
    · rename_i x xs
      obtain ⟨h, h3⟩ := bnd h
      obtain ⟨h1, h2⟩ := bnd h
      unfold parFr at hp
      obtain ⟨p1, p2⟩ := bnd hp
      exact pr_cons (fun ho => by rw [ho] at p1; simpa using p1) (okE e X x G h2) (okPr G h3 (by rw [List.all_cons] at hs; exact (bnd hs).2) p2) h1
    · cases h
  | [], .cons _ _, _, _, _, h => by unfold parFr at h; cases h
  | [], .star _ _, _, _, _, h => by unfold parFr at h; cases h
  | _ :: _, .nil, _, _, _, h => by unfold parFr at h; cases h
  | _ :: _, .star _ _, _, _, _, h => by unfold parFr at h; cases h
theorem tPr_mono {is : List (Bool × Nat)} {es : Es} {σ : L2.St} {H : Hp} {Q Q' : List V → Hp → Prop} (h : tPr C is es σ H Q) (w : ∀ vs H', Q vs H' → Q' vs H') : tPr C is es σ H Q' := by
  obtain ⟨S, P, ρ, Q0, R, h, q⟩ := h
  exact ⟨S, P, ρ, Q0, R, h, fun bs hb ps vs H' e i R' hp pb hm => w _ _ (q bs hb ps vs H' e i R' hp pb hm)⟩
theorem swS_len {sc : Scope} {ts vs : List PySem.Expr} {ns : List Str} (h : swS sc ts vs = some (some ns)) : vs.length = ts.length := by
  unfold swS at h
  split at h
  · cases h
  · rename_i h1
    simp only [Bool.or_eq_true, not_or, bne_iff_ne, ne_eq, Decidable.not_not] at h1
    exact h1.2
theorem z64 : 64 ≤ sizeLine := by decide
theorem ok_par (G : Good tb C X) (M : Stm X) {is : List (Bool × Nat)} {es : Es} {z : PySem.Stmt} (h : chkS X.N tb X.env.scope (.par is es) z = true) : PS X z (tS C (.par is es)) := by
  unfold chkS at h
  split at h
  · rename_i ts k pt vs k2 pt2 pos
    obtain ⟨h, h6⟩ := bnd h
    obtain ⟨h, h7⟩ := bnd h
    obtain ⟨h, h5⟩ := bnd h
    obtain ⟨h, h4⟩ := bnd h
    obtain ⟨h, h3⟩ := bnd h
    obtain ⟨h1, h2⟩ := bnd h
    have pa := okPr G h2 h3 h4
    obtain ⟨n1, n2, n3⟩ := names_shape (env := X.env) h1
    have nd : (is.map (·.2)).Nodup := of_decide_eq_true h5
    have h64 : is.length ≤ 64 := of_decide_eq_true h7
    have := z64
    split at h6
    · rename_i hsw
      refine PS.weak (ps_asg (pe_tup pa) (pg_tup G.calm (pgs_names G M h1) n1 n2) (swap_sole rfl) (sw_stores M.kind hsw) rfl) fun Dd σ H h => ?_
      refine tPr_mono (w_par h) fun vs H1 ⟨hl, hq⟩ => ⟨by omega, fun p hp => ⟨p, vs, rfl, SqT.of upd_same, hl, gNs_run hl (hq _ (Ext.new hp))⟩⟩
    · rename_i ns hsw
      obtain ⟨g6, h8⟩ := bnd h6
      obtain ⟨g, h9⟩ := bnd g6
      have hns := of_decide_eq_true h8
      subst hns
      have hvl := swS_len hsw
      rw [Bool.or_eq_true] at g
      rcases g with g | g
      · have hl := of_decide_eq_true g
        obtain ⟨i, j, e⟩ : ∃ i j, is = [i, j] := by
          match is, n3.symm.trans hl with
          | [i, j], _ => exact ⟨i, j, rfl⟩
        subst e
        obtain ⟨_, i⟩ := i
        obtain ⟨_, j⟩ := j
        rw [hl] at hvl
        clear h2 h3 n1 n2 n3 h6 g6 h8 h
        obtain ⟨x, px, y, py, ets⟩ : ∃ x px y py, ts = [.Name x px, .Name y py] := by
          match ts, hl, h9 with
          | [a, b], _, h9 =>
            cases a <;> first | (simp [isLoc] at h9; done) | skip
            cases b <;> first | (simp [isLoc] at h9; done) | skip
            exact ⟨_, _, _, _, rfl⟩
        subst ets
        simp only [chkNames, Bool.and_eq_true, decide_eq_true_eq] at h1
        simp only [List.all_cons, List.all_nil, isLoc, Bool.and_eq_true, decide_eq_true_eq] at h9
        have hij : i ≠ j := by simpa using nd
        match vs, hvl, pa, hsw with
        | [a, b], _, pa, hsw =>
          refine PS.weak (ps_par G.calm G.nd h1.1.1 h1.2.1.1 hij h9.1 h9.2.1 pa (sw_stores M.kind hsw) (swap_sole rfl)) fun Dd σ H h => ?_
          refine tPr_mono (w_par h) fun vs H1 ⟨hl, hq⟩ => ?_
          match vs, hl with
          | [v, w], hl => exact ⟨v, w, rfl, hq _ Ext.refl⟩
      · have hl := of_decide_eq_true g
        obtain ⟨i, j, l, e⟩ : ∃ i j l, is = [i, j, l] := by
          match is, n3.symm.trans hl with
          | [i, j, l], _ => exact ⟨i, j, l, rfl⟩
        subst e
        obtain ⟨_, i⟩ := i
        obtain ⟨_, j⟩ := j
        obtain ⟨_, l⟩ := l
        rw [hl] at hvl
        clear h2 h3 n1 n2 n3 h6 g6 h8 h
        obtain ⟨x, px, y, py, z, pz, ets⟩ : ∃ x px y py z pz, ts = [.Name x px, .Name y py, .Name z pz] := by
          match ts, hl, h9 with
          | [a, b, c], _, h9 =>
            cases a <;> first | (simp [isLoc] at h9; done) | skip
            cases b <;> first | (simp [isLoc] at h9; done) | skip
            cases c <;> first | (simp [isLoc] at h9; done) | skip
            exact ⟨_, _, _, _, _, _, rfl⟩
        subst ets
        simp only [chkNames, Bool.and_eq_true, decide_eq_true_eq] at h1
        simp only [List.all_cons, List.all_nil, isLoc, Bool.and_eq_true, decide_eq_true_eq] at h9
        have hij : i ≠ j ∧ i ≠ l ∧ j ≠ l := by simpa [and_assoc] using nd
        match vs, hvl, pa, hsw with
        | [a, b, c], _, pa, hsw =>
          refine PS.weak (ps_par3 G.calm G.nd h1.1.1 h1.2.1.1 h1.2.2.1.1 hij.1 hij.2.1 hij.2.2 h9.1 h9.2.1 h9.2.2.1 pa (sw_stores M.kind hsw) (swap_sole rfl)) fun Dd σ H h => ?_
          refine tPr_mono (w_par h) fun vs H1 ⟨hl, hq⟩ => ?_
          match vs, hl with
          | [u, v, w], hl => exact ⟨u, v, w, rfl, hq _ Ext.refl⟩
    · cases h6
  · cases h
theorem starE1 {env : PySem.Env} {v : PySem.Expr} (h : notStar v = true) : starEach [v] env = (false, eval v env) :: starEach [] env := by
  cases v <;> first | rfl | cases h
theorem comp_lc {N : List Str} {sc : Scope} {e : E} {v : PySem.Expr} (h : chkE N tb e sc v = true) (hc : isComp v = true) : ∃ vs g it c elt, e = .lc vs g it c elt := by
  cases e <;> first
    | exact ⟨_, _, _, _, _, rfl⟩
    | (exfalso; unfold chkE at h; (try split at h) <;> first | (cases hc; done) | (cases h; done))
mutual
theorem okS (G : Good tb C X) (M : Stm X) : ∀ (s : Sm) (z : PySem.Stmt), chkS X.N tb X.env.scope s z = true → PS X z (tS C s)
  | .set o i e, z, h => by
    unfold chkS at h; split at h
    · rename_i x p v pos
      obtain ⟨h, h4⟩ := bnd h
      obtain ⟨h, h3⟩ := bnd h
      obtain ⟨h1, h2⟩ := bnd h
      have ho : o = true → frE e = true := fun z => by rw [z] at h4; simpa using h4
      by_cases hs : swB X.env.scope v x p = true
      · have hc : isComp v = true := by
          unfold swB at hs
          cases v <;> first | rfl | cases hs
        obtain ⟨vs, g, it, c, elt, ee⟩ := comp_lc h3 hc
        subst ee
        unfold chkE at h3; split at h3
        · rename_i x0 tg iter ifs scope pos0 hh
          obtain ⟨k, k6⟩ := bnd h3
          obtain ⟨k, k5⟩ := bnd k
          obtain ⟨k, k4⟩ := bnd k
          obtain ⟨k, k3⟩ := bnd k
          obtain ⟨k, k2⟩ := bnd k
          obtain ⟨k0, k1⟩ := bnd k
          have hl := of_decide_eq_true k2
          obtain ⟨i1, i2⟩ := okIt it X tg _ G k4
          refine PS.weak ((ev_lc G.calm G.nd (i1 true) (blkOk_by k0) (by rw [List.map_snd_zip]; omega) (of_decide_eq_true k1).symm
            (fun s H Cc cl fp => okG (X := X.blk s H scope (compEnvC scope cl Cc X.env) fp) G.nd G.calm (fun z hz => fnB_ok hz) g tg k3)
            (fun s H Cc cl fp => okTo c (X.blk s H scope (compEnvC scope cl Cc X.env) fp) _ (G.blk _ _ _ _ _) k5)
            (fun s H Cc cl fp => okE elt (X.blk s H scope (compEnvC scope cl Cc X.env) fp) _ (G.blk _ _ _ _ _) k6) (folded_plain i2)).2 (of_decide_eq_true h1) ?_ (by rw [swap_name M.kind, hs])) fun D σ H q => w_set ho q
          unfold swB at hs
          simp only [Bool.and_eq_true, beq_iff_eq] at hs
          exact hs.1.1
        · cases h3
      · refine PS.weak (ps_set G.nd (of_decide_eq_true h1) (loc_of h2) (okE e X v G h3) (by rw [swap_name M.kind]; simp only [Bool.not_eq_true] at hs; rw [hs]) (.inl (M.fn x))) fun D σ H q => w_set ho q
    · cases h
  | .asg g e, z, h => by
    unfold chkS at h; split at h
    · obtain ⟨h, h4⟩ := bnd h
      obtain ⟨h, h3⟩ := bnd h
      obtain ⟨h1, h2⟩ := bnd h
      refine PS.weak (ps_asg (okE e X _ G h3) (okG G.nd G.calm (fun x _ => .inl (M.fn x)) g _ h2) (swap_sole h1) (sw_stores0 (by simpa using h4)) ?_) fun D σ H q => w_asg q
      have := chkG_star h2
      rw [assignEach_cons _ _ _ this]; rfl
    · cases h
  | .par is es, z, h => ok_par G M h
  | .aug i op e, z, h => by
    unfold chkS at h; split at h
    · rename_i x p o v pos
      obtain ⟨h, h4⟩ := bnd h
      obtain ⟨h, h3⟩ := bnd h
      obtain ⟨h1, h2⟩ := bnd h
      rw [← of_decide_eq_true h3]
      exact PS.weak (ps_aug G.nd (of_decide_eq_true h1) (loc_of h2) (okE e X _ G h4) (ip_any op) (.inl (M.fn x))) fun D σ H q => w_aug q
    · cases h
  | .ret e, z, h => by
    unfold chkS at h; split at h
    · exact PS.weak (ps_ret (okE e X _ G h)) fun D σ H q => w_ret q
    · cases h
  | .retN, z, h => by
    unfold chkS at h; split at h
    · exact PS.weak ps_retN fun D σ H q => w_retN q
    · cases h
  | .ite c a b, z, h => by
    unfold chkS at h; split at h
    · obtain ⟨h, h3⟩ := bnd h
      obtain ⟨h1, h2⟩ := bnd h
      exact PS.weak (ps_if (okT c X _ G h1).1 (okSs G M a _ h2) (okSs G M b _ h3)) fun D σ H q => w_ite q
    · cases h
  | .for_ g it body, z, h => by
    unfold chkS at h; split at h
    · rename_i tg iter b pos
      obtain ⟨h, h3⟩ := bnd h
      obtain ⟨h1, h2⟩ := bnd h
      obtain ⟨i1, i2⟩ := okIt it X tg _ G h2
      exact PS.weak (ps_for M.own G.calm (i1 false) (okG G.nd G.calm (fun x _ => .inl (M.fn x)) g _ h1) (okSs G M body _ h3) (folded_plain i2)) fun D σ H q => w_for q
    · cases h
  | .whl c body, z, h => by
    unfold chkS at h; split at h
    · obtain ⟨h1, h2⟩ := bnd h
      exact PS.weak (ps_while M.own (okT c X _ G h1).1 (okSs G M body _ h2)) fun D σ H q => w_whl q
    · cases h
  | .app i e, z, h => by
    unfold chkS at h; split at h
    · rename_i x p m ap v cp pos
      obtain ⟨h, h5⟩ := bnd h
      obtain ⟨h, h4⟩ := bnd h
      obtain ⟨h, h3⟩ := bnd h
      obtain ⟨h1, h2⟩ := bnd h
      have hm := of_decide_eq_true h2
      subst hm
      exact PS.weak (ps_expr (pe_bm PySem.F.plainAttrs_list PySem.F.slot_list_append PySem.F.type_list_append mt_append (var_of rfl h1) (pa_cons (okE e X v G h5) pa_nil (starE1 h4)) rfl (by rw [starE1 h4]; rfl) h3 (starE1 h4) rfl) (swap_none rfl)) fun D σ H q => w_app q
    · cases h
  | .ext i e, z, h => by
    unfold chkS at h; split at h
    · rename_i x p m ap v cp pos
      obtain ⟨h, h5⟩ := bnd h
      obtain ⟨h, h4⟩ := bnd h
      obtain ⟨h, h3⟩ := bnd h
      obtain ⟨h1, h2⟩ := bnd h
      have hm := of_decide_eq_true h2
      subst hm
      exact PS.weak (ps_expr (pe_bm PySem.F.plainAttrs_list PySem.F.slot_list_extend PySem.F.type_list_extend mt_extend (var_of rfl h1) (pa_cons (okE e X v G h5) pa_nil (starE1 h4)) rfl (by rw [starE1 h4]; rfl) h3 (starE1 h4) rfl) (swap_none rfl)) fun D σ H q => w_ext q
    · cases h
  | .seti i k e, z, h => by
    unfold chkS at h; split at h
    · rename_i x p y sp v pos
      obtain ⟨h, h4⟩ := bnd h
      obtain ⟨h, h3⟩ := bnd h
      obtain ⟨h1, h2⟩ := bnd h
      refine PS.weak (ps_asg (okE e X v G h4) (pg_sub (var_of rfl h1) (okE k X y G h3) (set_any G.units) ?_) (swap_sole rfl) ?_ rfl) fun D σ H q => w_seti q
      · intro u; cases y <;> first | rfl | cases h2
      · cases v <;> rfl
    · cases h
  | .popTo g i k, z, h => by
    unfold chkS at h; split at h
    · rename_i t x p m ap as cp pos
      obtain ⟨h, h5⟩ := bnd h
      obtain ⟨h, h4⟩ := bnd h
      obtain ⟨h, h3⟩ := bnd h
      obtain ⟨h1, h2⟩ := bnd h
      have hm := of_decide_eq_true h3
      subst hm
      have hg := okG G.nd G.calm (fun x _ => .inl (M.fn x)) g _ h1
      have hst := chkG_star h1
      have ha : (assignEach [t] X.env).map (·.2) = [assign t X.env] := by rw [assignEach_cons _ _ _ hst]; rfl
      have key : PE X (.Call (.Attribute (.Name x p) ("pop" : Str) ap) as [] cp) (tPop X i C k) := by
        split at h5
        · exact pe_bm0 PySem.F.plainAttrs_list PySem.F.slot_list_pop PySem.F.type_list_pop mt_pop (var_of rfl h2) rfl h4
        · obtain ⟨g1, g2⟩ := bnd h5
          rename_i k v
          exact pe_bm PySem.F.plainAttrs_list PySem.F.slot_list_pop PySem.F.type_list_pop mt_popAt (var_of rfl h2) (pa_cons (okE k X v G g2) pa_nil (starE1 g1)) rfl (by rw [starE1 g1]; rfl) h4 (starE1 g1) rfl
        · cases h5
      refine PS.weak (ps_asg key hg ?_ (sw_stores0 rfl) ha) fun D σ H q => w_pop q
      cases t <;> rfl
    · cases h
  | .drop e, z, h => by
    unfold chkS at h; split at h
    · obtain ⟨h1, h2⟩ := bnd h
      exact PS.weak (ps_expr (okE e X _ G h1) (swap_none (by simpa using h2))) fun D σ H q => w_drop q
    · cases h
  | .brk, z, h => by
    unfold chkS at h; split at h
    · exact PS.weak ps_break fun D σ H ⟨S, P, ρ, K, R, h, f⟩ => f.bk _ _ _ h R R.stp
    · cases h
  | .cont, z, h => by
    unfold chkS at h; split at h
    · exact PS.weak ps_continue fun D σ H ⟨S, P, ρ, K, R, h, f⟩ => f.ct _ _ _ h R R.stp
    · cases h
  | .pass, z, h => by
    unfold chkS at h; split at h
    · exact PS.weak ps_pass fun D σ H ⟨S, P, ρ, K, R, h, f⟩ => f.nx _ _ _ h R R.stp
    · cases h
theorem okSs (G : Good tb C X) (M : Stm X) : ∀ (s : Ss) (z : List PySem.Stmt), chkSs X.N tb X.env.scope s z = true → PSs X z (tSs C s)
  | .nil, z, h => by
    unfold chkSs at h
    cases z with
    | nil => exact PSs.weak pss_nil fun D σ H ⟨S, P, ρ, K, R, h, f⟩ => f.nx _ _ _ h R R.stp
    | cons _ _ => cases h
  | .cons s r, z, h => by
    unfold chkSs at h; split at h
    · obtain ⟨h1, h2⟩ := bnd h
      exact PSs.weak (pss_cons (okS G M s _ h1) (okSs G M r _ h2)) fun D σ H q => w_cons q
    · cases h
  | .frz i r, z, h => by
    unfold chkSs at h
    exact PSs.weak (okSs G M r z h) fun D σ H q => w_frz q
end
end
end PD
set_option maxHeartbeats 2000000
/-! PDu: defs by a table; their calls by depth. -/
namespace PD
open PySem L2 PySem.Spec PyProof.Rows
inductive Fn where
  | code (np ns : Nat) (body : Ss)
  | ext (np : Nat) (sem : List B → W D)
def Fn.np : Fn → Nat
  | .code n _ _ => n
  | .ext n _ => n
def startN (ns : Nat) (bs : List B) : Nv := bs.map some ++ List.replicate (ns - bs.length) none
def isRd : B → Bool
  | .own _ => false
  | _ => true
def koF (Q : D → Prop) : Ko := { nx := fun _ => Q .none, rt := Q }
def callF (prog : List Fn) : Nat → Calls
  | 0 => fun _ _ _ => False
  | k + 1 => fun f bs Q => match prog[f]? with
    | some (.code np ns body) => bs.length = np ∧ bs.all isRd = true ∧ execs (callF prog k) body (startN ns bs) (koF Q)
    | some (.ext np sem) => bs.length = np ∧ 1 ≤ k ∧ sem bs Q
    | none => False
theorem callF_ar {prog : List Fn} {k f : Nat} {fn : Fn} {bs : List B} {Q : D → Prop} (h : prog[f]? = some fn) (c : callF prog k f bs Q) : bs.length = fn.np := by
  cases k with
  | zero => cases c
  | succ k =>
    unfold callF at c
    simp only [h] at c
    cases fn with
    | code np ns body => exact c.1
    | ext np sem => exact c.1
section
variable {S : Src} {P : Zn} {H : Hp}
theorem rpAs_get : ∀ {vs : List V} {bs : List B} {i : Nat} {b : B}, RpAs S P H vs bs → bs[i]? = some b → (∃ d v, b = .sh d ∧ vs[i]? = some v ∧ Rp P H v d) ∨ (b = .src ∧ vs[i]? = some S.v)
  | _, _, 0, _, .sh r _, h => by cases h; exact .inl ⟨_, _, rfl, rfl, r⟩
  | _, _, 0, _, .src _, h => by cases h; exact .inr ⟨rfl, rfl⟩
  | _, _, i + 1, _, .sh _ t, h => rpAs_get (i := i) t (by simpa using h)
  | _, _, i + 1, _, .src t, h => rpAs_get (i := i) t (by simpa using h)
theorem startN_get {ns : Nat} {bs : List B} {i : Nat} {b : B} (h : (startN ns bs)[i]? = some (some b)) : bs[i]? = some b := by
  unfold startN at h
  by_cases hi : i < bs.length
  · rw [List.getElem?_append_left (by simpa using hi), List.getElem?_map] at h
    obtain ⟨x, h1, h2⟩ := Option.map_eq_some_iff.mp h
    cases h2; exact h1
  · rw [List.getElem?_append_right (by simpa using Nat.le_of_not_lt hi)] at h
    have := List.mem_of_getElem? h
    simp at this
theorem start_get {N : List Str} {vs : List V} {i : Nat} {v : V} (h : vs[i]? = some v) : (L2.start N vs)[i]? = some (some v) := by
  have hi : i < vs.length := by
    rcases Nat.lt_or_ge i vs.length with q | q
    · exact q
    · rw [List.getElem?_eq_none q] at h; cases h
  unfold L2.start
  rw [List.getElem?_append_left (by simpa using hi), List.getElem?_map, h]; rfl
theorem rel_start {N : List Str} {vs : List V} {bs : List B} (hs : ∀ a, S.dom a → P a) (f : Fit P H) (i : S.inv H) (r : RpAs S P H vs bs) : Rel S P (startN N.length bs) (L2.start N vs) H ∧ ∀ a, ¬ OwnAt (startN N.length bs) (L2.start N vs) a := by
  have no : ∀ (j : Nat) (d : D), (startN N.length bs)[j]? ≠ some (some (.own d)) := fun j d z => by
    rcases rpAs_get r (startN_get z) with ⟨_, _, e, _⟩ | ⟨e, _⟩ <;> cases e
  have hN : ∀ a, Nn P (startN N.length bs) (L2.start N vs) a → P a := fun a z => z.elim id fun ⟨j, d, h1, _⟩ => absurd h1 (no j d)
  refine ⟨⟨?_, hs, f, i, fun j d h => ?_, fun j d h => absurd h (no j d), fun j k d e a h => absurd h (no j d), fun j h => ?_⟩, fun a ⟨j, d, h1, _⟩ => no j d h1⟩
  · unfold startN L2.start; simp [r.length]
  · rcases rpAs_get r (startN_get h) with ⟨d', v, e, hv, rp⟩ | ⟨e, _⟩
    · cases e; exact ⟨v, start_get hv, rp.less hN⟩
    · cases e
  · rcases rpAs_get r (startN_get h) with ⟨d', v, e, _⟩ | ⟨_, hv⟩
    · cases e
    · exact start_get hv
end
/-- a def of the text -/
structure Row where
  nm : Str
  st : PySem.Stmt
  N : List Str
  fn : Fn
def Row.ps (r : Row) : List Str := r.N.take r.fn.np
def fsB (N P : List Str) (sc : Scope) : Bool := decide (sc.kind = .function) && decide (sc.isCoroutine = false) && decide (sc.isGenerator = false) && decide N.Nodup && decide (N.take P.length = P) && P.all (fun x => locB sc x) && sc.names.all (fun y => decide (y.2 ≠ .free))
theorem fsB_ok {N P : List Str} {sc : Scope} (h : fsB N P sc = true) : FnScope N P sc := by
  unfold fsB at h
  simp only [Bool.and_eq_true, decide_eq_true_eq, List.all_eq_true] at h
  obtain ⟨⟨⟨⟨⟨⟨h1, h2⟩, h3⟩, h4⟩, h5⟩, h6⟩, h7⟩ := h
  refine ⟨h1, h2, h3, h4, h5, fun x hx => ?_, h7⟩
  have := h6 x hx
  unfold locB at this
  split at this <;> first | exact .inl (by assumption) | exact .inr (by assumption) | cases this
def tabOf (rows : List Row) : List (Str × Nat) := rows.map fun r => (r.nm, r.fn.np)
def progOf (rows : List Row) : List Fn := rows.map (·.fn)
def chkRow (tb : List (Str × Nat)) (r : Row) : Bool := match r.fn with
  | .code np ns body => decide (ns = r.N.length) && decide (np ≤ ns) && fsB r.N (r.N.take np) (defScope r.st) && chkSs r.N tb (defScope r.st) body (defBody r.st)
  | .ext .. => true
def bltNames : List Str := ["len", "tuple", "list", "sorted", "sum", "max", "min", "abs", "all", "any", "int", "repr", "range", "isinstance", "dict", "zip", "enumerate", "reversed", "str", "set", "bool"]
section
variable {P : Program} {w : World} {K : PySem.W.Frag} {mg : Str → Option Value} {base : Heap}
/-- the defs stand where the names say -/
def Laid (K : PySem.W.Frag) (mg : Str → Option Value) (rows : List Row) : Prop := ∀ r ∈ rows, ∃ a fd, Fun K r.nm r.nm r.st a fd ∧ mg r.nm = some (.ref a) ∧ Binds K fd r.ps []
/-- every def up to depth k -/
def Kept (P : Program) (w : World) (K : PySem.W.Frag) (mg : Str → Option Value) (base : Heap) (rows : List Row) (k : Nat) : Prop :=
  ∀ (f : Nat) (r : Row), rows[f]? = some r → ∃ a fd, Fun K r.nm r.nm r.st a fd ∧ mg r.nm = some (.ref a) ∧ Binds K fd r.ps [] ∧ FnG P w K mg base k a fd r.ps (spC (callF (progOf rows) k) f)
theorem good_of {rows : List Row} {k : Nat} {N : List Str} {qual : Str} {scope : Scope} {f : Addr} {cdv : Value} {A : Around} {outer : List PySem.Env} {s : Shared} {H : Hp} {E : XK} (nd : N.Nodup) (hr : Room k (A.deeper (envOfC qual scope s.heap.objs.size f cdv))) (hg : A.guards = some []) (sm : ∃ o, base.get? sysModules = some o)
    (hb : ∀ x ∈ bltNames, mg x = none) (hk : Kept P w K mg base rows k) : Good (tabOf rows) (callF (progOf rows) k) (cxOf CX0 P w K mg base N qual scope f cdv A outer s H E).nox := by
  have get : ∀ (f : Nat) (nm : Str) (np : Nat), (tabOf rows)[f]? = some (nm, np) → ∃ r, rows[f]? = some r ∧ r.nm = nm ∧ r.fn.np = np := fun f nm np h => by
    unfold tabOf at h
    rw [List.getElem?_map] at h
    obtain ⟨r, h1, h2⟩ := Option.map_eq_some_iff.mp h
    cases h2
    exact ⟨r, h1, rfl, rfl⟩
  refine ⟨nd, rfl, ?_, hg, sm, hb, fun f nm np h bs Q c => ?_, fun f nm np h => ?_⟩
  · exact hr.units
  · obtain ⟨r, h1, h2, h3⟩ := get f nm np h
    rw [← h3]
    exact callF_ar (by unfold progOf; rw [List.getElem?_map, h1]; rfl) c
  · obtain ⟨r, h1, h2, h3⟩ := get f nm np h
    obtain ⟨a, fd, F, hm, hbi, g⟩ := hk f r h1
    exact ⟨k, a, fd, r.ps, hr, by rw [← h2]; exact hm, F.kp, hbi, g⟩
/-- a def that is told by a text -/
theorem row_code {rows : List Row} {f k : Nat} {r : Row} {np ns : Nat} {body : Ss} (hf : rows[f]? = some r) (he : r.fn = .code np ns body) (hc : chkRow (tabOf rows) r = true) {a : Addr} {fd : FuncData} (F : Fun K r.nm r.nm r.st a fd) (sm : ∃ o, base.get? sysModules = some o)
    (hb : ∀ x ∈ bltNames, mg x = none) (hk : Kept P w K mg base rows k) : FnG P w K mg base (k + 1) a fd r.ps (spC (callF (progOf rows) (k + 1)) f) := by
  unfold chkRow at hc
  rw [he] at hc
  simp only at hc
  obtain ⟨hc, c4⟩ := bnd hc
  obtain ⟨hc, c3⟩ := bnd hc
  obtain ⟨c1, c2⟩ := bnd hc
  have c1 := of_decide_eq_true c1
  have c2 := of_decide_eq_true c2
  have SC := fsB_ok c3
  have hps : r.ps = r.N.take np := by unfold Row.ps; rw [he]; rfl
  have hpl : r.ps.length = np := by rw [hps, List.length_take]; omega
  have hp : (progOf rows)[f]? = some (.code np ns body) := by unfold progOf; rw [List.getElem?_map, hf]; simp [he]
  have hlen : ∀ vs H Q E, spC (callF (progOf rows) (k + 1)) f vs H Q E → vs.length = r.ps.length := fun vs H Q E ⟨S, Z, bs, Q0, _, _, _, h4, h5, _⟩ => by
    have : bs.length = _ := callF_ar hp h5
    rw [h4.length, this, hpl]; rfl
  rw [← hps] at SC
  refine Fun.okG F SC hlen fun cdv A outer s H vs Q hr hg hsp => ?_
  obtain ⟨S, Z, bs, Q0, h1, h2, h3, h4, h5, h6⟩ := hsp
  have G := good_of (N := r.N) (qual := r.nm) (scope := defScope r.st) (f := a) (cdv := cdv) (A := A) (outer := outer) (s := s) (H := H) (E := E0) (P := P) (w := w) SC.nd hr hg sm hb hk
  have M : Stm (cxOf CX0 P w K mg base r.N r.nm (defScope r.st) a cdv A outer s H E0).nox := ⟨SC.kind, fun _ => rfl, PassesOwn.never⟩
  refine ⟨_, okSs G M body (defBody r.st) c4, ?_⟩
  unfold callF at h5
  simp only [hp] at h5
  obtain ⟨_, _, h5⟩ := h5
  obtain ⟨R, no⟩ := rel_start (N := r.N) h1 h2 h3 h4
  rw [c1] at h5
  have ch : ∀ {H' : Hp}, Ext (Ch S (startN r.N.length bs) (L2.start r.N vs)) H H' → Ext S.dom H H' := fun e => e.mono fun b z => z.elim id fun z => absurd z (no b)
  refine ⟨S, Z, _, _, R, h5, fun ρ' σ' H' k' R' st => ?_, fun d v H' k' e i rp => ?_, fun _ _ _ z => z.elim, fun _ _ _ z => z.elim⟩
  · exact h6 .none k' .non H' (ch st.ext) st.inv .non
  · exact h6 d k' v H' (ch e) i rp
theorem all_kept {rows : List Row} (hl : Laid K mg rows) (hc : rows.all (chkRow (tabOf rows)) = true) (sm : ∃ o, base.get? sysModules = some o) (hb : ∀ x ∈ bltNames, mg x = none)
    (hx : ∀ (f k : Nat) (r : Row) (np : Nat) (sem : List B → W D), rows[f]? = some r → r.fn = .ext np sem → Kept P w K mg base rows k → ∀ a fd, Fun K r.nm r.nm r.st a fd → mg r.nm = some (.ref a) → FnG P w K mg base (k + 1) a fd r.ps (spC (callF (progOf rows) (k + 1)) f)) : ∀ k, Kept P w K mg base rows k
  | 0 => fun f r hf => by
    obtain ⟨a, fd, F, hm, hbi⟩ := hl r (List.mem_of_getElem? hf)
    exact ⟨a, fd, F, hm, hbi, ⟨fun vs H Q E ⟨_, _, _, _, _, _, _, _, z, _⟩ => z.elim, fun A outer s H args us vs Q _ _ _ _ _ ⟨_, _, _, _, _, _, _, _, z, _⟩ => z.elim⟩⟩
  | k + 1 => fun f r hf => by
    have ih := all_kept hl hc sm hb hx k
    obtain ⟨a, fd, F, hm, hbi⟩ := hl r (List.mem_of_getElem? hf)
    refine ⟨a, fd, F, hm, hbi, ?_⟩
    cases he : r.fn with
    | code np ns body => exact row_code hf he (List.all_eq_true.mp hc r (List.mem_of_getElem? hf)) F sm hb ih
    | ext np sem => exact hx f k r np sem hf he ih a fd F hm
end
end PD
set_option maxHeartbeats 2000000
/-! PDv: the law's call, where no guard stands. -/
namespace PD
open PySem L2 PySem.Spec PyProof.Rows
section
variable {P : Program} {w : World} {K : PySem.W.Frag} {mg mb : Str → Option Value} {k : Nat} {fa a : Addr} {fd : FuncData} {x : Str} {sp : Sp} {s1 : Shared} {vs : List Value} {ns : List Int}
/-- what the heap behind the top must have -/
structure TopH (K : PySem.W.Frag) (mg : Str → Option Value) (h : Heap) : Prop where
  kin : K.In h
  ns : h.Ns mainGlobals mg
  blt : ∃ mb, h.Ns builtinsNs mb ∧ ∀ x : Str, x ≠ "__name__" → mb x = bootBuiltins x
  lim : h.NoLimit
  sys : ∃ mm, h.Ns sysModules mm
/-- the same heap without the one tracked list -/
theorem TopH.hid {h : Heap} {H : Hp} {o : Obj} (T : TopH K mg h) (hA : ∀ b, H b ≠ none → b = a) (ha : h.get? a = some o) (hd : ∀ es ep, o.data ≠ .dict es ep) (hK : H a ≠ none → K.lookup a = none) : TopH K mg (hidT h H) := by
  have un : ∀ b, b ≠ a → H b = none := fun b hb => Classical.byContradiction fun z => hb (hA b z)
  have nsd : ∀ {b : Addr} {m : Str → Option Value}, h.Ns b m → (hidT h H).Ns b m := by
    intro b m hn
    obtain ⟨ob, es, ep, h1, h2, h3⟩ := hn
    have hb : b ≠ a := fun z => by
      rw [z, ha] at h1
      exact hd es ep (Option.some.inj h1 ▸ h2)
    exact ⟨ob, es, ep, hidT_get h1 (un b hb), h2, h3⟩
  constructor
  · intro b ob hb
    refine hidT_get (T.kin b ob hb) (Classical.byContradiction fun z => ?_)
    have hba := hA b z
    rw [hba] at hb z
    rw [hK z] at hb
    cases hb
  · exact nsd T.ns
  · exact T.blt.imp fun m q => ⟨nsd q.1, q.2⟩
  · exact T.lim.imp fun m q => ⟨nsd q.1, q.2⟩
  · exact T.sys.imp fun m q => nsd q
theorem TopH.mod {h : Heap} (T : TopH K mg h) : Mod K mg h where
  kin := T.kin
  glob := T.ns
  blt := T.blt
  nolimit := T.lim
theorem TopH.smod {h : Heap} (T : TopH K mg h) : ∃ o, h.get? sysModules = some o := by
  obtain ⟨mm, o, _, _, e, _⟩ := T.sys
  exact ⟨o, e⟩
/-- one tracking of the script -/
structure Trk (P : Program) (w : World) (K : PySem.W.Frag) (h : Heap) (a : Addr) (ns : List Int) (H : Hp) : Prop where
  only : ∀ b, H b = none ∨ ∃ o xs, H b = some (.frz o (.lst xs))
  seq : SqL K H a (ns.map V.int)
  ok : HOk P w H h
  one : ∀ b, H b ≠ none → b = a
  offK : H a ≠ none → K.lookup a = none
theorem trk_ex {h : Heap} (T : TopH K mg h) (ha : h.get? a = some { cls := .type "list", data := .seq vs.toArray }) (hi : IntsAre vs ns) (hl : ns.length ≤ sizeLine) : ∃ H, Trk P w K h a ns H := by
  have rv := vals_ints hi
  have lv := hi.length
  cases hk : K.lookup a with
  | some o =>
    have e : o = _ := Option.some.inj ((T.kin a o hk).symm.trans ha)
    subst e
    refine ⟨fun _ => none, fun _ => .inl rfl, .inr ?_, fun b o z => (by cases z), fun _ z => (z rfl).elim, fun z => (z rfl).elim⟩
    refine ⟨_, vs.toArray, 0, hk, rfl, rfl, rfl, ?_, ?_⟩
    · rw [List.size_toArray, lv]; exact hl
    · rwa [List.toList_toArray]
  | none =>
    let H : Hp := upd (fun _ => none) a (.frz { cls := .type "list", data := .seq vs.toArray } (.lst (ns.map V.int)))
    have hs : H a = some (.frz { cls := .type "list", data := .seq vs.toArray } (.lst (ns.map V.int))) := upd_same
    have ho : ∀ b, b ≠ a → H b = none := fun b hb => upd_ne hb
    have hone : ∀ b, H b ≠ none → b = a := fun b z => Classical.byContradiction fun hb => z (ho b hb)
    refine ⟨H, fun b => ?_, .inl (.inr ⟨_, hs⟩), fun b o z => ?_, hone, fun _ => hk⟩
    · by_cases hb : b = a
      · rw [hb]; exact .inr ⟨_, _, hs⟩
      · exact .inl (ho b hb)
    · have hb := hone b (by rw [z]; exact Option.some_ne_none o)
      rw [hb, hs] at z
      rw [hb, ← Option.some.inj z]
      exact ⟨ha, by rw [List.length_map]; exact hl, vs, 0, rv, ha⟩
/-- the law's def, called with the script -/
theorem callG (T : TopH K mg s1.heap) (hg : s1.gens = #[]) (ha : s1.heap.get? a = some { cls := .type "list", data := .seq vs.toArray }) (hi : IntsAre vs ns) (hl : ns.length ≤ sizeLine) (hr : Room k callerA)
    (F : ∀ base : Heap, TopH K mg base → FnG P w K mg base k fa fd [x] sp) (hbind : ∀ (s : Shared) (u : Value), BindsTo s fd ⟨[u], []⟩ [(x, u)])
    (hsp : ∀ H : Hp, Only H → SqL K H a (ns.map V.int) → sp [.ref a] H (fun v _ => v = .bl true) E0) :
    codeAny (model P w) callerA (.call (.ref fa) ⟨[.ref a], []⟩) (fun r s' => r = .ok (.ret (.bool true)) ∧ OldK s1.heap s'.heap ∧ s'.os = s1.os ∧ AllBare s'.gens) s1 := by
  obtain ⟨H, R⟩ := trk_ex (P := P) (w := w) T ha hi hl
  have TB : TopH K mg (hidT s1.heap H) := T.hid R.one ha (fun es ep z => Data.noConfusion z) R.offK
  have env : Env0 P w K mg (hidT s1.heap H) callerA [] s1 H :=
    { frames := rfl, mod := TB.mod, bs := fun b o q => of_hidT q, bsz := Nat.le_of_eq (hidT_size s1.heap H), funs := trivial, frf := fun b z => (List.not_mem_nil z).elim, hok := R.ok, bare := .of_eq hg }
  have run := (F _ TB).run callerA [] s1 H ⟨[.ref a], []⟩ [.ref a] [.ref a] _ hr rfl env (hbind s1 (.ref a)) (.cons rfl .nil) (hsp H R.only R.seq)
  refine codeAny_mono run fun res s' h => ?_
  match res, h with
  | .ok (.ret u), h =>
    obtain ⟨v, H', h1, h2, hu, hok', hv, hq⟩ := h
    have hv : RelV (.bl true) u := (show v = .bl true from hq) ▸ hv
    refine ⟨by rw [show u = Value.bool true from hv], OldK.of_keep fun b o hb => ?_, h1, h2⟩
    rcases R.only b with z | ⟨o', xs, z⟩
    · exact hu.keep b o hb z (fun q => (List.not_mem_nil q).elim) List.not_mem_nil
    · have e1 := (R.ok b _ z).1
      have e2 := (hok' b _ (hu.frzs b o' _ z)).1
      rw [hb] at e1
      rw [e2, ← e1]
  | .ok .next, h => exact h.elim
  | .ok .brk, h => exact h.elim
  | .ok .cont, h => exact h.elim
  | .error e, h => exact h.elim
end
end PD
set_option maxHeartbeats 2000000
/-! PDw: the source of draws. -/
namespace PD
open PySem L2 PySem.Spec PyProof.Rows
def mkSrc (c l : Addr) (hne : c ≠ l) : Src where
  v := .ref c
  dom := fun a => a = c ∨ a = l
  inv := SrcI c l
  fit := fun H h => ⟨fun a z => by
    obtain ⟨xs, x, y, t, g⟩ := h
    rcases z with z | z
    · rw [z]; exact ⟨_, g.d, trivial⟩
    · rw [z]; exact ⟨_, g.l, trivial⟩⟩
  stab := fun H H' h e => by
    obtain ⟨xs, x, y, t, g⟩ := h
    exact ⟨xs, x, y, t, by rw [e c (.inl rfl)]; exact g.d, by rw [e l (.inr rfl)]; exact g.l⟩
  shape := ⟨c, l, hne, rfl, fun _ => Iff.rfl, fun _ => Iff.rfl⟩
section
variable {c l : Addr} {xs : List Int} {left mixed turn v : Int} {H : Hp} {σ : L2.St} {Q : VK}
abbrev kCells : Key := .inr "cells"
abbrev kLeft : Key := .inr "left"
abbrev kMixed : Key := .inr "mixed"
abbrev kTurn : Key := .inr "turn"
theorem get_cells : valV (srcKV l left mixed turn) kCells = some (.ref l) := rfl
theorem get_left : valV (srcKV l left mixed turn) kLeft = some (.int left) := rfl
theorem get_mixed : valV (srcKV l left mixed turn) kMixed = some (.int mixed) := rfl
theorem get_turn : valV (srcKV l left mixed turn) kTurn = some (.int turn) := rfl
theorem put_left : putK (srcKV l left mixed turn) kLeft (.int v) = srcKV l v mixed turn := rfl
theorem put_mixed : putK (srcKV l left mixed turn) kMixed (.int v) = srcKV l left v turn := rfl
theorem put_turn : putK (srcKV l left mixed turn) kTurn (.int v) = srcKV l left mixed v := rfl
theorem SrcH.gc (h : SrcH c l xs left mixed turn H) : DGet H c (.str "cells") (some (.ref l)) := DGet.k (k := kCells) h.d
theorem SrcH.gl (h : SrcH c l xs left mixed turn H) : DGet H c (.str "left") (some (.int left)) := DGet.k (k := kLeft) h.d
theorem SrcH.gm (h : SrcH c l xs left mixed turn H) : DGet H c (.str "mixed") (some (.int mixed)) := DGet.k (k := kMixed) h.d
theorem SrcH.gt (h : SrcH c l xs left mixed turn H) : DGet H c (.str "turn") (some (.int turn)) := DGet.k (k := kTurn) h.d
theorem four_lt : (srcKV l left mixed turn).length < sizeLine := by show 4 < sizeLine; decide
theorem SrcH.pl (h : SrcH c l xs left mixed turn H) : DPut H c (.str "left") (.int v) (upd H c (.dK (srcKV l v mixed turn))) := by rw [← put_left]; exact DPut.k (k := kLeft) h.d four_lt
theorem SrcH.pm (h : SrcH c l xs left mixed turn H) : DPut H c (.str "mixed") (.int v) (upd H c (.dK (srcKV l left v turn))) := by rw [← put_mixed]; exact DPut.k (k := kMixed) h.d four_lt
theorem SrcH.pt (h : SrcH c l xs left mixed turn H) : DPut H c (.str "turn") (.int v) (upd H c (.dK (srcKV l left mixed v))) := by rw [← put_turn]; exact DPut.k (k := kTurn) h.d four_lt
theorem SrcH.new (h : SrcH c l xs left mixed turn H) (hne : c ≠ l) {a b t : Int} : SrcH c l xs a b t (upd H c (.dK (srcKV l a b t))) := ⟨upd_same, by rw [upd_ne (Ne.symm hne)]; exact h.l⟩
theorem SrcH.pop (h : SrcH c l xs left mixed turn H) (hne : c ≠ l) {ys : List Int} : SrcH c l ys left mixed turn (upd H l (.lst (ys.map V.int))) := ⟨by rw [upd_ne hne]; exact h.d, upd_same⟩
end
/-- a state of a draw: the source stands, all else is as it was -/
def Drw (c l : Addr) (H0 H : Hp) : Prop := SrcI c l H ∧ ∀ b, b ≠ c → b ≠ l → H b = H0 b
def spPick : Sp := fun vs H Q _ => ∃ c l m, c ≠ l ∧ vs = [.ref c, .int m] ∧ m < 1073741824 ∧ SrcI c l H ∧ ∀ j, 0 ≤ j → j < max 1 m → ∀ H', Drw c l H H' → Q (.int j) H'
/-- what a draw gives, by data -/
def semPick : List B → W D := fun bs Q => ∃ m, bs = [.src, .sh (.int m)] ∧ m < 1073741824 ∧ ∀ j, 0 ≤ j → j < max 1 m → Q (.int j)
theorem Drw.ext {S : Src} {c l : Addr} {H H' : Hp} (hd : ∀ a, S.dom a ↔ a = c ∨ a = l) (h : Drw c l H H') : Ext S.dom H H' := fun a o ha n => by
  rw [hd] at n
  rw [h.2 a (fun z => n (.inl z)) (fun z => n (.inr z))]; exact ha
theorem pick_of {C : Calls} {f : Nat} (hC : ∀ bs Q, C f bs Q → semPick bs Q) : ∀ vs H Q, spC C f vs H Q E0 → spPick vs H Q E0 := by
  intro vs H Q ⟨S, P, bs, Q0, h1, h2, h3, h4, h5, h6⟩
  obtain ⟨m, rfl, hm, hq⟩ := hC _ _ h5
  obtain ⟨c, l, hne, hv, hd, hi⟩ := S.shape
  cases h4 with
  | src t => cases t with
    | sh r t => cases t with
      | nil =>
        cases (RpB.of r).int_of
        refine ⟨c, l, m, hne, by rw [hv], hm, (hi H).mp h3, fun j j1 j2 H' d => h6 _ (hq j j1 j2) _ _ (d.ext hd) ((hi H').mpr d.1) (.int j)⟩
theorem tt_use {t : TT} {σ : L2.St} {H : Hp} {Qf : Bool → Hp → Prop} (Cc : Bool → Prop) (test : ∀ Qf : Bool → Hp → Prop, (∀ b, Cc b → Qf b H) → t σ H Qf) (cont : ∀ b, Cc b → Qf b H) : t σ H Qf := test _ cont
def absI (i : Int) : Int := if i < 0 then -i else i
def rAbsI : List V → Hp → VK → Prop := fun xs H Q => ∃ i, xs = [.int i] ∧ Q (.int (if i < 0 then -i else i)) H
/-- [abs(x) for x in ints] -/
theorem abs_lc {K : PySem.W.Frag} {i j : Nat} {a : Addr} {ns : List Int} {σ : L2.St} {H : Hp} {Q : VK} (hij : i ≠ j) (hi : σ[i]? = some (some (.ref a))) (hj : j < σ.length) (hS : SqL K H a (ns.map V.int)) (hl : ns.length ≤ 63)
    (q : ∀ d, H d = none → Q (.ref d) (upd H d (.lst ((ns.map absI).map V.int)))) :
    tLc (iList K (tVar i)) (gName j) (fun _ H Q => Q true H) (tCB rAbsI (tCons (tVar j) tNil)) [j] σ H Q := by
  refine ⟨.ref a, hi, a, rfl, ⟨_, hS⟩, fun d hd => ⟨fun n m H' => n ≤ ns.length ∧ m = ns.length - n ∧ H' = upd H d (.lst (((ns.take n).map absI).map V.int)), ⟨ns.length, Nat.zero_le _, rfl, rfl⟩, ?_⟩⟩
  rintro n m H' ⟨hn, rfl, rfl⟩
  have sm : Same H (upd H d (.lst (((ns.take n).map absI).map V.int))) := fun b o e => by rw [upd_ne (ne_of_none e hd)]; exact e
  have hS' := sm.seq hS
  by_cases h : n < ns.length
  · right
    have g : (ns.map V.int)[n]? = some (.int ns[n]) := by rw [List.getElem?_map, List.getElem?_eq_getElem h]; rfl
    refine ⟨⟨_, _, hS', g⟩, fun H' => H' = upd H d (.lst (((ns.take (n + 1)).map absI).map V.int)), fun H' e => ⟨ns.length - (n + 1), by omega, h, rfl, e⟩, ?_⟩
    rintro x H' ⟨rfl, hx⟩
    have ex : x = .int ns[n] := Option.some.inj ((hx _ hS').symm.trans g)
    subst ex
    refine ⟨by show L2.wipe ((L2.wipe σ [j]).set j _) [j] = _; simp [L2.wipe], ?_⟩
    show if true = true then _ else _
    rw [if_pos rfl]
    refine ⟨.int ns[n], ?_, ns[n], rfl, _, upd_same, ?_, ?_⟩
    · rw [List.getElem?_set_self (by rw [wipe_length]; exact hj)]
    · simp only [List.length_map, List.length_take]
      have := z64
      omega
    · rw [upd_upd, List.take_add_one, List.getElem?_eq_getElem h, List.map_append, List.map_append]
      rfl
  · left
    have e : n = ns.length := by omega
    subst e
    refine ⟨⟨_, hS', by simp⟩, ?_⟩
    rw [List.take_length]
    exact q d hd
theorem Same.upd {H : Hp} {d : Addr} {o : HO} (h : H d = none) : Same H (L2.upd H d o) := fun b u e => by rw [upd_ne (ne_of_none e h)]; exact e
/-- what makes a source -/
def spSource (K : PySem.W.Frag) : Sp := fun vs H Q _ => ∃ (a : Addr) (ns : List Int), vs = [.ref a] ∧ ns.length ≤ 63 ∧ SqL K H a (ns.map V.int) ∧ ∀ c l H', c ≠ l → H c = none → H l = none → Same H H' → SrcI c l H' → Q (.ref c) H'
/-- the display {'cells': [abs(x) for x in script][::-1], 'left': 1, 'mixed': x, 'turn': 0} -/
theorem disp_ok {K : PySem.W.Frag} {a : Addr} {ns : List Int} {σ : L2.St} {H : Hp} {Q : VK} {x : Int} {j i : Nat} (hj0 : 0 ≠ j) (hi : σ[0]? = some (some (.ref a))) (hj : j < σ.length) (hx : σ[i]? = some (some (.int x))) (hS : SqL K H a (ns.map V.int)) (hl : ns.length ≤ 63)
    (q : ∀ c l H', c ≠ l → H c = none → H l = none → Same H H' → SrcI c l H' → Q (.ref c) H') :
    tDisp [(tC (.str "cells"), tRevL K (tLc (iList K (tVar 0)) (gName j) (fun _ H Q => Q true H) (tCB rAbsI (tCons (tVar j) tNil)) [j])), (tC (.str "left"), tC (.int 1)), (tC (.str "mixed"), tVar i), (tC (.str "turn"), tC (.int 0))] σ H Q := by
  intro p hp
  dsimp only [tPairs, tRevL, tC]
  refine abs_lc hj0 hi hj ((Same.upd hp).seq hS) hl fun d hd => ?_
  refine ⟨d, _, rfl, SqL.of upd_same, fun p2 hp2 => ?_⟩
  have hpd : p ≠ d := fun e => by rw [← e, upd_same] at hd; cases hd
  have hp2d : p2 ≠ d := fun e => by rw [e, upd_same] at hp2; cases hp2
  have hpp2 : p ≠ p2 := fun e => by
    rw [← e, upd_ne hpd, upd_same] at hp2; cases hp2
  refine ⟨.int x, hx, ?_, srcKV p2 1 x 0, rfl, by show 4 ≤ 15; decide, ?_⟩
  · rw [upd_ne hpp2, upd_ne hpd, upd_same]
  · refine q p p2 _ hpp2 hp ?_ (fun b o e => ?_) ⟨(ns.map absI).reverse, 1, x, 0, upd_same, ?_⟩
    · rw [upd_ne hp2d, upd_ne (Ne.symm hpp2)] at hp2; exact hp2
    · have h1 : b ≠ p := ne_of_none e hp
      have h2 : (upd H p (.dK [])) b = some o := by rw [upd_ne h1]; exact e
      have h3 := ne_of_none h2 hd
      have h4 : (upd (upd H p (.dK [])) d (.lst ((ns.map absI).map V.int))) b = some o := by rw [upd_ne h3]; exact h2
      have h5 := ne_of_none h4 hp2
      rw [upd_ne h1, upd_ne h5]; exact h4
    · rw [upd_ne (Ne.symm hpp2), upd_same, List.map_reverse]
/-! lists in a drawn sequence -/
def spMixed : Sp := fun vs H Q _ => ∃ (c l a : Addr) (xs : List V), c ≠ l ∧ a ≠ c ∧ a ≠ l ∧ vs = [.ref c, .ref a] ∧ SrcI c l H ∧ H a = some (.lst xs) ∧ xs.length ≤ 1000 ∧
  ∀ ys d H', ys.Perm xs → H d = none → H' d = some (.lst ys) → SrcI c l H' → (∀ b o, b ≠ c → b ≠ l → H b = some o → H' b = some o) → Q (.ref d) H'
def semMixed : List B → W D := fun bs Q => ∃ ds, bs = [.src, .sh (.list ds)] ∧ ds.length ≤ 1000 ∧ ∀ es : List D, es.Perm ds → Q (.list es)
theorem perm_rp {N : Zn} {H : Hp} {xs ys : List V} (p : ys.Perm xs) : ∀ {ds : List D}, RpAll N H xs ds → ∃ es : List D, es.Perm ds ∧ RpAll N H ys es := by
  induction p with
  | nil => intro ds r; exact ⟨ds, .refl _, r⟩
  | cons x p ih =>
    intro ds r
    cases r with
    | cons r1 rs =>
      obtain ⟨es, pe, re⟩ := ih rs
      exact ⟨_ :: es, .cons _ pe, .cons r1 re⟩
  | swap x y l =>
    intro ds r
    cases r with
    | cons r1 rs => cases rs with
      | cons r2 rs => exact ⟨_, .swap _ _ _, .cons r2 (.cons r1 rs)⟩
  | trans p1 p2 ih1 ih2 =>
    intro ds r
    obtain ⟨es, pe, re⟩ := ih2 r
    obtain ⟨fs, pf, rf⟩ := ih1 re
    exact ⟨fs, pf.trans pe, rf⟩
theorem mixed_of {C : Calls} {f : Nat} (hC : ∀ bs Q, C f bs Q → semMixed bs Q) : ∀ vs H Q, spC C f vs H Q E0 → spMixed vs H Q E0 := by
  intro vs H Q ⟨S, P, bs, Q0, h1, h2, h3, h4, h5, h6⟩
  obtain ⟨ds, rfl, hm, hq⟩ := hC _ _ h5
  obtain ⟨c, l, hne, hv, hd, hi⟩ := S.shape
  cases h4 with
  | src t => cases t with
    | sh r t => cases t with
      | nil =>
        cases r with
        | @lst a xs _ na ha rr =>
          have nd : ¬ S.dom a := fun z => na (h1 a z)
          rw [hd] at nd
          refine ⟨c, l, a, xs, hne, fun z => nd (.inl z), fun z => nd (.inr z), by rw [hv], (hi H).mp h3, ha, by rw [rr.length]; exact hm, fun ys d H' hp hnd hd' hs hx => ?_⟩
          obtain ⟨es, pe, re⟩ := perm_rp hp rr
          have ex : Ext S.dom H H' := fun b o hb n => hx b o (fun z => n ((hd b).mpr (.inl z))) (fun z => n ((hd b).mpr (.inr z))) hb
          exact h6 _ (hq es pe) _ _ ex ((hi H').mpr hs) (.lst (h2.ne hnd) hd' (re.ext (ex.mono h1) h2))
theorem erase_perm {α : Type} : ∀ {l : List α} {k : Nat} (h : k < l.length), (l[k] :: l.eraseIdx k).Perm l
  | a :: l, 0, _ => .refl _
  | a :: l, k + 1, h => (List.Perm.swap _ _ _).trans (.cons a (erase_perm (by simpa using h)))
end PD
set_option maxHeartbeats 2000000
/-! PDz: the law's def; the end. -/
namespace PD
open PySem L2 PySem.Spec PyProof.Rows
/-- the slots behind the law's first line -/
def rho0 (N : List Str) (i : Nat) : Nv := (List.replicate N.length none).set i (some .src)
theorem rho0_get {N : List Str} {i j : Nat} {b : B} (h : (rho0 N i)[j]? = some (some b)) : i = j ∧ b = .src := by
  unfold rho0 at h
  by_cases hj : i = j
  · subst hj
    by_cases hl : i < N.length
    · rw [List.getElem?_set_self (by simpa using hl)] at h
      cases h; exact ⟨rfl, rfl⟩
    · rw [List.getElem?_eq_none (by simpa using hl)] at h; cases h
  · rw [List.getElem?_set_ne hj] at h
    have := List.mem_of_getElem? h
    simp at this
def spLaw (K : PySem.W.Frag) : Sp := fun vs H Q _ => ∃ (a : Addr) (ns : List Int), vs = [.ref a] ∧ ns.length ≤ 63 ∧ SqL K H a (ns.map V.int) ∧ ∀ H', Q (.bl true) H'
section
variable {P : Program} {w : World} {K : PySem.W.Frag} {mg : Str → Option Value} {base : Heap}
theorem rel0 {c l a : Addr} (hne : c ≠ l) {N : List Str} {i : Nat} {H : Hp} (hN : 1 ≤ N.length) (hi : i < N.length) (h : SrcI c l H) : Rel (mkSrc c l hne) (mkSrc c l hne).dom (rho0 N i) ((L2.start N [.ref a]).set i (some (.ref c))) H := by
  refine ⟨?_, fun _ z => z, (mkSrc c l hne).fit H h, h, fun j d q => ?_, fun j d q => ?_, fun j k d e b q => ?_, fun j q => ?_⟩
  · unfold rho0 L2.start; simp; omega
  · have := (rho0_get q).2; cases this
  · have := (rho0_get q).2; cases this
  · have := (rho0_get q).2; cases this
  · obtain ⟨e, _⟩ := rho0_get q
    rw [← e, List.getElem?_set_self (by unfold L2.start; simp; omega)]; rfl
theorem law_fn {rows : List Row} {st sSt : PySem.Stmt} {N : List Str} {body : Ss} {x sn : Str} {p1 p2 p3 p4 p5 : Pos} {rest : List PySem.Stmt} {i k : Nat} {fa fS : Addr} {fd fdS : FuncData} (F : Fun K "law" "law" st fa fd) (sc : fsB N ["script"] (defScope st) = true)
    (hb : defBody st = .Assign [.Name x p1] (.Call (.Name sn p2) [.Name "script" p3] [] p4) p5 :: rest) (hc : chkSs N (tabOf rows) (defScope st) body rest = true) (hN : N[0]? = some ("script" : Str)) (hi : N[i]? = some x) (hx : locB (defScope st) x = true) (hv : visB (defScope st) ("script" : Str) = true) (hg : glB (defScope st) sn = true)
    (hsd : (sn == ("__debug__" : Str)) = false) (FS : Fun K sn sn sSt fS fdS) (bS : Binds K fdS ["script"] []) (gS : mg sn = some (.ref fS)) (GS : FnOk P w K mg base CX0 (k + 1) fS fdS ["script"] (spSource K))
    (sm : ∃ o, base.get? sysModules = some o) (hbl : ∀ y ∈ bltNames, mg y = none) (hk : Kept P w K mg base rows (k + 1)) (law : execs (callF (progOf rows) (k + 1)) body (rho0 N i) (koF (fun d => d = .bool true))) :
    FnG P w K mg base (k + 2) fa fd ["script"] (spLaw K) := by
  have SC := fsB_ok sc
  have hNl : 1 ≤ N.length := by
    cases N with
    | nil => simp at hN
    | cons _ _ => simp
  have hil : i < N.length := by
    rcases Nat.lt_or_ge i N.length with q | q
    · exact q
    · rw [List.getElem?_eq_none q] at hi; cases hi
  refine Fun.okG F SC (fun vs H Q E ⟨a, ns, e, _⟩ => by rw [e]; rfl) fun cdv A outer s H vs Q hr hg0 hsp => ?_
  obtain ⟨a, ns, rfl, hl, hS, q⟩ := hsp
  have G := good_of (N := N) (qual := "law") (scope := defScope st) (f := fa) (cdv := cdv) (A := A) (outer := outer) (s := s) (H := H) (E := E0) (P := P) (w := w) SC.nd hr hg0 sm hbl hk
  have M : Stm (cxOf CX0 P w K mg base N "law" (defScope st) fa cdv A outer s H E0).nox := ⟨SC.kind, fun _ => rfl, PassesOwn.never⟩
  rw [hb]
  have vis : Vis (defScope st) ("script" : Str) := by
    unfold visB at hv; unfold Vis
    split at hv <;> first | exact .inl (by assumption) | exact .inr (.inl (by assumption)) | exact .inr (.inr (by assumption)) | cases hv
  refine ⟨_, pss_cons (ps_set (i := i) SC.nd hi (loc_of hx) (pe_callG (FnG.of GS) hr hg0 (gl_of hg) gS FS.kp bS (pa_cons (pv 0 hN vis) pa_nil) hsd rfl rfl) rfl (.inl rfl)) (okSs G M body rest hc), ?_⟩
  refine ⟨.ref a, rfl, a, ns, rfl, hl, hS, fun c l H' hne hcn hln sm' src => ?_⟩
  refine ⟨mkSrc c l hne, (mkSrc c l hne).dom, rho0 N i, koF (fun d => d = .bool true), rel0 hne hNl hil src, law, ⟨?_, ?_, fun _ _ _ z => z.elim, fun _ _ _ z => z.elim⟩⟩
  · intro _ _ _ z
    cases (show PyData.none = PyData.bool true from z)
  · intro d v H2 z _ _ rp
    have z : d = .bool true := z
    subst z
    cases (RpB.of rp).bl_of
    exact q H2
end
/-- the law's walk -/
theorem walkG {l : PySem.W.OpenLaw} {n k : Nat} {q : Program} {loose : List Str} {XP : (Str → Option Value) → Heap → Prop} {YP : World → Heap → Prop} {d : DefRec} {K : Params → PySem.W.Frag} {x : Str}
    (hn : l.most = some n) (h63 : n ≤ 63) (hdf : d.params.defaults = []) (hr : Room k callerA) (himp : importsNone q = true) (hY : ∀ (w : World) (h : Heap), YP w h → (K w.params).In h)
    (F : ∀ (w : World) (mg : Str → Option Value) (fa : Addr) (h : Heap), (K w.params).In h → h.Ns mainGlobals mg → mg d.name = some (.ref fa) →
      ∃ fd : FuncData, (∀ (s : Shared) (u : Value), BindsTo s fd ⟨[u], []⟩ [(x, u)]) ∧ ∀ base : Heap, TopH (K w.params) mg base → FnG l.prog w (K w.params) mg base k fa fd [x] (spLaw (K w.params))) :
    PySem.W.WalkO q loose XP YP l.row.toRowW d [] (fun f vs => PySem.call f vs) := by
  refine Att.attach_call hn hdf fun w s0 s1 mg mb fa o pm cd doc a vs ns G Y ho hd hcd hmg hobj hints hlen hg => ?_
  have T : TopH (K w.params) mg s1.heap := ⟨hY w _ Y, G.T.g, ⟨mb, G.T.b, G.T.builtins⟩, G.T.nolimit, let ⟨mm, h, _⟩ := (G.T.seer himp).mods; ⟨mm, h⟩⟩
  obtain ⟨fd, hb, hF⟩ := F w mg fa _ T.kin G.T.g hmg
  have z := z64
  exact callG T hg hobj hints (by omega) hr hF hb fun H _ hS => ⟨a, ns, rfl, by omega, hS, fun _ => rfl⟩
/-! what the top has written -/
def Lk (K : PySem.W.Frag) (nm : Str) (st : PySem.Stmt) : Prop := ∃ (f : Addr) (oc : Value) (od : Option Addr) (kV doc pm : Value) (an : Option Addr) (cd ct : Value) (sl : Array (Option Value)),
  PySem.W.nsIn K mainGlobals nm = some (some (.ref f)) ∧ K.lookup f = some ⟨oc, od, .func (PySem.W.fnOf nm nm (defArgs st) (defBody st) (defScope st) .none kV doc pm an cd ct), sl⟩ ∧ PySem.W.codeIn K cd nm = true ∧ PySem.W.keepIn K (.ref f) = true
theorem lk_mk {K : PySem.W.Frag} {h : Heap} (_ : K.In h) {nm : Str} {st : PySem.Stmt} {f : Addr} {oc kV doc pm cd ct : Value} {od an : Option Addr} {sl : Array (Option Value)} (a : PySem.W.nsIn K mainGlobals nm = some (some (.ref f)))
    (l : K.lookup f = some ⟨oc, od, .func (PySem.W.fnOf nm nm (defArgs st) (defBody st) (defScope st) .none kV doc pm an cd ct), sl⟩) (c : PySem.W.codeIn K cd nm = true) (k : PySem.W.keepIn K (.ref f) = true) : Lk K nm st := ⟨f, oc, od, kV, doc, pm, an, cd, ct, sl, a, l, c, k⟩
def BdOk (nm : Str) (st : PySem.Stmt) (ps : List Str) : Prop := ∀ (kV doc pm : Value) (an : Option Addr) (cdv ct : Value) (us : List Value), us.length = ps.length → bindArgs (PySem.W.fnOf nm nm (defArgs st) (defBody st) (defScope st) .none kV doc pm an cdv ct) ⟨us, []⟩ = pure (ps.zip us)
theorem Lk.fn {K : PySem.W.Frag} {h : Heap} {mg : Str → Option Value} {nm : Str} {st : PySem.Stmt} {ps : List Str} (L : Lk K nm st) (X : K.In h) (G : h.Ns mainGlobals mg) (b : BdOk nm st ps) : ∃ a fd, Fun K nm nm st a fd ∧ mg nm = some (.ref a) ∧ Binds K fd ps [] := by
  obtain ⟨f, oc, od, kV, doc, pm, an, cd, ct, sl, a, l, c, k⟩ := L
  have F := fun_mk l c k
  exact ⟨f, _, F, PySem.W.mg_of X G a, F.binds b⟩
def Rws (K : PySem.W.Frag) (rows : List Row) : Prop := ∀ r ∈ rows, Lk K r.nm r.st
theorem laid_of {K : PySem.W.Frag} {h : Heap} {mg : Str → Option Value} {rows : List Row} (X : K.In h) (G : h.Ns mainGlobals mg) (L : Rws K rows) (b : ∀ r ∈ rows, BdOk r.nm r.st r.ps) : Laid K mg rows := fun r hr => (L r hr).fn X G (b r hr)
end PD
set_option maxHeartbeats 4000000
/-! PLa: the plain side: how compact texts are run by hand. -/
namespace PD
open PySem
theorem lift_some {α : Type} {a : α} {Q : α → Prop} : lift (some a) Q = Q a := by
  simp [lift]
theorem lcW_map {st : D → W (Option D)} {f : D → Option D} : ∀ {ds : List D} {Q : List D → Prop}, (∀ d ∈ ds, ∀ K : Option D → Prop, K (f d) → st d K) → Q (ds.filterMap f) → lcW ds st Q
  | [], Q, _, q => q
  | d :: ds, Q, h, q => by
    unfold lcW
    refine h d (List.mem_cons_self ..) _ (lcW_map (fun e he => h e (List.mem_cons_of_mem _ he)) ?_)
    cases hf : f d with
    | none => rw [List.filterMap_cons_none hf] at q; exact q
    | some x => rw [List.filterMap_cons_some hf] at q; exact q
inductive All2 {α β : Type} (R : α → β → Prop) : List α → List β → Prop
  | nil : All2 R [] []
  | cons {a b as bs} : R a b → All2 R as bs → All2 R (a :: as) (b :: bs)
/-- one by one, told by a relation -/
theorem lcW_rel {st : D → W (Option D)} {R : D → Option D → Prop} : ∀ {ds : List D} {Q : List D → Prop}, (∀ d ∈ ds, ∀ K : Option D → Prop, (∀ o, R d o → K o) → st d K) → (∀ os : List (Option D), All2 R ds os → Q (os.filterMap id)) → lcW ds st Q
  | [], Q, _, q => q [] .nil
  | d :: ds, Q, h, q => by
    unfold lcW
    refine h d (List.mem_cons_self ..) _ fun o ho => lcW_rel (R := R) (fun e he => h e (List.mem_cons_of_mem _ he)) fun os hos => ?_
    have := q (o :: os) (.cons ho hos)
    cases o with
    | none => exact this
    | some x => exact this
theorem forW_inv {st : D → Nv → (Nv → Prop) → Prop} {ds : List D} {ρ : Nv} {Q : Nv → Prop} (I : Nat → Nv → Prop) (h0 : I 0 ρ) (hs : ∀ i (h : i < ds.length) ρ, I i ρ → ∀ K : Nv → Prop, (∀ ρ', I (i + 1) ρ' → K ρ') → st ds[i] ρ K) (hq : ∀ ρ, I ds.length ρ → Q ρ) : forW ds st ρ Q := by
  have key : ∀ (n i : Nat) (ρ : Nv), ds.length - i = n → i ≤ ds.length → I i ρ → forW (ds.drop i) st ρ Q := by
    intro n
    induction n with
    | zero =>
      intro i ρ e hi h
      have : i = ds.length := by omega
      subst this
      rw [List.drop_length]
      exact hq ρ h
    | succ n ih =>
      intro i ρ e hi h
      have hlt : i < ds.length := by omega
      rw [List.drop_eq_getElem_cons hlt]
      exact hs i hlt ρ h _ fun ρ' h' => ih (i + 1) ρ' (by omega) hlt h'
  exact key _ 0 ρ rfl (Nat.zero_le _) h0
end PD
set_option maxHeartbeats 4000000
/-! PLb: plain data: how deep, how long. -/
namespace PD
open PySem
mutual
inductive Pl : Nat → Nat → D → Prop
  | int {k m i} : i.natAbs < 10 ^ 20 → Pl k m (.int i)
  | bool {k m b} : Pl k m (.bool b)
  | none {k m} : Pl k m .none
  | lst {k m xs} : PlA k m xs → Pl (k + 1) m (.list xs)
  | tup {k m xs} : PlA k m xs → Pl (k + 1) m (.tuple xs)
inductive PlA : Nat → Nat → List D → Prop
  | nil {k m} : PlA k m []
  | cons {k a b x xs} : Pl k a x → PlA k b xs → PlA k (a + 1 + b) (x :: xs)
end
theorem PlA.all {k a : Nat} : ∀ {xs : List D}, (∀ x ∈ xs, Pl k a x) → PlA k ((a + 1) * xs.length) xs
  | [], _ => .nil
  | x :: xs, h => by
    have := PlA.cons (h x (List.mem_cons_self ..)) (PlA.all fun y hy => h y (List.mem_cons_of_mem _ hy))
    rw [show (a + 1) * (x :: xs).length = a + 1 + (a + 1) * xs.length by rw [List.length_cons, Nat.mul_succ]; omega]
    exact this
mutual
theorem Pl.facts : ∀ {k m : Nat} {d : D}, Pl k m d → d.canLay0 = true ∧ d.depth ≤ k ∧ d.showable = true ∧ d.leavesShort 24 = true ∧ d.bulk ≤ m
  | _, _, _, .int (i := i) h => by
    refine ⟨by simp only [PyData.canLay0], by simp [PyData.depth], ?_, ?_, by simp [PyData.bulk]⟩
    · have : i.natAbs.log2 < 1920 := by
        by_cases z : i.natAbs = 0
        · rw [z]; decide
        · have : i.natAbs.log2 < 67 := (Nat.log2_lt z).mpr (Nat.lt_trans h (by decide))
          omega
      simpa only [PyData.showable, decide_eq_true_eq] using this
    · have := int_text_length_le10 (a := i) (k := 20) (by decide) h
      have e : (Str.ofString (toString i)).length = (toString i).length := by
        rw [Str.ofString_eq_toList]
        simp [Str.length, String.length]
      have g : (PyData.int i).shown.length ≤ 24 := by
        simp only [PyData.shown]
        omega
      simp only [PyData.leavesShort]
      exact decide_eq_true g
  | _, _, _, .bool (b := b) => ⟨by simp only [PyData.canLay0], by simp [PyData.depth], by simp only [PyData.showable], by simp only [PyData.leavesShort], by simp [PyData.bulk]⟩
  | _, _, _, .none => ⟨by simp only [PyData.canLay0], by simp [PyData.depth], by simp only [PyData.showable], by simp only [PyData.leavesShort], by simp [PyData.bulk]⟩
  | _, _, _, .lst h => by
    obtain ⟨h1, h2, h3, h4, h5⟩ := h.facts
    exact ⟨by simpa only [PyData.canLay0] using h1, by simp only [PyData.depth]; omega, by simpa only [PyData.showable] using h3, by simpa only [PyData.leavesShort] using h4, by simpa only [PyData.bulk] using h5⟩
  | _, _, _, .tup h => by
    obtain ⟨h1, h2, h3, h4, h5⟩ := h.facts
    exact ⟨by simpa only [PyData.canLay0] using h1, by simp only [PyData.depth]; omega, by simpa only [PyData.showable] using h3, by simpa only [PyData.leavesShort] using h4, by simpa only [PyData.bulk] using h5⟩
theorem PlA.facts : ∀ {k m : Nat} {xs : List D}, PlA k m xs → PyData.canLayAll0 xs = true ∧ PyData.depthAll xs ≤ k ∧ PyData.showableAll xs = true ∧ PyData.leavesShortAll 24 xs = true ∧ PyData.bulkAll xs ≤ m
  | _, _, _, .nil => ⟨by simp only [PyData.canLayAll0], by simp [PyData.depthAll], by simp only [PyData.showableAll], by simp only [PyData.leavesShortAll], by simp [PyData.bulkAll]⟩
  | _, _, _, .cons h t => by
    obtain ⟨h1, h2, h3, h4, h5⟩ := h.facts
    obtain ⟨t1, t2, t3, t4, t5⟩ := t.facts
    exact ⟨by simp only [PyData.canLayAll0, h1, t1]; rfl, by simp only [PyData.depthAll]; omega, by simp only [PyData.showableAll, h3, t3]; rfl, by simp only [PyData.leavesShortAll, h4, t4]; rfl, by simp only [PyData.bulkAll]; omega⟩
end
theorem showOk_of {k m : Nat} {d : D} (h : Pl k m d) (hk : k ≤ 60) (hm : m ≤ 600000) : showOk d = true := by
  obtain ⟨h1, h2, h3, h4, h5⟩ := h.facts
  have e := PyData.shown_le_bulk 24 (by decide) d h4
  have z : sizeLine = 16777216 := by decide
  unfold showOk
  simp only [Bool.and_eq_true, decide_eq_true_eq]
  exact ⟨⟨h3, by omega⟩, by omega⟩
theorem strOk_append {a b : Str} (ha : PyData.strOk a = true) (hb : PyData.strOk b = true) : PyData.strOk (a ++ b) = true := by
  unfold PyData.strOk at *
  have e : (a ++ b).cps = a.cps ++ b.cps := rfl
  rw [e, ← Array.all_toList, Array.toList_append, List.all_append, Array.all_toList, Array.all_toList, ha, hb]; rfl
theorem strOk_of (s : String) : PyData.strOk (Str.ofString s) = true := by
  unfold PyData.strOk
  rw [Str.ofString_eq_toList, ← Array.all_toList]
  simp only [List.all_map, List.all_eq_true, Function.comp, decide_eq_true_eq]
  intro c _
  have := c.valid
  have h2 : c.toNat = c.val.toNat := rfl
  rw [h2]
  rcases this with h | ⟨_, h⟩
  · exact Nat.lt_trans h (by decide)
  · exact h
theorem strOk_textFrom : ∀ (ts : List Str) (k : Nat) (acc : Str), PyData.strOk acc = true → (∀ t ∈ ts, PyData.strOk t = true) → PyData.strOk (textFrom k acc ts) = true
  | [], _, _, h, _ => h
  | t :: ts, k, acc, h, ht => strOk_textFrom ts (k + 1) _ (strOk_append (strOk_append h (strOk_of _)) (ht t (List.mem_cons_self ..))) fun u hu => ht u (List.mem_cons_of_mem _ hu)
theorem strOk_join : ∀ (ts : List Str), (∀ t ∈ ts, PyData.strOk t = true) → PyData.strOk (Str.join ", " ts) = true
  | [], _ => by decide +kernel
  | [x], h => h x (List.mem_cons_self ..)
  | x :: y :: r, h => strOk_append (strOk_append (h x (List.mem_cons_self ..)) (strOk_of _)) (strOk_join (y :: r) fun u hu => h u (List.mem_cons_of_mem _ hu))
mutual
theorem Pl.strOk : ∀ {k m : Nat} {d : D}, Pl k m d → PyData.strOk d.shown = true
  | _, _, _, .int h => by simp only [PyData.shown]; exact strOk_of _
  | _, _, _, .bool => by simp only [PyData.shown]; split <;> exact strOk_of _
  | _, _, _, .none => by simp only [PyData.shown]; exact strOk_of _
  | _, _, _, .lst h => by simp only [PyData.shown]; exact strOk_append (strOk_textFrom _ _ _ (strOk_of _) h.strOk) (strOk_of _)
  | _, _, _, .tup h => by simp only [PyData.shown]; exact strOk_append (strOk_append (strOk_of _) (strOk_join _ h.strOk)) (strOk_of _)
theorem PlA.strOk : ∀ {k m : Nat} {xs : List D}, PlA k m xs → ∀ t ∈ PyData.shownAll xs, PyData.strOk t = true
  | _, _, _, .nil => by simp [PyData.shownAll]
  | _, _, _, .cons h t => by
    intro u hu
    simp only [PyData.shownAll, List.mem_cons] at hu
    rcases hu with rfl | hu
    · exact h.strOk
    · exact t.strOk u hu
end
theorem eqv_str (a b : Str) : PyData.eqv (.str a) (.str b) = decide (a = b) := by
  simp only [PyData.eqv]
  first | rfl | (by_cases h : a = b <;> simp [h])
/-- repr(x) != repr(x): no -/
theorem ne_self {k m : Nat} {d : D} (h : Pl k m d) : copD .ne (.str d.shown) (.str d.shown) = some (.bool false) := by
  show (if eqOk _ _ then _ else _) = _
  have h1 : PyData.canLay0 (.str d.shown) = true := by simp only [PyData.canLay0]; exact h.strOk
  have h2 : PyData.depth (.str d.shown) = 0 := by simp only [PyData.depth]
  have e : eqOk (.str d.shown) (.str d.shown) = true := by unfold eqOk; rw [h1, h2]; rfl
  rw [if_pos e, eqv_str, decide_eq_true rfl]; rfl
theorem prim_repr {k m : Nat} {d : D} (h : Pl k m d) (hk : k ≤ 60) (hm : m ≤ 600000) : primD .repr [d] = some (.str d.shown) := by
  show (if showOk d = true then _ else _) = _
  rw [if_pos (showOk_of h hk hm)]
end PD
set_option maxHeartbeats 4000000
/-! PLc: pairs of ints; ranges; what is in what. -/
namespace PD
open PySem L2
def ip (p : Int × Int) : D := .tuple [.int p.1, .int p.2]
def ordD (n : Int) (ps : List (Int × Int)) : D := .tuple [.int n, .tuple (ps.map ip)]
theorem eqv_int (a b : Int) : PyData.eqv (.int a) (.int b) = decide (a = b) := by
  simp only [PyData.eqv]
  first | rfl | (by_cases h : a = b <;> simp [h])
theorem eqv_ip (p q : Int × Int) : PyData.eqv (ip p) (ip q) = decide (p = q) := by
  obtain ⟨a, b⟩ := p
  obtain ⟨c, d⟩ := q
  unfold ip
  simp only [PyData.eqv, PyData.eqvAll, eqv_int]
  by_cases h1 : a = c <;> by_cases h2 : b = d <;> simp [h1, h2]
theorem canLay_int (a : Int) : PyData.canLay0 (.int a) = true := by simp only [PyData.canLay0]
theorem depth_int (a : Int) : PyData.depth (.int a) = 0 := by simp only [PyData.depth]
theorem canLay_ip (p : Int × Int) : PyData.canLay0 (ip p) = true := by
  unfold ip; simp only [PyData.canLay0, PyData.canLayAll0]; rfl
theorem depth_ip (p : Int × Int) : PyData.depth (ip p) = 1 := by
  unfold ip; simp only [PyData.depth, PyData.depthAll]; rfl
theorem canLayAll_of : ∀ {ds : List D}, (∀ d ∈ ds, PyData.canLay0 d = true) → PyData.canLayAll0 ds = true
  | [], _ => by simp only [PyData.canLayAll0]
  | d :: ds, h => by simp only [PyData.canLayAll0, h d (List.mem_cons_self ..), canLayAll_of fun e he => h e (List.mem_cons_of_mem _ he)]; rfl
theorem depthAll_of {k : Nat} : ∀ {ds : List D}, (∀ d ∈ ds, PyData.depth d ≤ k) → PyData.depthAll ds ≤ k
  | [], _ => by simp [PyData.depthAll]
  | d :: ds, h => by
    have h1 := h d (List.mem_cons_self ..)
    have h2 := depthAll_of fun e he => h e (List.mem_cons_of_mem _ he)
    simp only [PyData.depthAll]; omega
/-- what is in a list of data of one sort -/
theorem in_of {α : Type} [DecidableEq α] {f : α → D} (hf : ∀ a b, PyData.eqv (f a) (f b) = decide (a = b)) (hc : ∀ a, PyData.canLay0 (f a) = true) (hd : ∀ a, PyData.depth (f a) ≤ 60) (neg : Bool) (p : α) (ps : List α) [Decidable (p ∈ ps)] :
    inD neg (f p) (.tuple (ps.map f)) = some (.bool (if neg then !decide (p ∈ ps) else decide (p ∈ ps))) ∧ inD neg (f p) (.list (ps.map f)) = some (.bool (if neg then !decide (p ∈ ps) else decide (p ∈ ps))) := by
  have e : ((ps.map f).any fun y => PyData.eqv y (f p)) = decide (p ∈ ps) := by
    rw [Bool.eq_iff_iff, List.any_eq_true, decide_eq_true_iff]
    constructor
    · rintro ⟨y, hy, he⟩
      obtain ⟨q, hq, rfl⟩ := List.mem_map.mp hy
      rw [hf] at he
      rw [← of_decide_eq_true he]; exact hq
    · intro h
      exact ⟨f p, List.mem_map_of_mem h, by rw [hf]; simp⟩
  have c : ((f p).canLay0 && PyData.canLayAll0 (ps.map f) && decide (min (PyData.depthAll (ps.map f)) (f p).depth ≤ 60)) = true := by
    rw [hc p, canLayAll_of (fun d hd' => by
      obtain ⟨a, _, rfl⟩ := List.mem_map.mp hd'
      exact hc a)]
    have := hd p
    simp only [Bool.true_and, decide_eq_true_eq]
    omega
  constructor
  · show (if _ then _ else _) = _
    rw [if_pos c, e]
  · show (if _ then _ else _) = _
    rw [if_pos c, e]
theorem in_ips (neg : Bool) (a b : Int) (ps : List (Int × Int)) : inD neg (.tuple [.int a, .int b]) (.tuple (ps.map ip)) = some (.bool (if neg then !decide ((a, b) ∈ ps) else decide ((a, b) ∈ ps))) :=
  (in_of (f := ip) eqv_ip canLay_ip (fun a => by rw [depth_ip]; omega) neg (a, b) ps).1
theorem inn_ips (a b : Int) (ps : List (Int × Int)) : copD .inn (.tuple [.int a, .int b]) (.tuple (ps.map ip)) = some (.bool (decide ((a, b) ∈ ps))) := in_ips false a b ps
theorem nin_ips (a b : Int) (ps : List (Int × Int)) : copD .nin (.tuple [.int a, .int b]) (.tuple (ps.map ip)) = some (.bool (!decide ((a, b) ∈ ps))) := in_ips true a b ps
theorem nin_ints (a : Int) (xs : List Int) : copD .nin (.int a) (.tuple (xs.map .int)) = some (.bool (!decide (a ∈ xs))) := (in_of (f := PyData.int) eqv_int canLay_int (fun a => by rw [depth_int]; omega) true a xs).1
theorem copD_eq (d e : D) : copD .eq d e = if eqOk d e then some (.bool (PyData.eqv d e)) else none := rfl
theorem copD_ne (d e : D) : copD .ne d e = if eqOk d e then some (.bool (!PyData.eqv d e)) else none := rfl
theorem copD_lt (d e : D) : copD .lt d e = if ltOk d e then some (.bool (PySem.W.dataLt d e)) else none := rfl
theorem copD_gt (d e : D) : copD .gt d e = if ltOk d e then some (.bool (PySem.W.dataLt e d)) else none := rfl
theorem cmp_int (a b : Int) : copD .eq (.int a) (.int b) = some (.bool (decide (a = b))) ∧ copD .ne (.int a) (.int b) = some (.bool (!decide (a = b))) := by
  have e : eqOk (.int a) (.int b) = true := by unfold eqOk; rw [canLay_int, canLay_int, depth_int, depth_int]; rfl
  constructor
  · rw [copD_eq, if_pos e, eqv_int]
  · rw [copD_ne, if_pos e, eqv_int]
theorem eq_int (a b : Int) : copD .eq (.int a) (.int b) = some (.bool (decide (a = b))) := (cmp_int a b).1
theorem ne_int (a b : Int) : copD .ne (.int a) (.int b) = some (.bool (!decide (a = b))) := (cmp_int a b).2
theorem dataLt_int (a b : Int) : PySem.W.dataLt (.int a) (.int b) = decide (a < b) := by
  unfold PySem.W.dataLt
  simp only [PySem.W.keyToks]
  rw [PyProof.Rows.lex_cons]
  show (decide (a < b) || (!decide (b < a) && PyProof.Rows.lexLt _ [] [])) = _
  have : PyProof.Rows.lexLt PyProof.Rows.itemOrd [] [] = false := rfl
  rw [this]; simp
theorem ltOk_int (a b : Int) : ltOk (.int a) (.int b) = true := by
  unfold ltOk
  rw [depth_int, depth_int]
  simp [PySem.W.alike, isN]
theorem lt_int (a b : Int) : copD .lt (.int a) (.int b) = some (.bool (decide (a < b))) := by
  rw [copD_lt, if_pos (ltOk_int a b), dataLt_int]
theorem gt_int (a b : Int) : copD .gt (.int a) (.int b) = some (.bool (decide (b < a))) := by
  rw [copD_gt, if_pos (ltOk_int a b), dataLt_int]
theorem ne_bool (a b : Bool) : copD .ne (.bool a) (.bool b) = some (.bool (a != b)) := by cases a <;> cases b <;> rfl
theorem truD_bool (b : Bool) : truD (.bool b) = some b := rfl
theorem idx0 (a : D) (l : List D) : idxD (.tuple (a :: l)) (.int 0) = some a := atI_nat (j := 0) rfl
theorem idx1 (a b : D) (l : List D) : idxD (.tuple (a :: b :: l)) (.int 1) = some b := atI_nat (j := 1) rfl
theorem add_int (a b : Int) : binD .add (.int a) (.int b) = some (.int (a + b)) := rfl
theorem sub_int (a b : Int) : binD .sub (.int a) (.int b) = some (.int (a - b)) := rfl
def rg (n : Nat) : List Int := (List.range n).map Int.ofNat
theorem rngD_int (a b : Int) : rngD (.int a) (.int b) = if RgOk a b then some (rangeI a b) else none := rfl
theorem rng_nat {n : Nat} (h : n ≤ 1000) : rngD (.int 0) (.int n) = some ((rg n).map .int) := by
  have ok : RgOk 0 (n : Int) := RgOk.of_le (by omega) (by omega) (by omega) (by omega)
  rw [rngD_int, if_pos ok]
  unfold rangeI rg
  rw [List.map_map]
  simp [Function.comp_def]
theorem mem_rg {n : Nat} {a : Int} : a ∈ rg n ↔ 0 ≤ a ∧ a < n := by
  unfold rg
  simp only [List.mem_map, List.mem_range]
  constructor
  · rintro ⟨i, h, rfl⟩
    exact ⟨Int.natCast_nonneg i, by simpa using h⟩
  · rintro ⟨h1, h2⟩
    exact ⟨a.toNat, by omega, by simp [Int.toNat_of_nonneg h1]⟩
theorem look_z {d : D} {r : Nv} : look (some (.sh d) :: r) 0 = some d := rfl
theorem look_s {x : Option B} {r : Nv} {i : Nat} : look (x :: r) (i + 1) = look r i := rfl
theorem lookB_z {d : D} {r : Nv} : lookB (some (.sh d) :: r) 0 = some d := rfl
theorem lookB_o {d : D} {r : Nv} : lookB (some (.own d) :: r) 0 = some d := rfl
theorem lookB_s {x : Option B} {r : Nv} {i : Nat} : lookB (x :: r) (i + 1) = lookB r i := rfl
theorem lookA_z {d : D} {r : Nv} : lookA (some (.sh d) :: r) 0 = some (.sh d) := rfl
theorem lookA_c {r : Nv} : lookA (some .src :: r) 0 = some .src := rfl
theorem lookA_s {x : Option B} {r : Nv} {i : Nat} : lookA (x :: r) (i + 1) = lookA r i := rfl
theorem lookO_o {d : D} {r : Nv} : lookO (some (.own d) :: r) 0 = some d := rfl
theorem lookO_s {x : Option B} {r : Nv} {i : Nat} : lookO (x :: r) (i + 1) = lookO r i := rfl
theorem ltD_l (xs : List D) : ltD (.list xs) = some xs := rfl
theorem ltD_t (xs : List D) : ltD (.tuple xs) = some xs := rfl
theorem lstD_l (xs : List D) : lstD (.list xs) = some xs := rfl
theorem asg_v {i : Nat} {d : D} {ρ : Nv} : asg (.v i) d ρ = some (ρ.set i (some (.sh d))) := by unfold asg; rfl
theorem asg_t {gs : List G} {ds : List D} {ρ : Nv} : asg (.tup gs) (.tuple ds) ρ = asgs gs ds ρ := by unfold asg; rfl
theorem asg_l {gs : List G} {ds : List D} {ρ : Nv} : asg (.tup gs) (.list ds) ρ = asgs gs ds ρ := by unfold asg; rfl
theorem asgs_n {ρ : Nv} : asgs [] [] ρ = some ρ := by unfold asgs; rfl
theorem asgs_c {g : G} {gs : List G} {d : D} {ds : List D} {ρ : Nv} : asgs (g :: gs) (d :: ds) ρ = (asg g d ρ).bind (asgs gs ds) := by rw [asgs]
theorem wipeN_n {ρ : Nv} : wipeN ρ [] = ρ := rfl
theorem wipeN_c {ρ : Nv} {i : Nat} {r : List Nat} : wipeN ρ (i :: r) = (wipeN ρ r).set i none := rfl
theorem p_tuple_l (xs : List D) : primD .tuple [.list xs] = some (.tuple xs) := rfl
theorem p_tuple_t (xs : List D) : primD .tuple [.tuple xs] = some (.tuple xs) := rfl
theorem p_list_l (xs : List D) : primD .list [.list xs] = some (.list xs) := rfl
theorem p_list_t (xs : List D) : primD .list [.tuple xs] = some (.list xs) := rfl
theorem p_len_l (xs : List D) : primD .len [.list xs] = some (.int xs.length) := rfl
theorem p_len_t (xs : List D) : primD .len [.tuple xs] = some (.int xs.length) := rfl
theorem sets_n {ρ : Nv} : sets ρ [] = ρ := rfl
theorem sets_c {ρ : Nv} {i : Nat} {b : B} {r : List (Nat × B)} : sets ρ ((i, b) :: r) = sets (ρ.set i (some b)) r := rfl
theorem lift_none {α : Type} {Q : α → Prop} : lift (none : Option α) Q = False := by simp [lift]
theorem free_n {ρ : Nv} : free ρ [] = true := rfl
def nOwn : Option (Option B) → Bool
  | some (some (.own _)) => false
  | _ => true
theorem free_c {ρ : Nv} {i : Nat} {r : List Nat} : free ρ (i :: r) = (nOwn ρ[i]? && free ρ r) := by
  first
    | rfl
    | (unfold free nOwn; rw [List.all_cons]; done)
    | (unfold free nOwn; rw [List.all_cons]; rfl)
theorem nOwn_n : nOwn (some none) = true := rfl
theorem nOwn_s {d : D} : nOwn (some (some (.sh d))) = true := rfl
theorem nOwn_c : nOwn (some (some .src)) = true := rfl
end PD
set_option maxHeartbeats 4000000
/-! PLd: general lemmas of the plain side (grown with k12): comprehensions, dicts of pairs, sorting, small data. -/
namespace PD
open PySem L2

theorem small_le {n : Nat} (h : n ≤ 1000) : n ≤ sizeLine := Nat.le_of_lt (small1000 h)
/-- a comprehension over ints with a test -/
theorem lcW_filter {α : Type} {f : α → D} {g : α → D} {p : α → Bool} {xs : List α} {st : D → W (Option D)} {Q : List D → Prop} (h : ∀ a ∈ xs, ∀ K : Option D → Prop, K (if p a = true then some (g a) else none) → st (f a) K) (q : Q ((xs.filter p).map g)) : lcW (xs.map f) st Q := by
  induction xs generalizing Q with
  | nil => exact q
  | cons a xs ih =>
    rw [List.map_cons]
    unfold lcW
    refine h a (List.mem_cons_self ..) _ (ih (fun b hb => h b (List.mem_cons_of_mem _ hb)) ?_)
    cases hp : p a with
    | true => rw [List.filter_cons_of_pos hp] at q; simpa using q
    | false => rw [List.filter_cons_of_neg (by simp [hp])] at q; simpa using q

theorem flatMap_len {α β : Type} {f : α → List β} {c : Nat} : ∀ {l : List α}, (∀ x ∈ l, (f x).length ≤ c) → (l.flatMap f).length ≤ c * l.length
  | [], _ => by simp
  | a :: l, h => by
    have h1 := h a (List.mem_cons_self ..)
    have h2 := flatMap_len (f := f) (l := l) fun x hx => h x (List.mem_cons_of_mem _ hx)
    rw [List.flatMap_cons, List.length_append, List.length_cons, Nat.mul_succ]; omega

theorem take_succ_flat {α β : Type} {f : α → List β} {l : List α} {i : Nat} (h : i < l.length) : (l.take (i + 1)).flatMap f = (l.take i).flatMap f ++ f l[i] := by
  rw [List.take_add_one, List.getElem?_eq_getElem h, List.flatMap_append]; simp
theorem take_succ_filter {α : Type} {p : α → Bool} {l : List α} {i : Nat} (h : i < l.length) : (l.take (i + 1)).filter p = (l.take i).filter p ++ (if p l[i] = true then [l[i]] else []) := by
  rw [List.take_add_one, List.getElem?_eq_getElem h, List.filter_append]
  simp only [Option.toList_some, List.filter_cons, List.filter_nil]

theorem small_lt {n : Nat} (h : n ≤ 5000) : n < sizeLine := Nat.lt_of_le_of_lt h (by decide)

theorem eq_unit (xs : List D) (hc : PyData.canLayAll0 xs = true) (neg : Bool) : copD (if neg then .ne else .eq) (.tuple xs) (.tuple []) = some (.bool (if neg then !xs.isEmpty else xs.isEmpty)) ∧ copD (if neg then .ne else .eq) (.list xs) (.list []) = some (.bool (if neg then !xs.isEmpty else xs.isEmpty)) := by
  have c0 : PyData.canLayAll0 ([] : List D) = true := by simp only [PyData.canLayAll0]
  have d0 : PyData.depthAll ([] : List D) = 0 := by simp only [PyData.depthAll]
  have e1 : eqOk (.tuple xs) (.tuple []) = true := by
    unfold eqOk
    simp only [PyData.canLay0, PyData.depth, hc, c0, d0, Bool.true_and, decide_eq_true_eq]; omega
  have e2 : eqOk (.list xs) (.list []) = true := by
    unfold eqOk
    simp only [PyData.canLay0, PyData.depth, hc, c0, d0, Bool.true_and, decide_eq_true_eq]; omega
  have v1 : PyData.eqv (.tuple xs) (.tuple []) = xs.isEmpty := by cases xs <;> simp only [PyData.eqv, PyData.eqvAll] <;> rfl
  have v2 : PyData.eqv (.list xs) (.list []) = xs.isEmpty := by cases xs <;> simp only [PyData.eqv, PyData.eqvAll] <;> rfl
  cases neg
  · simp only [Bool.false_eq_true, if_false]
    exact ⟨by rw [copD_eq, if_pos e1, v1], by rw [copD_eq, if_pos e2, v2]⟩
  · simp only [if_true]
    exact ⟨by rw [copD_ne, if_pos e1, v1], by rw [copD_ne, if_pos e2, v2]⟩
theorem eq_unit_t {xs : List D} (hc : PyData.canLayAll0 xs = true) : copD .eq (.tuple xs) (.tuple []) = some (.bool xs.isEmpty) := (eq_unit xs hc false).1
theorem eq_unit_l {xs : List D} (hc : PyData.canLayAll0 xs = true) : copD .eq (.list xs) (.list []) = some (.bool xs.isEmpty) := (eq_unit xs hc false).2
theorem ne_unit_t {xs : List D} (hc : PyData.canLayAll0 xs = true) : copD .ne (.tuple xs) (.tuple []) = some (.bool (!xs.isEmpty)) := (eq_unit xs hc true).1
theorem ne_unit_l {xs : List D} (hc : PyData.canLayAll0 xs = true) : copD .ne (.list xs) (.list []) = some (.bool (!xs.isEmpty)) := (eq_unit xs hc true).2

theorem add_list (a b : List D) : binD .add (.list a) (.list b) = if a.length + b.length ≤ sizeLine then some (.list (a ++ b)) else none := rfl

def tupI (xs : List Int) : D := .tuple (xs.map .int)

theorem canLay_ints (xs : List Int) : PyData.canLayAll0 (xs.map PyData.int) = true := canLayAll_of fun d hd => by
  obtain ⟨a, _, rfl⟩ := List.mem_map.mp hd
  exact canLay_int a

theorem ip0 (p : Int × Int) : idxD (ip p) (.int 0) = some (.int p.1) := idx0 _ _
theorem ip1 (p : Int × Int) : idxD (ip p) (.int 1) = some (.int p.2) := idx1 _ _ _
theorem rg_len (n : Nat) : (rg n).length = n := by unfold rg; simp

def InR (n : Int) (p : Int × Int) : Prop := 0 ≤ p.1 ∧ p.1 < n ∧ 0 ≤ p.2 ∧ p.2 < n
def ltP (p q : Int × Int) : Prop := p.1 < q.1 ∨ (p.1 = q.1 ∧ p.2 < q.2)
instance (p q : Int × Int) : Decidable (ltP p q) := by unfold ltP; exact inferInstance
def leP (p q : Int × Int) : Bool := decide (p.1 < q.1 ∨ (p.1 = q.1 ∧ p.2 ≤ q.2))
/-- a right order's pairs -/
structure GO (n : Nat) (ps : List (Int × Int)) : Prop where
  inr : ∀ p ∈ ps, InR n p
  srt : ps.Pairwise ltP
theorem len_of_sub {α : Type} [DecidableEq α] : ∀ (l m : List α), l.Nodup → (∀ x ∈ l, x ∈ m) → l.length ≤ m.length
  | [], _, _, _ => Nat.zero_le _
  | a :: l, m, h, hs => by
    have h := List.nodup_cons.mp h
    have ha := hs a (List.mem_cons_self ..)
    have := len_of_sub l (m.erase a) h.2 fun x hx => (List.mem_erase_of_ne fun e => h.1 (by rw [← e]; exact hx)).mpr (hs x (List.mem_cons_of_mem _ hx))
    rw [List.length_erase_of_mem ha] at this
    have : 0 < m.length := List.length_pos_of_mem ha
    simp only [List.length_cons]; omega
def grid (n : Nat) : List (Int × Int) := (rg n).flatMap fun a => (rg n).map fun b => (a, b)
theorem grid_len (n : Nat) : (grid n).length ≤ n * n := by
  unfold grid
  have := flatMap_len (f := fun a => (rg n).map fun b => (a, b)) (c := n) (l := rg n) fun x _ => by rw [List.length_map, rg_len]; exact Nat.le_refl _
  rwa [rg_len] at this
theorem in_grid {n : Nat} {p : Int × Int} (h : InR n p) : p ∈ grid n := by
  obtain ⟨h1, h2, h3, h4⟩ := h
  unfold grid
  exact List.mem_flatMap.mpr ⟨p.1, mem_rg.mpr ⟨h1, h2⟩, List.mem_map.mpr ⟨p.2, mem_rg.mpr ⟨h3, h4⟩, rfl⟩⟩
theorem len_inr {n : Nat} {qs : List (Int × Int)} (nd : qs.Nodup) (h : ∀ q ∈ qs, InR n q) (hn : n ≤ 8) : qs.length ≤ 64 := by
  have h1 := len_of_sub qs (grid n) nd fun q hq => in_grid (h q hq)
  have h2 := grid_len n
  have : n * n ≤ 8 * 8 := Nat.mul_le_mul hn hn
  omega
theorem GO.nodup {n : Nat} {ps : List (Int × Int)} (g : GO n ps) : ps.Nodup := g.srt.imp fun {a b} h e => by
  subst e
  rcases h with h | ⟨_, h⟩ <;> omega
theorem GO.len {n : Nat} {ps : List (Int × Int)} (g : GO n ps) (hn : n ≤ 8) : ps.length ≤ 64 := len_inr g.nodup g.inr hn
/-! the dict -/
def Keys (kvs : List (D × D)) (qs : List (Int × Int)) : Prop := kvs.map (·.1) = qs.map ip
theorem keys_get {p : Int × Int} : ∀ {kvs : List (D × D)} {qs : List (Int × Int)}, Keys kvs qs → (kvs.any fun e => PyData.eqv e.1 (ip p)) = decide (p ∈ qs)
  | [], [], _ => rfl
  | e :: kvs, q :: qs, h => by
    have h := h
    unfold Keys at h
    simp only [List.map_cons, List.cons.injEq] at h
    rw [List.any_cons, keys_get (kvs := kvs) (qs := qs) h.2, h.1, eqv_ip]
    by_cases hq : q = p
    · simp [hq]
    · have : p ≠ q := fun z => hq z.symm
      simp [hq, this]
  | [], _ :: _, h => by unfold Keys at h; simp at h
  | _ :: _, [], h => by unfold Keys at h; simp at h
theorem keys_put {p : Int × Int} {x : D} {kvs : List (D × D)} {qs : List (Int × Int)} (h : Keys kvs qs) : Keys (dput kvs (ip p) x) (if p ∈ qs then qs else qs ++ [p]) := by
  unfold dput
  rw [keys_get h]
  by_cases hp : p ∈ qs
  · rw [if_pos (by simpa using hp), if_pos hp]
    unfold Keys at *
    rw [List.map_map, ← h]
    apply List.map_congr_left
    intro e _
    simp only [Function.comp]
    split <;> rfl
  · rw [if_neg (by simpa using hp), if_neg hp]
    unfold Keys at *
    rw [List.map_append, h, List.map_append]; rfl
theorem isKey_ip (p : Int × Int) : isKey (ip p) = true := rfl
theorem kindOk_ip {p : Int × Int} : ∀ {kvs : List (D × D)} {qs : List (Int × Int)}, Keys kvs qs → kindOk kvs (ip p) = true
  | [], _, _ => rfl
  | e :: kvs, q :: qs, h => by
    unfold Keys at h
    simp only [List.map_cons, List.cons.injEq] at h
    unfold kindOk
    rw [List.all_cons, Bool.and_eq_true]
    refine ⟨by rw [h.1]; rfl, kindOk_ip (qs := qs) h.2⟩
  | _ :: _, [], h => by unfold Keys at h; simp at h
theorem dget_any (k : D) (kvs : List (D × D)) : (dget kvs k).isSome = kvs.any fun e => PyData.eqv e.1 k := by
  unfold dget
  rw [Option.isSome_map]
  induction kvs with
  | nil => rfl
  | cons e kvs ih =>
    rw [List.find?_cons, List.any_cons]
    cases PyData.eqv e.1 k <;> simp [ih]
theorem inn_dict {a b : Int} {kvs : List (D × D)} {qs : List (Int × Int)} (h : Keys kvs qs) : copD .inn (.tuple [.int a, .int b]) (.dict kvs) = some (.bool (decide ((a, b) ∈ qs))) := by
  show (if (isKey (ip (a, b)) && kindOk kvs (ip (a, b))) = true then some (PyData.bool (if false = true then !(dget kvs (ip (a, b))).isSome else (dget kvs (ip (a, b))).isSome)) else none) = _
  rw [isKey_ip, kindOk_ip h, dget_any, keys_get h]; rfl
theorem set_dict' {a b : Int} {x : D} {kvs : List (D × D)} {qs : List (Int × Int)} (h : Keys kvs qs) (hl : qs.length ≤ 64) : setD (.dict kvs) (.tuple [.int a, .int b]) x = some (.dict (dput kvs (ip (a, b)) x)) := by
  have e : kvs.length = qs.length := by have := congrArg List.length h; simpa using this
  have hz : kvs.length < sizeLine := small_lt (by omega)
  show (if (isKey (ip (a, b)) && kindOk kvs (ip (a, b)) && decide (kvs.length < sizeLine)) = true then _ else none) = _
  rw [isKey_ip, kindOk_ip h, decide_eq_true hz]; rfl
/-! sorted -/
theorem alike_ip (p q : Int × Int) : PySem.W.alike (ip p) (ip q) = true := by
  unfold ip; simp [PySem.W.alike, PySem.W.alikeAll]
theorem sortOk_ip (qs : List (Int × Int)) : sortOk (qs.map ip) = true := by
  unfold sortOk allAlike
  simp only [Bool.and_eq_true, Bool.or_eq_true, List.all_eq_true, List.mem_map, decide_eq_true_eq]
  refine ⟨⟨?_, .inl ?_⟩, ?_⟩
  · rintro _ ⟨p, _, rfl⟩ _ ⟨q, _, rfl⟩; exact alike_ip p q
  · rintro _ ⟨p, _, rfl⟩; rfl
  · rintro _ ⟨p, _, rfl⟩; rw [depth_ip]; omega
theorem toks_ip (p : Int × Int) : PySem.W.keyToks (ip p) = [.inl 1, .inl p.1, .inl 1, .inl p.2, .inl 0] := by
  unfold ip; simp [PySem.W.keyToks, PySem.W.keyToksAll]
theorem lt_ip (p q : Int × Int) : PySem.W.dataLt (ip p) (ip q) = decide (ltP p q) := by
  unfold PySem.W.dataLt
  rw [toks_ip, toks_ip]
  rw [PyProof.Rows.lex_cons, PyProof.Rows.lex_cons, PyProof.Rows.lex_cons, PyProof.Rows.lex_cons, PyProof.Rows.lex_cons]
  show (decide ((1 : Int) < 1) || (!decide ((1 : Int) < 1) && (decide (p.1 < q.1) || (!decide (q.1 < p.1) && (decide ((1 : Int) < 1) || (!decide ((1 : Int) < 1) && (decide (p.2 < q.2) || (!decide (q.2 < p.2) && (decide ((0 : Int) < 0) || (!decide ((0 : Int) < 0) && false)))))))))) = _
  rw [Bool.eq_iff_iff]
  simp only [Bool.or_eq_true, Bool.and_eq_true, Bool.not_eq_true', decide_eq_false_iff_not, decide_eq_true_iff, Bool.false_eq_true, and_false, or_false, Int.lt_irrefl, false_or, not_false_eq_true, true_and]
  unfold ltP
  omega
theorem le_ip (p q : Int × Int) : PySem.W.dataLe false id (ip p) (ip q) = leP p q := by
  have e : PySem.W.dataLe false id (ip p) (ip q) = !PySem.W.dataLt (ip q) (ip p) := rfl
  rw [e]
  have h := lt_ip q p
  rw [h, Bool.eq_iff_iff]
  unfold leP
  simp only [Bool.not_eq_true', decide_eq_false_iff_not, decide_eq_true_iff]
  unfold ltP
  omega
theorem sortD_ip (qs : List (Int × Int)) : sortD (qs.map ip) = (qs.mergeSort leP).map ip := by
  unfold sortD
  rw [List.map_mergeSort (r := leP) (s := PySem.W.dataLe false id) fun a _ b _ => (le_ip a b).symm]
theorem sorted_go {n : Nat} {qs : List (Int × Int)} (nd : qs.Nodup) (h : ∀ q ∈ qs, InR n q) : GO n (qs.mergeSort leP) := by
  have perm := List.mergeSort_perm qs leP
  refine ⟨fun p hp => h p (perm.mem_iff.mp hp), ?_⟩
  have s := List.pairwise_mergeSort (le := leP) (fun a b c h1 h2 => by unfold leP at *; simp at *; omega) (fun a b => by unfold leP; simp; omega) qs
  have nd2 : (qs.mergeSort leP).Nodup := perm.nodup_iff.mpr nd
  have both := List.pairwise_and_iff.mpr ⟨s, nd2⟩
  refine both.imp fun {a b} h => ?_
  obtain ⟨h1, h2⟩ := h
  unfold leP at h1
  unfold ltP
  simp at h1
  rcases h1 with h1 | ⟨h1, h3⟩
  · exact .inl h1
  · refine .inr ⟨h1, ?_⟩
    have : a.2 ≠ b.2 := fun z => h2 (Prod.ext h1 z)
    omega

structure Dk (n : Nat) (kvs : List (D × D)) (qs : List (Int × Int)) : Prop where
  keys : Keys kvs qs
  nd : qs.Nodup
  inr : ∀ q ∈ qs, InR n q
theorem Dk.put {n : Nat} {kvs : List (D × D)} {qs : List (Int × Int)} (h : Dk n kvs qs) {p : Int × Int} {x : D} (hp : InR n p) : ∃ rs, Dk n (dput kvs (ip p) x) rs := by
  refine ⟨if p ∈ qs then qs else qs ++ [p], keys_put h.keys, ?_, ?_⟩
  · split
    · exact h.nd
    · rename_i hn
      exact List.nodup_append.mpr ⟨h.nd, by simp, fun a ha b hb => by
        have : b = p := by simpa using hb
        subst this
        exact fun e => hn (e ▸ ha)⟩
  · intro q hq
    split at hq
    · exact h.inr q hq
    · rcases List.mem_append.mp hq with hq | hq
      · exact h.inr q hq
      · have : q = p := by simpa using hq
        rw [this]; exact hp
theorem Dk.puts {n : Nat} : ∀ {ps : List (Int × Int)} {kvs : List (D × D)} {qs : List (Int × Int)}, Dk n kvs qs → (∀ p ∈ ps, InR n p) → ∃ rs, Dk n (dputs kvs (ps.map fun p => (ip p, .int 0))) rs
  | [], _, qs, h, _ => ⟨qs, h⟩
  | p :: ps, _, _, h, hp => by
    obtain ⟨rs, h1⟩ := h.put (x := .int 0) (hp p (List.mem_cons_self ..))
    exact Dk.puts (ps := ps) h1 fun q hq => hp q (List.mem_cons_of_mem _ hq)
theorem pairsD_ip : ∀ ps : List (Int × Int), pairsD (ps.map fun p => .tuple [ip p, .int 0]) = some (ps.map fun p => (ip p, .int 0))
  | [] => rfl
  | p :: ps => by
    rw [List.map_cons]
    show (pairsD _).map _ = _
    rw [pairsD_ip ps]; rfl
theorem p_dict (ps : List (Int × Int)) : primD .dictOf [.list (ps.map fun p => .tuple [ip p, .int 0])] = some (.dict (dputs [] (ps.map fun p => (ip p, .int 0)))) := by
  show ((pairsD _).bind fun qs => if (qs.all (fun p => isKey1 p.1) || qs.all (fun p => isTk p.1)) = true then some (PyData.dict (dputs [] qs)) else none) = _
  rw [pairsD_ip, Option.bind_some]
  have : (ps.map fun p => (ip p, PyData.int 0)).all (fun p => isTk p.1) = true := by
    rw [List.all_eq_true]
    intro x hx
    obtain ⟨p, _, rfl⟩ := List.mem_map.mp hx
    rfl
  rw [this, Bool.or_true, if_pos rfl]
theorem p_sorted {kvs : List (D × D)} {qs : List (Int × Int)} (h : Keys kvs qs) : primD .sorted [.dict kvs] = some (.list ((qs.mergeSort leP).map ip)) := by
  show (if sortOk (kvs.map (·.1)) = true then some (PyData.list (sortD (kvs.map (·.1)))) else none) = _
  unfold Keys at h
  rw [h, if_pos (sortOk_ip qs), sortD_ip]

theorem perm_of_map {α β : Type} {f : α → β} {es ms : List β} (h : es.Perm ms) : ∀ {l : List α}, ms = l.map f → ∃ l' : List α, es = l'.map f ∧ l'.Perm l := by
  induction h with
  | nil => intro l e; exact ⟨l, e, .refl _⟩
  | cons x p ih =>
    intro l e
    cases l with
    | nil => cases e
    | cons a l =>
      simp only [List.map_cons, List.cons.injEq] at e
      obtain ⟨l', e', p'⟩ := ih e.2
      exact ⟨a :: l', by rw [List.map_cons, e', e.1], .cons a p'⟩
  | swap x y l0 =>
    intro l e
    cases l with
    | nil => cases e
    | cons a l => cases l with
      | nil => simp at e
      | cons b l =>
        simp only [List.map_cons, List.cons.injEq] at e
        exact ⟨b :: a :: l, by simp only [List.map_cons]; rw [← e.1, ← e.2.1, ← e.2.2], .swap _ _ _⟩
  | trans p1 p2 ih1 ih2 =>
    intro l e
    obtain ⟨l', e', p'⟩ := ih2 e
    obtain ⟨l2, e2, p3⟩ := ih1 e'
    exact ⟨l2, e2, p3.trans p'⟩
theorem lcW_sub {α : Type} {f : α → D} {g : α → D} {xs : List α} {st : D → W (Option D)} {Q : List D → Prop} (h : ∀ a ∈ xs, ∀ K : Option D → Prop, K none → K (some (g a)) → st (f a) K) (q : ∀ ys : List α, (∀ y ∈ ys, y ∈ xs) → ys.length ≤ xs.length → Q (ys.map g)) : lcW (xs.map f) st Q := by
  induction xs generalizing Q with
  | nil => exact q [] (by simp) (Nat.le_refl _)
  | cons a xs ih =>
    rw [List.map_cons]
    unfold lcW
    refine h a (List.mem_cons_self ..) _ ?_ ?_
    · refine ih (fun b hb => h b (List.mem_cons_of_mem _ hb)) fun ys h1 h2 => ?_
      exact q ys (fun y hy => List.mem_cons_of_mem _ (h1 y hy)) (by simp only [List.length_cons]; omega)
    · refine ih (fun b hb => h b (List.mem_cons_of_mem _ hb)) fun ys h1 h2 => ?_
      exact q (a :: ys) (fun y hy => (List.mem_cons.mp hy).elim (fun e => e ▸ List.mem_cons_self ..) fun hy => List.mem_cons_of_mem _ (h1 y hy)) (by simp only [List.length_cons]; omega)
theorem mul_small {a b : Int} (h : -(2 ^ 64) < a ∧ a < 2 ^ 64) : binD .mul (.int a) (.int b) = some (.int (a * b)) := by
  show (if CMul a b then _ else _) = _
  rw [if_pos (.inl h)]
theorem slc_l (xs : List D) (lo hi : Option Int) : slcD (.list xs) lo hi = some (.list (cutL xs lo hi)) := rfl
theorem cutL_map {α : Type} (f : α → D) (xs : List α) (lo hi : Option Int) : cutL (xs.map f) lo hi = (cutL xs lo hi).map f := by
  unfold cutL; rw [List.length_map, List.map_take, List.map_drop]
theorem cutL_mem {α : Type} {xs : List α} {lo hi : Option Int} {a : α} (h : a ∈ cutL xs lo hi) : a ∈ xs := List.mem_of_mem_drop (List.mem_of_mem_take h)
theorem cutL_len {α : Type} (xs : List α) (lo hi : Option Int) : (cutL xs lo hi).length ≤ xs.length := by
  unfold cutL; rw [List.length_take, List.length_drop]; omega
theorem cut2 {α : Type} (a b : α) (r : List α) : cutL (a :: b :: r) none (some 2) = [a, b] := by
  unfold cutL
  have e1 : HT.sIx (a :: b :: r).length 0 none = 0 := by first | rfl | simp [HT.sIx]
  have e2 : HT.sIx (a :: b :: r).length (a :: b :: r).length (some 2) = 2 := by
    have := HT.sIx_nat (a :: b :: r).length (a :: b :: r).length 2
    rw [show ((2 : Nat) : Int) = 2 from rfl] at this
    rw [this]; simp
  rw [e1, e2]; simp
theorem idx_li {xs : List Int} {a : Int} (h0 : 0 ≤ a) (h : a < xs.length) : ∃ x ∈ xs, idxD (.list (xs.map .int)) (.int a) = some (.int x) := by
  obtain ⟨i, rfl⟩ := Int.eq_ofNat_of_zero_le h0
  have hi : i < xs.length := by omega
  refine ⟨xs[i], List.getElem_mem hi, ?_⟩
  show atI _ _ = _
  refine atI_nat ?_
  rw [List.getElem?_map, List.getElem?_eq_getElem hi]; rfl
theorem add_tup (a b : List D) : binD .add (.tuple a) (.tuple b) = if a.length + b.length ≤ sizeLine then some (.tuple (a ++ b)) else none := rfl

theorem sorted_ext : ∀ {xs ys : List Int}, xs.Pairwise (· < ·) → ys.Pairwise (· < ·) → (∀ a, a ∈ xs ↔ a ∈ ys) → xs = ys
  | [], [], _, _, _ => rfl
  | [], y :: ys, _, _, h => by have := (h y).mpr (List.mem_cons_self ..); simp at this
  | x :: xs, [], _, _, h => by have := (h x).mp (List.mem_cons_self ..); simp at this
  | x :: xs, y :: ys, hx, hy, h => by
    have hx := List.pairwise_cons.mp hx
    have hy := List.pairwise_cons.mp hy
    have e : x = y := by
      have h1 := (h x).mp (List.mem_cons_self ..)
      have h2 := (h y).mpr (List.mem_cons_self ..)
      rcases List.mem_cons.mp h1 with h1 | h1
      · exact h1
      · rcases List.mem_cons.mp h2 with h2 | h2
        · exact h2.symm
        · have a1 := hy.1 x h1
          have a2 := hx.1 y h2
          omega
    subst e
    rw [sorted_ext hx.2 hy.2 fun a => ?_]
    constructor
    · intro ha
      have := (h a).mp (List.mem_cons_of_mem _ ha)
      rcases List.mem_cons.mp this with e | e
      · have := hx.1 a ha; omega
      · exact e
    · intro ha
      have := (h a).mpr (List.mem_cons_of_mem _ ha)
      rcases List.mem_cons.mp this with e | e
      · have := hy.1 a ha; omega
      · exact e
theorem rg_srt (n : Nat) : (rg n).Pairwise (· < ·) := by
  unfold rg
  rw [List.pairwise_map]
  exact List.pairwise_lt_range.imp fun {a b} h => by show (a : Int) < (b : Int); omega

theorem lcW_all {α : Type} {f : α → D} {g : α → D} {xs : List α} {st : D → W (Option D)} {Q : List D → Prop} (h : ∀ a ∈ xs, ∀ K : Option D → Prop, K (some (g a)) → st (f a) K) (q : Q (xs.map g)) : lcW (xs.map f) st Q := by
  refine lcW_filter (f := f) (g := g) (p := fun _ => true) (fun a ha K hK => h a ha K (by simpa using hK)) ?_
  rw [show xs.filter (fun _ => true) = xs from List.filter_eq_self.mpr (fun _ _ => rfl)]
  exact q
theorem PlA.all' {k a : Nat} : ∀ {m : Nat} {xs : List D}, (∀ x ∈ xs, Pl k a x) → (a + 1) * xs.length ≤ m → PlA k m xs
  | m, [], _, _ => .nil
  | m, x :: xs, h, hm => by
    rw [List.length_cons, Nat.mul_succ] at hm
    have := PlA.cons (h x (List.mem_cons_self ..)) (PlA.all' (m := m - (a + 1)) (xs := xs) (fun y hy => h y (List.mem_cons_of_mem _ hy)) (by omega))
    rw [show a + 1 + (m - (a + 1)) = m by omega] at this
    exact this
theorem pl_int {k m : Nat} {i : Int} (h0 : 0 ≤ i) (h : i < 100) : Pl k m (.int i) := .int (Nat.lt_of_lt_of_le (show i.natAbs < 100 by omega) (by decide))
theorem pl_ip {n : Nat} {p : Int × Int} (hn : n ≤ 8) (h : InR n p) : Pl 1 2 (ip p) := by
  obtain ⟨h1, h2, h3, h4⟩ := h
  exact .tup (.cons (a := 0) (b := 1) (pl_int h1 (by omega)) (.cons (a := 0) (b := 0) (pl_int h3 (by omega)) .nil))

end PD
set_option maxHeartbeats 4000000
/-! K49a: the draws of this law (variant B). -/
namespace PD
open PySem L2 PySem.Spec PyProof.Rows
abbrev lawP : Program := PySem.Challenge.pw_eachorder_k49_jumps_runs_greedy_lists
def topS (i : Nat) : PySem.Stmt := lawP.main.body.getD i (.Pass ⟨0, 0, 0, 0⟩)
def pickN : List Str := ["source", "most", "cells", "others", "lap", "stirred"]
abbrev sPick : PySem.Stmt := topS 7
theorem scPick : fsB pickN (pickN.take 2) (defScope sPick) = true := by decide +kernel
section
variable {P : Program} {w : World} {K : PySem.W.Frag} {mg : Str → Option Value} {base : Heap}
theorem ok_pick {f : Addr} {fd : FuncData} {k : Nat} (F : Fun K "_law_pick" "_law_pick" sPick f fd) (hb : ∀ x ∈ bltNames, mg x = none) : FnOk P w K mg base CX0 (k + 1) f fd ["source", "most"] spPick := by
  refine F.ok (fsB_ok scPick) (fun vs H Q E h => ?_) (fun cdv A outer s H vs Q E hr h => ?_)
  · obtain ⟨c, l, m, _, rfl, _⟩ := h
    rfl
  · obtain ⟨c, l, m, hne, rfl, hm, hS, q⟩ := h
    have hu := hu_of hr
    have nd : pickN.Nodup := (fsB_ok scPick).nd
    have ml : mg "len" = none := hb _ (by simp [bltNames])
    have mi : mg "int" = none := hb _ (by simp [bltNames])
    refine ⟨_, pss_cons (ps_if (pt_cmpR op_lt (pv 1) pe_int rfl) (pss_one (ps_ret pe_int)) pss_nil)
      (pss_cons (ps_set (i := 2) nd rfl (.inl rfl) (pe_dget hu (pv 0) pe_str (fun _ _ => rfl)))
      (pss_cons (ps_while PassesOwn.never (PW.pt (pw_and (pt_cmpR op_lt (pe_dget hu (pv 0) pe_str (fun _ _ => rfl)) pe_int rfl) (pw_and1 (pt_cmpR op_gt (pe_callB call_len_seq (by rfl) ml PySem.boot_len (pa_cons (pv 2) pa_nil)) pe_int rfl))))
        (pss_one (ps_dput hu (pv 0) pe_str (pe_bm0 PySem.F.plainAttrs_list PySem.F.slot_list_pop PySem.F.type_list_pop mt_pop (pv 2)) rfl)))
      (pss_cons (ps_set (i := 3) nd rfl (.inl rfl) (pe_dget hu (pv 0) pe_str (fun _ _ => rfl)))
      (pss_cons (ps_if (pt_cmpR op_gt (pv 3) pe_int rfl)
          (pss_cons (ps_dput hu (pv 0) pe_str (pe_op op_fdivN (pv 3) (pv 1)) rfl)
            (pss_one (ps_ret (pe_op op_mod (pe_callTy call_int1 (by rfl) mi (by decide +kernel) (pa_cons (pv 3) pa_nil)) (pv 1)))))
          pss_nil)
      (pss_cons (ps_dput hu (pv 0) pe_str (pe_op op_add (pe_dget hu (pv 0) pe_str (fun _ _ => rfl)) pe_int) rfl)
      (pss_cons (ps_set (i := 4) nd rfl (.inl rfl) (pe_dget hu (pv 0) pe_str (fun _ _ => rfl)))
      (pss_cons (ps_set (i := 5) nd rfl (.inl rfl) (pe_op op_mod (pe_callTy call_int1 (by rfl) mi (by decide +kernel) (pa_cons (pe_op op_add (pe_dget hu (pv 0) pe_str (fun _ _ => rfl)) (pe_op op_mul (pv 4) pe_int)) pa_nil)) pe_int))
      (pss_cons (ps_set (i := 5) nd rfl (.inl rfl) (pe_op op_mod (pe_callTy call_int1 (by rfl) mi (by decide +kernel) (pa_cons (pe_op op_add (pe_op op_mul (pv 5) (pv 5)) (pe_op op_mul (pv 4) pe_int)) pa_nil)) pe_int))
      (pss_one (ps_ret (pe_op op_mod (pe_callTy call_int1 (by rfl) mi (by decide +kernel) (pa_cons (pe_op op_fdivN (pv 5) pe_int) pa_nil)) (pv 1)))))))))))), ?_⟩
    have σ0 : (start pickN [V.ref c, V.int m]) = [some (.ref c), some (.int m), none, none, none, none] := rfl
    rw [σ0]
    have drw : ∀ {xs : List Int} {a b t : Int} {H' : Hp}, SrcH c l xs a b t H' → (∀ b, b ≠ c → b ≠ l → H' b = H b) → Drw c l H H' := fun h1 h2 => ⟨⟨_, _, _, _, h1⟩, h2⟩
    have fr : ∀ {H' : Hp} {o : HO}, (∀ b, b ≠ c → b ≠ l → H' b = H b) → ∀ b, b ≠ c → b ≠ l → (upd H' c o) b = H b := fun h2 b hb hl => by rw [upd_ne hb]; exact h2 b hb hl
    have frl : ∀ {H' : Hp} {o : HO}, (∀ b, b ≠ c → b ≠ l → H' b = H b) → ∀ b, b ≠ c → b ≠ l → (upd H' l o) b = H b := fun h2 b hb hl => by rw [upd_ne hl]; exact h2 b hb hl
    obtain ⟨xs0, a0, b0, t0, h0⟩ := hS
    dsimp only [gName, tSeq, tIfS]
    refine ⟨.int m, rfl, m, 2, rfl, rfl, _, rfl, ite2 (fun z => ?_) (fun z => ?_)⟩
    · have z := of_decide_eq_true z
      exact q 0 (by omega) (by omega) H (drw h0 fun _ _ _ => rfl)
    have hm2 : 1 < m := by
      have : ¬ m < 2 := fun w => z (decide_eq_true w)
      omega
    have hmx : max 1 m = m := by omega
    rw [hmx] at q
    have hn : ∀ a, CDivN a m := fun a => ⟨by omega, by omega⟩
    refine ⟨.ref c, rfl, c, _, rfl, h0.gc, ?_⟩
    refine ⟨fun n σ H' => σ = [some (.ref c), some (.int m), some (.ref l), none, none, none] ∧ ∃ xs a b t, xs.length = n ∧ SrcH c l xs a b t H' ∧ ∀ b, b ≠ c → b ≠ l → H' b = H b, ⟨_, rfl, xs0, a0, b0, t0, rfl, h0, fun _ _ _ => rfl⟩, ?_⟩
    rintro n σ H1 ⟨rfl, xs, a, b, t, rfl, h1, f1⟩
    refine tt_use (fun bb => bb = true → xs ≠ []) (fun Qf hq => ?_) (fun bb hbb => ?_)
    · refine ⟨.ref c, rfl, c, _, rfl, h1.gl, a, 2, rfl, rfl, _, rfl, ite2 (fun _ => ?_) (fun _ => hq _ (fun z => nomatch z))⟩
      refine ⟨.ref l, rfl, l, _, rfl, .inl (SqL.of h1.l), _, 0, rfl, rfl, _, rfl, hq _ fun z e => ?_⟩
      subst e
      exact absurd z (by decide)
    · refine ite2 (fun z => ?_) (fun _ => ?_)
      · have hx := hbb z
        obtain ⟨ys, y, rfl⟩ : ∃ ys y, xs = ys ++ [y] := ⟨xs.dropLast, xs.getLast hx, (List.dropLast_concat_getLast hx).symm⟩
        refine ⟨fun σ H' => σ = [some (.ref c), some (.int m), some (.ref l), none, none, none] ∧ ∃ a b t, SrcH c l ys a b t H' ∧ ∀ b, b ≠ c → b ≠ l → H' b = H b, ?_, ?_⟩
        · rintro σ' H' ⟨rfl, a', b', t', h', f'⟩
          exact ⟨ys.length, by simp, rfl, ys, a', b', t', rfl, h', f'⟩
        · refine ⟨.ref l, rfl, .inl ⟨rfl, _, SqL.of h1.l⟩, l, _, .int y, rfl, rfl, h1.l, by simp, ?_⟩
          have h2 := h1.pop hne (ys := ys)
          have e : ((ys ++ [y]).map V.int).dropLast = ys.map V.int := by simp
          rw [e]
          refine ⟨.ref c, rfl, c, _, rfl, h2.pl (v := y), ?_⟩
          exact ⟨rfl, _, _, _, h2.new hne, fr (frl f1)⟩
      · refine ⟨.ref c, rfl, c, _, rfl, h1.gl, ?_⟩
        dsimp only [gName, tSeq, tIfS]
        refine ⟨.int a, rfl, a, 1, rfl, rfl, _, rfl, ite2 (fun z => ?_) (fun z => ?_)⟩
        · refine ⟨.int a, rfl, .int m, rfl, a, m, rfl, rfl, hn a, .ref c, rfl, c, _, rfl, h1.pl, ?_⟩
          refine ⟨.int a, rfl, .inl ⟨a, rfl, .int m, rfl, a, m, rfl, rfl, by omega, q _ ?_ ?_ _ (drw (h1.new hne) (fr f1))⟩⟩
          · exact Int.emod_nonneg _ (by omega)
          · exact Int.emod_lt_of_pos _ (by omega)
        · have h2 := h1.new hne (a := a) (b := b) (t := t + 1)
          refine ⟨.ref c, rfl, c, _, rfl, h1.gt, t, 1, rfl, rfl, .ref c, rfl, c, _, rfl, h1.pt, ?_⟩
          refine ⟨.ref c, rfl, c, _, rfl, h2.gt, ?_⟩
          refine ⟨.ref c, rfl, c, _, rfl, h2.gm, .int (t + 1), rfl, t + 1, 104729, rfl, rfl, .inr ⟨by decide, by decide⟩, b, _, rfl, rfl, .inl ⟨_, rfl, _, 998244353, rfl, rfl, (by decide : (0 : Int) < 998244353), ?_⟩⟩
          have k1 := Int.emod_nonneg (b + (t + 1) * 104729) (show (998244353 : Int) ≠ 0 by decide)
          have k2 := Int.emod_lt_of_pos (b + (t + 1) * 104729) (show (0 : Int) < 998244353 by decide)
          dsimp only [gName]
          generalize (b + (t + 1) * 104729) % 998244353 = M at k1 k2 ⊢
          refine ⟨.int M, rfl, .int M, rfl, M, M, rfl, rfl, .inl ⟨by omega, by omega⟩, .int (t + 1), rfl, t + 1, 17, rfl, rfl, .inr ⟨by decide, by decide⟩, _, _, rfl, rfl, .inl ⟨_, rfl, _, 2147483647, rfl, rfl, (by decide : (0 : Int) < 2147483647), ?_⟩⟩
          dsimp only [gName]
          generalize (M * M + (t + 1) * 17) % 2147483647 = M2
          refine ⟨.int M2, rfl, M2, 16, rfl, rfl, ⟨by decide, by decide⟩, .inl ⟨_, rfl, .int m, rfl, _, m, rfl, rfl, by omega, q _ ?_ ?_ _ (drw h2 (fr f1))⟩⟩
          · exact Int.emod_nonneg _ (by omega)
          · exact Int.emod_lt_of_pos (M2.fdiv 16) (show (0 : Int) < m by omega)
def sourceN : List Str := ["script", "stirred", "cell", "cells"]
abbrev sSource : PySem.Stmt := topS 6
theorem scSource : fsB sourceN (sourceN.take 1) (defScope sSource) = true := by decide +kernel
def lcScope (st : PySem.Stmt) (i : Nat) : Scope := match (defBody st).getD i (.Pass ⟨0, 0, 0, 0⟩) with
  | .Assign _ (.ListComp _ _ sc _) _ => sc
  | _ => defScope st
theorem lcSource : blkC sourceN (defScope sSource) (lcScope sSource 2) [("cell", 2)] = true := by decide +kernel
/-- {'cells': cells[::-1], 'left': 1, 'mixed': x, 'turn': 0} -/
theorem disp_okB {K : PySem.W.Frag} {d : Addr} {ys : List Int} {σ : L2.St} {H0 H : Hp} {Q : VK} {x : Int} {j i : Nat} (hj : σ[j]? = some (some (.ref d))) (hx : σ[i]? = some (some (.int x))) (hS : H d = some (.lst (ys.map V.int))) (sm : Same H0 H)
    (q : ∀ c l H', c ≠ l → H0 c = none → H0 l = none → Same H0 H' → SrcI c l H' → Q (.ref c) H') :
    tDisp [(tC (.str "cells"), tRevL K (tVar j)), (tC (.str "left"), tC (.int 1)), (tC (.str "mixed"), tVar i), (tC (.str "turn"), tC (.int 0))] σ H Q := by
  intro p hp
  dsimp only [tPairs, tRevL, tC]
  have hpd : p ≠ d := fun e => by rw [e, hS] at hp; cases hp
  refine ⟨.ref d, hj, d, ys.map V.int, rfl, SqL.of (by rw [upd_ne (Ne.symm hpd)]; exact hS), fun p2 hp2 => ?_⟩
  have hpp2 : p ≠ p2 := fun e => by rw [← e, upd_same] at hp2; cases hp2
  have hp2H : H p2 = none := by rw [upd_ne (Ne.symm hpp2)] at hp2; exact hp2
  refine ⟨.int x, hx, ?_, srcKV p2 1 x 0, rfl, by show 4 ≤ 15; decide, ?_⟩
  · rw [upd_ne hpp2, upd_same]
  · refine q p p2 _ hpp2 (sm.free hp) (sm.free hp2H) (fun b o e => ?_) ⟨ys.reverse, 1, x, 0, upd_same, ?_⟩
    · have e := sm b o e
      rw [upd_ne (ne_of_none e hp), upd_ne (ne_of_none e hp2H), upd_ne (ne_of_none e hp)]; exact e
    · rw [upd_ne (Ne.symm hpp2), upd_same, List.map_reverse]
theorem ok_source {f : Addr} {fd : FuncData} {k : Nat} (F : Fun K "_law_open_cells" "_law_open_cells" sSource f fd) (hb : ∀ x ∈ bltNames, mg x = none) : FnOk P w K mg base CX0 (k + 1) f fd ["script"] (spSource K) := by
  refine F.ok (fsB_ok scSource) (fun vs H Q E h => ?_) (fun cdv A outer s H vs Q E hr h => ?_)
  · obtain ⟨a, ns, rfl, _⟩ := h
    rfl
  · obtain ⟨a, ns, rfl, hl, hS, q⟩ := h
    have hu := hu_of hr
    have nd : sourceN.Nodup := (fsB_ok scSource).nd
    have mi : mg "int" = none := hb _ (by simp [bltNames])
    have ma : mg "abs" = none := hb _ (by simp [bltNames])
    refine ⟨_, pss_cons (ps_set (i := 1) nd rfl (.inl rfl) pe_int)
      (pss_cons (ps_for PassesOwn.never rfl (pi_list (pv 0)) (pg_name (i := 2) nd rfl (.inl rfl))
        (pss_one (ps_set (i := 1) nd rfl (.inl rfl) (pe_op op_mod (pe_callTy call_int1 (by rfl) mi (by decide +kernel) (pa_cons (pe_op op_add (pe_op op_add (pe_op op_mul (pv 1) pe_int) (pe_op op_mul (pv 2) pe_int)) pe_int) pa_nil)) pe_int))))
      (pss_cons (ps_setLc (i := 3) rfl nd rfl rfl (by rfl) (pi_list (pv 0)) (blkOk_by (N := sourceN) lcSource) (fun _ _ _ _ _ => pg_name (i := 2) nd rfl (.inl rfl)) (fun _ _ _ _ _ => pts_nil) (fun _ _ _ _ _ => pe_callB call_abs (by rfl) ma (by decide +kernel) (pa_cons (pv 2) pa_nil)))
      (pss_one (ps_ret (pe_disp (pps_cons pe_str (pe_revL (pv 3)) (pps_cons pe_str pe_int (pps_cons pe_str (pv 1) (pps_cons pe_str pe_int pps_nil)))) rfl rfl (by decide) (by decide)))))), ?_⟩
    refine ⟨.ref a, rfl, a, rfl, ⟨_, hS⟩, fun i m σ H' => i ≤ ns.length ∧ m = ns.length - i ∧ H' = H ∧ ∃ x y, σ = [some (.ref a), some (.int x), y, none], ⟨_, Nat.zero_le _, rfl, rfl, 11, none, rfl⟩, ?_⟩
    rintro i m σ H' ⟨hi, rfl, rfl, x, y, rfl⟩
    by_cases h : i < ns.length
    · right
      have g : (ns.map V.int)[i]? = some (.int ns[i]) := by rw [List.getElem?_map, List.getElem?_eq_getElem h]; rfl
      refine ⟨⟨_, _, hS, g⟩, fun σ H1 => H1 = H' ∧ ∃ x y, σ = [some (.ref a), some (.int x), y, none], ?_, ?_⟩
      · rintro σ' H1 ⟨rfl, x, y, rfl⟩
        exact ⟨ns.length - (i + 1), by omega, h, rfl, rfl, x, y, rfl⟩
      · rintro v H1 ⟨rfl, hv⟩
        have ev : v = .int ns[i] := Option.some.inj ((hv _ hS).symm.trans g)
        subst ev
        exact ⟨.int x, rfl, x, 69069, rfl, rfl, .inr ⟨by decide, by decide⟩, .int ns[i], rfl, ns[i], 31, rfl, rfl, .inr ⟨by decide, by decide⟩, _, _, rfl, rfl, _, 5, rfl, rfl, .inl ⟨_, rfl, _, 2147483629, rfl, rfl, (by decide : (0 : Int) < 2147483629), rfl, _, _, rfl⟩⟩
    · left
      refine ⟨⟨_, hS, by rw [List.length_map]; omega⟩, ?_⟩
      dsimp only [tSeq, tAsg]
      refine abs_lc (i := 0) (j := 2) (σ := [some (.ref a), some (.int x), y, none]) (by decide) rfl (by simp) hS hl fun d hd => ?_
      exact disp_okB (j := 3) (i := 1) rfl rfl upd_same (Same.upd hd) q
def mixedN : List Str := ["source", "things", "others", "lap"]
abbrev sMixed : PySem.Stmt := topS 8
theorem scMixed : fsB mixedN (mixedN.take 2) (defScope sMixed) = true := by decide +kernel
def lcScope2 (st : PySem.Stmt) (i : Nat) : Scope := match (defBody st).getD i (.Pass ⟨0, 0, 0, 0⟩) with
  | .Return (some (.ListComp _ _ sc _)) _ => sc
  | _ => defScope st
def lcElt (st : PySem.Stmt) (i : Nat) : PySem.Expr := match (defBody st).getD i (.Pass ⟨0, 0, 0, 0⟩) with
  | .Return (some (.ListComp e _ _ _)) _ => e
  | _ => .Name "x" ⟨0, 0, 0, 0⟩
theorem lcMixed : blkC mixedN (defScope sMixed) (lcScope2 sMixed 1) [("lap", 3)] = true := by decide +kernel
theorem ok_mixed {f f1 : Addr} {fd fd1 : FuncData} {k : Nat} (F : Fun K "_law_any_order" "_law_any_order" sMixed f fd) (hb : ∀ x ∈ bltNames, mg x = none) (F1 : Fun K "_law_pick" "_law_pick" sPick f1 fd1) (b1 : Binds K fd1 ["source", "most"] []) (g1 : mg "_law_pick" = some (.ref f1)) : FnOk P w K mg base CX0 (k + 2) f fd ["source", "things"] spMixed := by
  have G1 : FnOk P w K mg base CX0 (k + 1) f1 fd1 ["source", "most"] spPick := ok_pick F1 hb
  refine F.ok (fsB_ok scMixed) (fun vs H Q E h => ?_) (fun cdv A outer s H vs Q E hr h => ?_)
  · obtain ⟨c, l, a, xs, _, _, _, rfl, _⟩ := h
    rfl
  · obtain ⟨c, l, a, xs, hne, hac, hal, rfl, hS, ha, hlen, q⟩ := h
    have hu := hu_of hr
    have nd : mixedN.Nodup := (fsB_ok scMixed).nd
    have ml : mg "len" = none := hb _ (by simp [bltNames])
    have mr : mg "range" = none := hb _ (by simp [bltNames])
    have mls : mg "list" = none := hb _ (by simp [bltNames])
    have el : ∀ s1 H1 C1 cl1 fp1, PE ((cxOf CX0 P w K mg base mixedN "_law_any_order" (defScope sMixed) f cdv A outer s H E).nox.blk s1 H1 (lcScope2 sMixed 1) (compEnvC (lcScope2 sMixed 1) cl1 C1 (cxOf CX0 P w K mg base mixedN "_law_any_order" (defScope sMixed) f cdv A outer s H E).nox.env) fp1) (lcElt sMixed 1)
        (tBM K "list" rPopAt (tVar 2) (tCons (tCall spPick [] E0 (tCons (tVar 0) (tCons (tCB (fun xs H Q => ∃ p ys, xs = [.ref p] ∧ (SqL K H p ys ∨ SqT K H p ys) ∧ Q (.int ys.length) H) (tCons (tVar 2) tNil)) tNil))) tNil)) := fun s1 H1 C1 cl1 fp1 =>
      pe_bm PySem.F.plainAttrs_list PySem.F.slot_list_pop PySem.F.type_list_pop mt_popAt (pv 2) (pa_cons (pe_call G1 hr (by rfl) g1 F1.kp b1 .nil pass0 (pa_cons (pv 0) (pa_cons (pe_callB call_len_seq (by rfl) ml PySem.boot_len (pa_cons (pv 2) pa_nil)) pa_nil))) pa_nil)
    refine ⟨_, pss_cons (ps_set (i := 2) nd rfl (.inr rfl) (pe_callTy call_list_of (by rfl) mls (by decide +kernel) (pa_cons (pv 1) pa_nil)))
      (pss_one (ps_ret (pe_lc rfl nd (pi_range1 (by rfl) mr (pa_cons (pe_callB call_len_seq (by rfl) ml PySem.boot_len (pa_cons (pv 2) pa_nil)) pa_nil)) (blkOk_by (N := mixedN) lcMixed) (fun _ _ _ _ _ => pg_name (i := 3) nd rfl (.inl rfl)) (fun _ _ _ _ _ => pts_nil)
        el))), ?_⟩
    refine ⟨.ref a, rfl, a, xs, rfl, .inl (SqL.of ha), fun r hr => ?_⟩
    obtain ⟨xs0, a0, b0, t0, h0⟩ := hS
    have rc : r ≠ c := fun e => by rw [e, h0.d] at hr; cases hr
    have rl : r ≠ l := fun e => by rw [e, h0.l] at hr; cases hr
    have z1 : (1000 : Nat) < sizeLine := by decide
    refine ⟨.ref r, rfl, r, xs, rfl, .inl (SqL.of upd_same), xs.length, rfl, by omega, by omega, fun D hD => ?_⟩
    have Dr : D ≠ r := fun e => by rw [e, upd_same] at hD; cases hD
    have hDH : H D = none := by rw [upd_ne Dr] at hD; exact hD
    have Dc : D ≠ c := fun e => by rw [e, h0.d] at hDH; cases hDH
    have Dl : D ≠ l := fun e => by rw [e, h0.l] at hDH; cases hDH
    refine ⟨fun i m H' => ∃ acc rem, i ≤ xs.length ∧ m = xs.length - i ∧ H' D = some (.lst acc) ∧ H' r = some (.lst rem) ∧ acc.length = i ∧ rem.length = xs.length - i ∧ (acc ++ rem).Perm xs ∧ SrcI c l H' ∧ ∀ b o, b ≠ c → b ≠ l → H b = some o → H' b = some o,
      ⟨_, [], xs, Nat.zero_le _, rfl, upd_same, by rw [upd_ne (Ne.symm Dr), upd_same], rfl, by simp, .refl _, ⟨xs0, a0, b0, t0, ?_, ?_⟩, fun b o _ _ e => ?_⟩, ?_⟩
    · rw [upd_ne (Ne.symm Dc), upd_ne (Ne.symm rc)]; exact h0.d
    · rw [upd_ne (Ne.symm Dl), upd_ne (Ne.symm rl)]; exact h0.l
    · rw [upd_ne (ne_of_none e hDH), upd_ne (ne_of_none e hr)]; exact e
    rintro i m H1 ⟨acc, rem, hi, rfl, hA, hR, la, lr, hp, hS, hx⟩
    by_cases h : i < xs.length
    · right
      refine ⟨by show i < ((xs.length : Int)).toNat; omega, fun H' => ∃ acc rem, H' D = some (.lst acc) ∧ H' r = some (.lst rem) ∧ acc.length = i + 1 ∧ rem.length = xs.length - (i + 1) ∧ (acc ++ rem).Perm xs ∧ SrcI c l H' ∧ ∀ b o, b ≠ c → b ≠ l → H b = some o → H' b = some o, ?_, ?_⟩
      · rintro H' ⟨acc, rem, q1, q2, q3, q4, q5, q6, q7⟩
        exact ⟨xs.length - (i + 1), by omega, acc, rem, h, rfl, q1, q2, q3, q4, q5, q6, q7⟩
      · rintro x H2 ⟨rfl, rfl⟩
        refine ⟨rfl, ?_⟩
        dsimp only [tYes]
        refine ite2 (fun _ => ?_) (fun z => absurd rfl z)
        refine ⟨.ref r, rfl, tyV_list hR, .ref c, rfl, .ref r, rfl, r, rem, rfl, .inl (SqL.of hR), c, l, _, hne, rfl, by omega, hS, fun j j1 j2 H4 dr => ?_⟩
        have j3 : j < rem.length := by omega
        obtain ⟨k, rfl⟩ := Int.eq_ofNat_of_zero_le j1
        have k3 : k < rem.length := by omega
        have hR4 : H4 r = some (.lst rem) := by rw [dr.2 r rc rl]; exact hR
        have hA4 : H4 D = some (.lst acc) := by rw [dr.2 D Dc Dl]; exact hA
        refine ⟨r, rem, k, k, rem[k], rfl, rfl, hR4, by omega, by omega, ?_, List.getElem?_eq_getElem k3, ?_⟩
        · have := seqIndex_of (k := (k : Int)) (n := rem.length) (by omega) (by omega)
          rwa [Int.toNat_natCast] at this
        · have pe : (rem[k] :: rem.eraseIdx k).Perm rem := erase_perm k3
          obtain ⟨xs1, a1, b1, t1, h1⟩ := dr.1
          refine ⟨acc, by rw [upd_ne Dr]; exact hA4, by omega, acc ++ [rem[k]], rem.eraseIdx k, upd_same, by rw [upd_ne (Ne.symm Dr), upd_same], by simp [la], ?_, ?_, ⟨xs1, a1, b1, t1, ?_, ?_⟩, fun b o n1 n2 e => ?_⟩
          · rw [List.length_eraseIdx, if_pos k3]; omega
          · rw [List.append_assoc]
            exact ((List.Perm.append_left acc pe).trans hp)
          · rw [upd_ne (Ne.symm Dc), upd_ne (Ne.symm rc)]; exact h1.d
          · rw [upd_ne (Ne.symm Dl), upd_ne (Ne.symm rl)]; exact h1.l
          · rw [upd_ne (ne_of_none e hDH), upd_ne (ne_of_none e hr), dr.2 b n1 n2]; exact hx b o n1 n2 e
    · left
      refine ⟨by show ((xs.length : Int)).toNat ≤ i; omega, ?_⟩
      have : rem = [] := List.eq_nil_of_length_eq_zero (by omega)
      subst this
      rw [List.append_nil] at hp
      exact q acc D H1 hp hDH hA hS hx
end
end PD
set_option maxHeartbeats 4000000
/-! K49b: the compact forms of the defs. -/
namespace PD
open PySem L2
def b0 : Ss := (.cons (.ret (.prim .tuple (.cons (.lc [2] (.v 2) (.rng (.yes (.cst (.int 1))) (.prim .len (.cons (.var 1) .nil))) (.yes (.e (.cmp .nin (.tup (.cons (.idx (.var 1) (.bin .sub (.var 2) (.cst (.int 1)))) (.cons (.idx (.var 1) (.var 2)) .nil))) (.idx (.var 0) (.cst (.int 1)))))) (.var 2)) .nil))) .nil)
/-- jump_places: 0:order 1:works 2:k -/
def r0 : Row := ⟨"jump_places", topS 1, ["order", "works", "k"], .code 2 3 b0⟩
def b1 : Ss := (.cons (.set false 2 (.lst (.cons (.cst (.int 0)) (.star (.call 0 (.cons (.var 0) (.cons (.var 1) .nil))) (.cons (.prim .len (.cons (.var 1) .nil)) .nil))))) (.cons (.ret (.prim .tuple (.cons (.lc [3, 4] (.tup [(.v 3), (.v 4)]) (.zip (.var 2) (.slc (.var 2) (.yes (.cst (.int 1))) .no)) .no (.slc (.var 1) (.yes (.var 3)) (.yes (.var 4)))) .nil))) .nil))
/-- runs_of: 0:order 1:works 2:ends 3:early 4:late -/
def r1 : Row := ⟨"runs_of", topS 2, ["order", "works", "ends", "early", "late"], .code 2 5 b1⟩
def b2 : Ss := (.cons (.ret (.lc [2] (.v 2) (.val (.var 1)) (.yes (.not (.e (.prim .any (.cons (.lc [3] (.v 3) (.val (.var 1)) .no (.cmp .inn (.tup (.cons (.var 3) (.cons (.var 2) .nil))) (.idx (.var 0) (.cst (.int 1))))) .nil))))) (.var 2))) .nil)
/-- free_works: 0:order 1:left 2:work 3:other -/
def r2 : Row := ⟨"free_works", topS 3, ["order", "left", "work", "other"], .code 2 4 b2⟩
def b3_0 : Ss := (.cons (.ite (.e (.prim .any (.cons (.lc [3] (.v 3) (.val (.call 2 (.cons (.var 0) (.cons (.slc (.var 1) (.yes (.var 2)) .no) .nil)))) .no (.cmp .inn (.tup (.cons (.idx (.var 1) (.bin .sub (.var 2) (.cst (.int 1)))) (.cons (.var 3) .nil))) (.idx (.var 0) (.cst (.int 1))))) .nil))) (.cons (.ret (.cst (.bool false))) .nil) .nil) .nil)
def b3 : Ss := (.cons (.for_ (.v 2) (.val (.call 0 (.cons (.var 0) (.cons (.var 1) .nil)))) b3_0) (.cons (.ret (.cst (.bool true))) .nil))
/-- is_greedy: 0:order 1:works 2:k 3:work -/
def r3 : Row := ⟨"is_greedy", topS 4, ["order", "works", "k", "work"], .code 2 4 b3⟩
def r4 : Row := ⟨"_law_pick", topS 7, ["source", "most", "cells", "others", "lap", "stirred"], .ext 2 semPick⟩
def r5 : Row := ⟨"_law_any_order", topS 8, ["source", "things", "others", "lap"], .ext 2 semMixed⟩
def b6 : Ss := (.cons (.ret (.idx (.var 1) (.call 4 (.cons (.var 0) (.cons (.prim .len (.cons (.var 1) .nil)) .nil))))) .nil)
/-- _law_of: 0:source 1:some -/
def r6 : Row := ⟨"_law_of", topS 9, ["source", "some"], .code 2 2 b6⟩
def b7_0 : Ss := (.cons (.seti 2 (.tup (.cons (.var 4) (.cons (.var 5) .nil))) (.cst (.int 0))) .nil)
def b7_1 : Ss := (.cons (.ite (.and (.e (.cmp .inn (.tup (.cons (.var 4) (.cons (.var 3) .nil))) (.var 2))) (.e (.cmp .inn (.tup (.cons (.var 3) (.cons (.var 5) .nil))) (.var 2)))) b7_0 .nil) .nil)
def b7_2 : Ss := (.cons (.for_ (.v 4) (.rng .no (.var 0)) (.cons (.for_ (.v 5) (.rng .no (.var 0)) b7_1) .nil)) .nil)
def b7 : Ss := (.cons (.set true 2 (.prim .dictOf (.cons (.lc [6] (.v 6) (.val (.var 1)) .no (.tup (.cons (.var 6) (.cons (.cst (.int 0)) .nil)))) .nil))) (.cons (.for_ (.v 3) (.rng .no (.var 0)) b7_2) (.cons (.ret (.tup (.cons (.var 0) (.cons (.prim .tuple (.cons (.prim .sorted (.cons (.var 2) .nil)) .nil)) .nil)))) .nil)))
/-- _law_closed: 0:n 1:pairs 2:found 3:k 4:a 5:b 6:pair -/
def r7 : Row := ⟨"_law_closed", topS 10, ["n", "pairs", "found", "k", "a", "b", "pair"], .code 2 7 b7⟩
def b8_0 : Ss := (.cons (.set false 10 (.and (.cmp .eq (.bin .mod (.prim .int (.cons (.bin .sub (.var 3) (.var 9)) .nil)) (.cst (.int 2))) (.cst (.int 0))) (.cmp .gt (.call 4 (.cons (.var 0) (.cons (.cst (.int 4)) .nil))) (.cst (.int 0))))) .nil)
def b8_1 : Ss := (.cons (.set false 10 (.and (.chain .lt .le (.var 9) (.bin .fdiv (.var 4) (.cst (.int 2))) (.var 3)) (.and (.cmp .ne (.bin .sub (.var 3) (.var 9)) (.bin .fdiv (.var 4) (.cst (.int 2)))) (.cmp .gt (.call 4 (.cons (.var 0) (.cons (.cst (.int 8)) .nil))) (.cst (.int 0)))))) .nil)
def b8_2 : Ss := (.cons (.set false 8 (.bin .add (.var 8) (.bin .mul (.lst (.cons (.tup (.cons (.idx (.var 7) (.var 9)) (.cons (.idx (.var 7) (.var 3)) .nil))) .nil)) (.prim .int (.cons (.var 10) .nil))))) .nil)
def b8_3 : Ss := (.cons (.ite (.e (.cmp .eq (.var 5) (.cst (.int 2)))) b8_1 .nil) b8_2)
def b8_4 : Ss := (.cons (.set false 10 (.cmp .eq (.call 4 (.cons (.var 0) (.cons (.var 6) .nil))) (.cst (.int 0)))) (.cons (.ite (.e (.cmp .eq (.var 5) (.cst (.int 1)))) b8_0 .nil) b8_3))
def b8 : Ss := (.cons (.par [(false, 4), (false, 5), (false, 6)] (.cons (.bin .add (.var 1) (.call 4 (.cons (.var 0) (.cons (.bin .add (.bin .sub (.var 2) (.var 1)) (.cst (.int 1))) .nil)))) (.cons (.call 4 (.cons (.var 0) (.cons (.cst (.int 4)) .nil))) (.cons (.bin .add (.cst (.int 2)) (.call 4 (.cons (.var 0) (.cons (.cst (.int 5)) .nil)))) .nil)))) (.cons (.par [(false, 7), (false, 8)] (.cons (.call 5 (.cons (.var 0) (.cons (.rg false .no (.var 4)) .nil))) (.cons (.lst .nil) .nil))) (.cons (.for_ (.v 3) (.rng .no (.var 4)) (.cons (.for_ (.v 9) (.rng .no (.var 3)) b8_4) .nil)) (.cons (.ret (.call 7 (.cons (.var 4) (.cons (.var 8) .nil)))) .nil))))
/-- _law_order: 0:source 1:least 2:most 3:j 4:n 5:way 6:share 7:names 8:pairs 9:i 10:is_one -/
def r8 : Row := ⟨"_law_order", topS 11, ["source", "least", "most", "j", "n", "way", "share", "names", "pairs", "i", "is_one"], .code 3 11 b8⟩
def b9_0 : Ss := (.cons (.app 3 (.call 6 (.cons (.var 0) (.cons (.var 6) .nil)))) .nil)
def b9_1 : Ss := (.cons (.set false 5 (.lc [7] (.v 7) (.rng .no (.idx (.var 1) (.cst (.int 0)))) (.yes (.e (.cmp .nin (.var 7) (.var 3)))) (.var 7))) (.cons (.set false 6 (.lc [7] (.v 7) (.val (.var 5)) (.yes (.e (.cmp .eq (.lc [8, 9] (.tup [(.v 8), (.v 9)]) (.val (.var 4)) (.yes (.and (.e (.cmp .eq (.var 9) (.var 7))) (.e (.cmp .inn (.var 8) (.var 5))))) (.cst (.int 1))) (.lst .nil)))) (.var 7))) (.cons (.ite (.e (.cmp .eq (.var 6) (.lst .nil))) (.cons (.ret (.cst .none)) .nil) .nil) b9_0)))
def b9 : Ss := (.cons (.par [(true, 3), (false, 4)] (.cons (.lst .nil) (.cons (.bin .add (.prim .list (.cons (.idx (.var 1) (.cst (.int 1))) .nil)) (.prim .list (.cons (.var 2) .nil))) .nil))) (.cons (.whl (.e (.cmp .lt (.prim .len (.cons (.var 3) .nil)) (.idx (.var 1) (.cst (.int 0))))) b9_1) (.cons (.ret (.prim .tuple (.cons (.var 3) .nil))) .nil)))
/-- _law_drawn_list: 0:source 1:order 2:more 3:found 4:waits 5:left 6:some 7:work 8:a 9:b -/
def r9 : Row := ⟨"_law_drawn_list", topS 12, ["source", "order", "more", "found", "waits", "left", "some", "work", "a", "b"], .code 3 10 b9⟩
def b10_0 : Ss := (.cons (.set false 3 (.slc (.var 1) (.yes (.var 2)) .no)) (.cons (.set false 4 (.lc [6] (.v 6) (.val (.var 3)) (.yes (.e (.cmp .eq (.lc [7] (.v 7) (.val (.var 3)) (.yes (.e (.cmp .inn (.tup (.cons (.var 7) (.cons (.var 6) .nil))) (.idx (.var 0) (.cst (.int 1)))))) (.cst (.int 1))) (.lst .nil)))) (.var 6))) (.cons (.set false 5 (.lc [6] (.v 6) (.val (.var 4)) (.yes (.e (.cmp .inn (.tup (.cons (.idx (.var 1) (.bin .sub (.var 2) (.cst (.int 1)))) (.cons (.var 6) .nil))) (.idx (.var 0) (.cst (.int 1)))))) (.var 6))) (.cons (.ite (.and (.e (.cmp .nin (.tup (.cons (.idx (.var 1) (.bin .sub (.var 2) (.cst (.int 1)))) (.cons (.idx (.var 1) (.var 2)) .nil))) (.idx (.var 0) (.cst (.int 1))))) (.e (.cmp .ne (.var 5) (.lst .nil)))) (.cons (.ret (.cst (.bool false))) .nil) .nil) .nil))))
def b10 : Ss := (.cons (.for_ (.v 2) (.rng (.yes (.cst (.int 1))) (.prim .len (.cons (.var 1) .nil))) b10_0) (.cons (.ret (.cst (.bool true))) .nil))
/-- _law_is_greedy: 0:order 1:works 2:k 3:rest 4:free 5:behind 6:work 7:other -/
def r10 : Row := ⟨"_law_is_greedy", topS 13, ["order", "works", "k", "rest", "free", "behind", "work", "other"], .code 2 8 b10⟩
def b11_0 : Ss := (.cons (.seti 2 (.neg (.cst (.int 1))) (.bin .add (.idx (.var 2) (.neg (.cst (.int 1)))) (.tup (.cons (.var 4) .nil)))) .nil)
def b11_1 : Ss := (.cons (.ite (.e (.cmp .inn (.tup (.cons (.var 3) (.cons (.var 4) .nil))) (.idx (.var 0) (.cst (.int 1))))) b11_0 (.cons (.app 2 (.tup (.cons (.var 4) .nil))) .nil)) .nil)
def b11 : Ss := (.cons (.set true 2 (.lst (.cons (.slc (.var 1) .no (.yes (.cst (.int 1)))) .nil))) (.cons (.for_ (.tup [(.v 3), (.v 4)]) (.zip (.var 1) (.slc (.var 1) (.yes (.cst (.int 1))) .no)) b11_1) (.cons (.ret (.prim .tuple (.cons (.var 2) .nil))) .nil)))
/-- _law_runs: 0:order 1:works 2:found 3:one 4:other -/
def r11 : Row := ⟨"_law_runs", topS 14, ["order", "works", "found", "one", "other"], .code 2 5 b11⟩
def b12_0 : Ss := (.cons (.set false 4 (.lc [6] (.v 6) (.val (.var 3)) (.yes (.e (.cmp .eq (.lc [7] (.v 7) (.val (.var 3)) (.yes (.e (.cmp .inn (.tup (.cons (.var 7) (.cons (.var 6) .nil))) (.idx (.var 1) (.cst (.int 1)))))) (.cst (.int 1))) (.lst .nil)))) (.var 6))) (.cons (.set false 5 (.lc [6] (.v 6) (.val (.var 4)) (.yes (.and (.e (.cmp .ne (.var 2) (.tup .nil))) (.e (.cmp .inn (.tup (.cons (.idx (.var 2) (.neg (.cst (.int 1)))) (.cons (.var 6) .nil))) (.idx (.var 1) (.cst (.int 1))))))) (.var 6))) (.cons (.set false 2 (.bin .add (.var 2) (.tup (.cons (.call 6 (.cons (.var 0) (.cons (.ife (.e (.cmp .ne (.var 5) (.lst .nil))) (.var 5) (.var 4)) .nil))) .nil)))) (.cons (.set false 3 (.lc [6] (.v 6) (.val (.var 3)) (.yes (.e (.cmp .ne (.var 6) (.idx (.var 2) (.neg (.cst (.int 1))))))) (.var 6))) .nil))))
def b12 : Ss := (.cons (.par [(false, 2), (false, 3)] (.cons (.tup .nil) (.cons (.rg false .no (.idx (.var 1) (.cst (.int 0)))) .nil))) (.cons (.whl (.e (.cmp .ne (.var 3) (.lst .nil))) b12_0) (.cons (.ret (.var 2)) .nil)))
/-- _law_climbing: 0:source 1:order 2:found 3:left 4:free 5:some 6:work 7:other -/
def r12 : Row := ⟨"_law_climbing", topS 15, ["source", "order", "found", "left", "free", "some", "work", "other"], .code 2 8 b12⟩
def rows : List Row := [r0, r1, r2, r3, r4, r5, r6, r7, r8, r9, r10, r11, r12]
def lawN : List Str := ["script", "source", "lap", "order", "works", "shown", "some", "due", "told", "turn", "k"]
/-- law: 0:script 1:source 2:lap 3:order 4:works 5:shown 6:some 7:due 8:told 9:turn 10:k -/
def lawB_0 : Ss := (.cons (.set false 7 (.prim .tuple (.cons (.lc [10] (.v 10) (.rng (.yes (.cst (.int 1))) (.prim .len (.cons (.var 4) .nil))) (.yes (.e (.cmp .nin (.tup (.cons (.idx (.var 4) (.bin .sub (.var 10) (.cst (.int 1)))) (.cons (.idx (.var 4) (.var 10)) .nil))) (.idx (.var 3) (.cst (.int 1)))))) (.var 10)) .nil))) (.cons (.set false 8 (.lst (.cons (.call 0 (.cons (.var 3) (.cons (.var 4) .nil))) (.cons (.call 1 (.cons (.var 3) (.cons (.var 4) .nil))) (.cons (.call 3 (.cons (.var 3) (.cons (.var 4) .nil))) .nil))))) (.cons (.ite (.e (.cmp .ne (.prim .repr (.cons (.var 8) .nil)) (.prim .repr (.cons (.lst (.cons (.var 7) (.cons (.call 11 (.cons (.var 3) (.cons (.var 4) .nil))) (.cons (.call 10 (.cons (.var 3) (.cons (.var 4) .nil))) .nil)))) .nil)))) (.cons (.ret (.cst (.bool false))) .nil) .nil) .nil)))
def lawB_1 : Ss := (.cons (.set false 3 (.call 8 (.cons (.var 1) (.cons (.cst (.int 1)) (.cons (.idx (.lst (.cons (.cst (.int 3)) (.cons (.cst (.int 5)) (.cons (.cst (.int 8)) (.cons (.cst (.int 10)) .nil))))) (.var 2)) .nil))))) (.cons (.par [(false, 5), (false, 6)] (.cons (.prim .repr (.cons (.var 3) .nil)) (.cons (.lc [9] (.v 9) (.rng .no (.cst (.int 3))) .no (.call 9 (.cons (.var 1) (.cons (.var 3) (.cons (.tup .nil) .nil))))) .nil))) (.cons (.for_ (.v 4) (.val (.bin .add (.var 6) (.lst (.cons (.call 12 (.cons (.var 1) (.cons (.var 3) .nil))) .nil)))) lawB_0) (.cons (.ite (.or (.e (.cmp .isn (.call 3 (.cons (.var 3) (.cons (.call 12 (.cons (.var 1) (.cons (.var 3) .nil))) .nil))) (.cst (.bool true)))) (.e (.cmp .ne (.prim .repr (.cons (.var 3) .nil)) (.var 5)))) (.cons (.ret (.cst (.bool false))) .nil) .nil) .nil))))
def lawB : Ss := (.cons (.for_ (.v 2) (.rng .no (.cst (.int 4))) lawB_1) (.cons (.ret (.cmp .is (.call 3 (.cons (.tup (.cons (.cst (.int 4)) (.cons (.tup (.cons (.tup (.cons (.cst (.int 0)) (.cons (.cst (.int 2)) .nil))) (.cons (.tup (.cons (.cst (.int 0)) (.cons (.cst (.int 3)) .nil))) (.cons (.tup (.cons (.cst (.int 1)) (.cons (.cst (.int 3)) .nil))) .nil)))) .nil))) (.cons (.tup (.cons (.cst (.int 0)) (.cons (.cst (.int 1)) (.cons (.cst (.int 2)) (.cons (.cst (.int 3)) .nil))))) .nil))) (.cst (.bool false)))) .nil))
/-- law at 16, _law_open_cells at 6 -/
theorem rows_ok : rows.all (chkRow (tabOf rows)) = true := by decide +kernel
def restOf : List PySem.Stmt → List PySem.Stmt
  | _ :: r => r
  | [] => []
theorem law_ok : (fsB lawN (lawN.take 1) (defScope (topS 16)) && chkSs lawN (tabOf rows) (defScope (topS 16)) lawB (restOf (defBody (topS 16)))) = true := by decide +kernel
section
open PySem.Spec PyProof.Rows
variable {P : Program} {w : World} {K : PySem.W.Frag} {mg : Str → Option Value} {base : Heap}
theorem pick_fn {k f : Nat} {C : Calls} {a : Addr} {fd : FuncData} (F : Fun K "_law_pick" "_law_pick" sPick a fd) (hb : ∀ x ∈ bltNames, mg x = none) (len : ∀ (vs : List V) (H : Hp) (Q : VK) (E : XK), spC C f vs H Q E → vs.length = 2) (hC : ∀ bs Q, C f bs Q → 1 ≤ k ∧ bs.length = 2 ∧ semPick bs Q) :
    FnG P w K mg base (k + 1) a fd ["source", "most"] (spC C f) :=
  (FnG.of (ok_pick (k := k) F hb)).imp (fun vs H Q h => pick_of (fun bs Q c => (hC bs Q c).2.2) vs H Q h) len
theorem mixed_fn {k f : Nat} {C : Calls} {a : Addr} {fd : FuncData} (laid : Laid K mg rows) (F : Fun K "_law_any_order" "_law_any_order" sMixed a fd) (hb : ∀ x ∈ bltNames, mg x = none) (len : ∀ (vs : List V) (H : Hp) (Q : VK) (E : XK), spC C f vs H Q E → vs.length = 2) (hC : ∀ bs Q, C f bs Q → 1 ≤ k ∧ bs.length = 2 ∧ semMixed bs Q) :
    FnG P w K mg base (k + 1) a fd ["source", "things"] (spC C f) := by
  obtain ⟨a1, fd1, F1, g1, b1⟩ := laid r4 (by simp [rows])
  cases k with
  | zero => exact ⟨len, fun A outer s H args us vs Q _ _ _ _ _ ⟨S, Z, bs, Q0, _, _, _, _, h5, _⟩ => absurd (hC _ _ h5).1 (by omega)⟩
  | succ k => exact (FnG.of (ok_mixed (k := k) F hb F1 b1 g1)).imp (fun vs H Q h => mixed_of (fun bs Q c => (hC bs Q c).2.2) vs H Q h) len
end
end PD
set_option maxHeartbeats 4000000
/-! K49e: jumps, free works, greedy lists. -/
namespace PD
open PySem L2
abbrev CF (k : Nat) : Calls := callF (progOf rows) k
/-- the numbers 1 .. n - 1 -/
def rg1 (n : Nat) : List Int := (List.range (n - 1)).map fun i : Nat => (i : Int) + 1
theorem rng1_nat {n : Nat} (h : n ≤ 1000) : rngD (.int 1) (.int n) = some ((rg1 n).map .int) := by
  have ok : RgOk 1 (n : Int) := RgOk.of_le (by omega) (by omega) (by omega) (by omega)
  rw [rngD_int, if_pos ok]
  unfold rangeI rg1
  rw [List.map_map, show ((n : Int) - 1).toNat = n - 1 by omega]
  congr 1
  apply List.map_congr_left
  intro i _
  simp only [Function.comp]
  rw [Int.add_comm]
theorem mem_rg1 {n : Nat} {a : Int} : a ∈ rg1 n ↔ 1 ≤ a ∧ a < n := by
  unfold rg1
  simp only [List.mem_map, List.mem_range]
  constructor
  · rintro ⟨i, h, rfl⟩; omega
  · rintro ⟨h1, h2⟩
    exact ⟨(a - 1).toNat, by omega, by omega⟩
/-- works[a], by a number -/
def wk (ws : List Int) (a : Int) : Int := ws.getD a.toNat 0
theorem wk_at {ws : List Int} {a : Int} (h0 : 0 ≤ a) (h : a < ws.length) : idxD (tupI ws) (.int a) = some (.int (wk ws a)) := by
  obtain ⟨i, rfl⟩ := Int.eq_ofNat_of_zero_le h0
  have hi : i < ws.length := by omega
  show atI _ _ = _
  refine atI_nat ?_
  unfold wk
  rw [List.getElem?_map, List.getElem?_eq_getElem hi]
  simp [List.getD, List.getElem?_eq_getElem hi]
def jumps (ps : List (Int × Int)) (ws : List Int) : List Int := (rg1 ws.length).filter fun k => !decide ((wk ws (k - 1), wk ws k) ∈ ps)
section
variable {k : Nat} {Q : D → Prop} {n : Int} {ps : List (Int × Int)} {ws : List Int}
theorem p_len_tupI : primD .len [tupI ws] = some (.int ws.length) := by
  unfold tupI; rw [p_len_t, List.length_map]
theorem s_jumps (h : ws.length ≤ 1000) (q : Q (.tuple ((jumps ps ws).map .int))) : CF (k + 1) 0 [.sh (ordD n ps), .sh (tupI ws)] Q := by
  show _ ∧ _ ∧ execs _ b0 _ _
  refine ⟨rfl, rfl, ?_⟩
  rw [show startN 3 [.sh (ordD n ps), .sh (tupI ws)] = [some (.sh (ordD n ps)), some (.sh (tupI ws)), none] from rfl]
  unfold b0 ordD
  simp only [execs, exec, ev, tst, bor, arg, evs, evb, eva, evo, evc, evi, look_z, look_s, lookB_z, lookB_o, lookB_s, lookA_z, lookA_c, lookA_s, lookO_o, lookO_s, lift_some, lift_none, List.getElem?_cons_zero, List.getElem?_cons_succ, List.set_cons_zero, List.set_cons_succ, koF, p_tuple_l, p_tuple_t, p_list_l, p_list_t, p_len_l, p_len_t, Bool.false_eq_true, if_false, if_true, truD_bool, asg_v, asg_t, asg_l, asgs_n, asgs_c, wipeN_n, wipeN_c, free_n, free_c, nOwn_n, nOwn_s, nOwn_c, idx0, idx1, inn_ips, nin_ips, nin_ints, eq_int, ne_int, lt_int, gt_int, ne_bool, add_int, sub_int, Option.getD_none, Option.bind_some, Option.map_some, ltD_l, ltD_t, lstD_l, List.length_cons, List.length_nil, Nat.zero_add, Bool.and_true, Bool.true_and, true_and, parW, sets_n, sets_c, Bool.not_true, Bool.not_false]
  refine ⟨_, rfl, ?_⟩
  simp only [p_len_tupI, lift_some, Option.getD_some, rng1_nat h]
  refine lcW_filter (f := .int) (g := .int) (p := fun k => !decide ((wk ws (k - 1), wk ws k) ∈ ps)) (fun a ha K hK => ?_) q
  obtain ⟨a1, a2⟩ := mem_rg1.mp ha
  simp only [execs, exec, ev, tst, bor, arg, evs, evb, eva, evo, evc, evi, look_z, look_s, lookB_z, lookB_o, lookB_s, lookA_z, lookA_c, lookA_s, lookO_o, lookO_s, lift_some, lift_none, List.getElem?_cons_zero, List.getElem?_cons_succ, List.set_cons_zero, List.set_cons_succ, koF, p_tuple_l, p_tuple_t, p_list_l, p_list_t, p_len_l, p_len_t, Bool.false_eq_true, if_false, if_true, truD_bool, asg_v, asg_t, asg_l, asgs_n, asgs_c, wipeN_n, wipeN_c, free_n, free_c, nOwn_n, nOwn_s, nOwn_c, idx0, idx1, inn_ips, nin_ips, nin_ints, eq_int, ne_int, lt_int, gt_int, ne_bool, add_int, sub_int, Option.getD_none, Option.bind_some, Option.map_some, ltD_l, ltD_t, lstD_l, List.length_cons, List.length_nil, Nat.zero_add, Bool.and_true, Bool.true_and, true_and, parW, sets_n, sets_c, Bool.not_true, Bool.not_false]
  rw [wk_at (by omega) (by omega)]
  simp only [execs, exec, ev, tst, bor, arg, evs, evb, eva, evo, evc, evi, look_z, look_s, lookB_z, lookB_o, lookB_s, lookA_z, lookA_c, lookA_s, lookO_o, lookO_s, lift_some, lift_none, List.getElem?_cons_zero, List.getElem?_cons_succ, List.set_cons_zero, List.set_cons_succ, koF, p_tuple_l, p_tuple_t, p_list_l, p_list_t, p_len_l, p_len_t, Bool.false_eq_true, if_false, if_true, truD_bool, asg_v, asg_t, asg_l, asgs_n, asgs_c, wipeN_n, wipeN_c, free_n, free_c, nOwn_n, nOwn_s, nOwn_c, idx0, idx1, inn_ips, nin_ips, nin_ints, eq_int, ne_int, lt_int, gt_int, ne_bool, add_int, sub_int, Option.getD_none, Option.bind_some, Option.map_some, ltD_l, ltD_t, lstD_l, List.length_cons, List.length_nil, Nat.zero_add, Bool.and_true, Bool.true_and, true_and, parW, sets_n, sets_c, Bool.not_true, Bool.not_false]
  rw [wk_at (by omega) (by omega)]
  simp only [execs, exec, ev, tst, bor, arg, evs, evb, eva, evo, evc, evi, look_z, look_s, lookB_z, lookB_o, lookB_s, lookA_z, lookA_c, lookA_s, lookO_o, lookO_s, lift_some, lift_none, List.getElem?_cons_zero, List.getElem?_cons_succ, List.set_cons_zero, List.set_cons_succ, koF, p_tuple_l, p_tuple_t, p_list_l, p_list_t, p_len_l, p_len_t, Bool.false_eq_true, if_false, if_true, truD_bool, asg_v, asg_t, asg_l, asgs_n, asgs_c, wipeN_n, wipeN_c, free_n, free_c, nOwn_n, nOwn_s, nOwn_c, idx0, idx1, inn_ips, nin_ips, nin_ints, eq_int, ne_int, lt_int, gt_int, ne_bool, add_int, sub_int, Option.getD_none, Option.bind_some, Option.map_some, ltD_l, ltD_t, lstD_l, List.length_cons, List.length_nil, Nat.zero_add, Bool.and_true, Bool.true_and, true_and, parW, sets_n, sets_c, Bool.not_true, Bool.not_false]
  refine ⟨small_le (by simp), ?_⟩
  split at hK <;> simp_all
theorem ltD_tupI (ls : List Int) : ltD (tupI ls) = some (ls.map .int) := rfl
theorem boolsD_map : ∀ bs : List Bool, boolsD (bs.map .bool) = some bs
  | [] => rfl
  | b :: bs => by
    show (boolsD (bs.map .bool)).map (b :: ·) = _
    rw [boolsD_map bs]; rfl
theorem p_any {α : Type} (f : α → Bool) (xs : List α) : primD .any [.list (xs.map fun x => .bool (f x))] = some (.bool (xs.any f)) := by
  show (boolsD _).map (fun bs => PyData.bool (bs.any id)) = _
  rw [show (xs.map fun x => PyData.bool (f x)) = (xs.map f).map PyData.bool by rw [List.map_map]; rfl, boolsD_map, Option.map_some, List.any_map]
  rfl
def freeW (ps : List (Int × Int)) (ls : List Int) : List Int := ls.filter fun w => !(ls.any fun o => decide ((o, w) ∈ ps))
theorem s_free {ls : List Int} (q : Q (.list ((freeW ps ls).map .int))) : CF (k + 1) 2 [.sh (ordD n ps), .sh (tupI ls)] Q := by
  show _ ∧ _ ∧ execs _ b2 _ _
  refine ⟨rfl, rfl, ?_⟩
  rw [show startN 4 [.sh (ordD n ps), .sh (tupI ls)] = [some (.sh (ordD n ps)), some (.sh (tupI ls)), none, none] from rfl]
  unfold b2 ordD
  simp only [execs, exec, ev, tst, bor, arg, evs, evb, eva, evo, evc, evi, look_z, look_s, lookB_z, lookB_o, lookB_s, lookA_z, lookA_c, lookA_s, lookO_o, lookO_s, lift_some, lift_none, List.getElem?_cons_zero, List.getElem?_cons_succ, List.set_cons_zero, List.set_cons_succ, koF, p_tuple_l, p_tuple_t, p_list_l, p_list_t, p_len_l, p_len_t, Bool.false_eq_true, if_false, if_true, truD_bool, asg_v, asg_t, asg_l, asgs_n, asgs_c, wipeN_n, wipeN_c, free_n, free_c, nOwn_n, nOwn_s, nOwn_c, idx0, idx1, inn_ips, nin_ips, nin_ints, eq_int, ne_int, lt_int, gt_int, ne_bool, add_int, sub_int, Option.getD_none, Option.bind_some, Option.map_some, ltD_l, ltD_t, lstD_l, List.length_cons, List.length_nil, Nat.zero_add, Bool.and_true, Bool.true_and, true_and, parW, sets_n, sets_c, Bool.not_true, Bool.not_false]
  simp only [ltD_tupI, lift_some]
  refine lcW_filter (f := .int) (g := .int) (p := fun w => !(ls.any fun o => decide ((o, w) ∈ ps))) (fun w hw K hK => ?_) q
  skip
  refine lcW_all (f := .int) (g := fun o => .bool (decide ((o, w) ∈ ps))) (fun o ho K2 h2 => ?_) ?_
  · simp only [execs, exec, ev, tst, bor, arg, evs, evb, eva, evo, evc, evi, look_z, look_s, lookB_z, lookB_o, lookB_s, lookA_z, lookA_c, lookA_s, lookO_o, lookO_s, lift_some, lift_none, List.getElem?_cons_zero, List.getElem?_cons_succ, List.set_cons_zero, List.set_cons_succ, koF, p_tuple_l, p_tuple_t, p_list_l, p_list_t, p_len_l, p_len_t, Bool.false_eq_true, if_false, if_true, truD_bool, asg_v, asg_t, asg_l, asgs_n, asgs_c, wipeN_n, wipeN_c, free_n, free_c, nOwn_n, nOwn_s, nOwn_c, idx0, idx1, inn_ips, nin_ips, nin_ints, eq_int, ne_int, lt_int, gt_int, ne_bool, add_int, sub_int, Option.getD_none, Option.bind_some, Option.map_some, ltD_l, ltD_t, lstD_l, List.length_cons, List.length_nil, Nat.zero_add, Bool.and_true, Bool.true_and, true_and, parW, sets_n, sets_c, Bool.not_true, Bool.not_false]
    exact ⟨small_le (by decide), h2⟩
  · rw [p_any]
    simp only [execs, exec, ev, tst, bor, arg, evs, evb, eva, evo, evc, evi, look_z, look_s, lookB_z, lookB_o, lookB_s, lookA_z, lookA_c, lookA_s, lookO_o, lookO_s, lift_some, lift_none, List.getElem?_cons_zero, List.getElem?_cons_succ, List.set_cons_zero, List.set_cons_succ, koF, p_tuple_l, p_tuple_t, p_list_l, p_list_t, p_len_l, p_len_t, Bool.false_eq_true, if_false, if_true, truD_bool, asg_v, asg_t, asg_l, asgs_n, asgs_c, wipeN_n, wipeN_c, free_n, free_c, nOwn_n, nOwn_s, nOwn_c, idx0, idx1, inn_ips, nin_ips, nin_ints, eq_int, ne_int, lt_int, gt_int, ne_bool, add_int, sub_int, Option.getD_none, Option.bind_some, Option.map_some, ltD_l, ltD_t, lstD_l, List.length_cons, List.length_nil, Nat.zero_add, Bool.and_true, Bool.true_and, true_and, parW, sets_n, sets_c, Bool.not_true, Bool.not_false]
    cases hb : (ls.any fun o => decide ((o, w) ∈ ps)) <;> rw [hb] at hK <;> simpa using hK
theorem slc_from {a : Int} (h0 : 0 ≤ a) (h : a ≤ ws.length) : slcD (tupI ws) (some a) none = some (tupI (ws.drop a.toNat)) := by
  obtain ⟨i, rfl⟩ := Int.eq_ofNat_of_zero_le h0
  have hi : i ≤ ws.length := by omega
  show some (PyData.tuple (cutL (ws.map .int) (some (i : Int)) none)) = _
  unfold cutL tupI
  have e1 := HT.sIx_nat (ws.map PyData.int).length 0 i
  have e2 : HT.sIx (ws.map PyData.int).length (ws.map PyData.int).length none = (ws.map PyData.int).length := HT.sIx_none _ _
  rw [e1, e2, List.length_map, Nat.min_eq_left hi, ← List.map_drop, List.take_of_length_le (by rw [List.length_map, List.length_drop]; exact Nat.le_refl _)]
  rfl
def badJ (ps : List (Int × Int)) (ws : List Int) (k : Int) : Bool := (freeW ps (ws.drop k.toNat)).any fun w => decide ((wk ws (k - 1), w) ∈ ps)
def greedy (ps : List (Int × Int)) (ws : List Int) : Bool := (jumps ps ws).all fun k => !badJ ps ws k
theorem s_greedy (h : ws.length ≤ 1000) (q : Q (.bool (greedy ps ws))) : CF (k + 2) 3 [.sh (ordD n ps), .sh (tupI ws)] Q := by
  show _ ∧ _ ∧ execs _ b3 _ _
  refine ⟨rfl, rfl, ?_⟩
  rw [show startN 4 [.sh (ordD n ps), .sh (tupI ws)] = [some (.sh (ordD n ps)), some (.sh (tupI ws)), none, none] from rfl]
  unfold b3 b3_0
  simp only [execs, exec, ev, tst, bor, arg, evs, evb, eva, evo, evc, evi, look_z, look_s, lookB_z, lookB_o, lookB_s, lookA_z, lookA_c, lookA_s, lookO_o, lookO_s, lift_some, lift_none, List.getElem?_cons_zero, List.getElem?_cons_succ, List.set_cons_zero, List.set_cons_succ, koF, p_tuple_l, p_tuple_t, p_list_l, p_list_t, p_len_l, p_len_t, Bool.false_eq_true, if_false, if_true, truD_bool, asg_v, asg_t, asg_l, asgs_n, asgs_c, wipeN_n, wipeN_c, free_n, free_c, nOwn_n, nOwn_s, nOwn_c, idx0, idx1, inn_ips, nin_ips, nin_ints, eq_int, ne_int, lt_int, gt_int, ne_bool, add_int, sub_int, Option.getD_none, Option.bind_some, Option.map_some, ltD_l, ltD_t, lstD_l, List.length_cons, List.length_nil, Nat.zero_add, Bool.and_true, Bool.true_and, true_and, parW, sets_n, sets_c, Bool.not_true, Bool.not_false]
  refine s_jumps h ?_
  simp only [execs, exec, ev, tst, bor, arg, evs, evb, eva, evo, evc, evi, look_z, look_s, lookB_z, lookB_o, lookB_s, lookA_z, lookA_c, lookA_s, lookO_o, lookO_s, lift_some, lift_none, List.getElem?_cons_zero, List.getElem?_cons_succ, List.set_cons_zero, List.set_cons_succ, koF, p_tuple_l, p_tuple_t, p_list_l, p_list_t, p_len_l, p_len_t, Bool.false_eq_true, if_false, if_true, truD_bool, asg_v, asg_t, asg_l, asgs_n, asgs_c, wipeN_n, wipeN_c, free_n, free_c, nOwn_n, nOwn_s, nOwn_c, idx0, idx1, inn_ips, nin_ips, nin_ints, eq_int, ne_int, lt_int, gt_int, ne_bool, add_int, sub_int, Option.getD_none, Option.bind_some, Option.map_some, ltD_l, ltD_t, lstD_l, List.length_cons, List.length_nil, Nat.zero_add, Bool.and_true, Bool.true_and, true_and, parW, sets_n, sets_c, Bool.not_true, Bool.not_false]
  refine forW_inv (fun i ρ => (∃ x2, ρ = [some (.sh (ordD n ps)), some (.sh (tupI ws)), x2, none]) ∧ ∀ a ∈ (jumps ps ws).take i, badJ ps ws a = false) ⟨⟨none, rfl⟩, by simp⟩ ?_ ?_
  · rintro i hi ρ ⟨⟨x2, rfl⟩, hI⟩ K hK
    have hi' : i < (jumps ps ws).length := by simpa using hi
    have hm := List.getElem_mem hi'
    obtain ⟨a1, a2⟩ := mem_rg1.mp (List.mem_filter.mp hm).1
    rw [List.getElem_map]
    generalize hx : (jumps ps ws)[i] = a at *
    simp only [execs, exec, ev, tst, bor, arg, evs, evb, eva, evo, evc, evi, look_z, look_s, lookB_z, lookB_o, lookB_s, lookA_z, lookA_c, lookA_s, lookO_o, lookO_s, lift_some, lift_none, List.getElem?_cons_zero, List.getElem?_cons_succ, List.set_cons_zero, List.set_cons_succ, koF, p_tuple_l, p_tuple_t, p_list_l, p_list_t, p_len_l, p_len_t, Bool.false_eq_true, if_false, if_true, truD_bool, asg_v, asg_t, asg_l, asgs_n, asgs_c, wipeN_n, wipeN_c, free_n, free_c, nOwn_n, nOwn_s, nOwn_c, idx0, idx1, inn_ips, nin_ips, nin_ints, eq_int, ne_int, lt_int, gt_int, ne_bool, add_int, sub_int, Option.getD_none, Option.bind_some, Option.map_some, ltD_l, ltD_t, lstD_l, List.length_cons, List.length_nil, Nat.zero_add, Bool.and_true, Bool.true_and, true_and, parW, sets_n, sets_c, Bool.not_true, Bool.not_false]
    refine ⟨_, rfl, ?_⟩
    rw [slc_from (by omega) (by omega)]
    simp only [execs, exec, ev, tst, bor, arg, evs, evb, eva, evo, evc, evi, look_z, look_s, lookB_z, lookB_o, lookB_s, lookA_z, lookA_c, lookA_s, lookO_o, lookO_s, lift_some, lift_none, List.getElem?_cons_zero, List.getElem?_cons_succ, List.set_cons_zero, List.set_cons_succ, koF, p_tuple_l, p_tuple_t, p_list_l, p_list_t, p_len_l, p_len_t, Bool.false_eq_true, if_false, if_true, truD_bool, asg_v, asg_t, asg_l, asgs_n, asgs_c, wipeN_n, wipeN_c, free_n, free_c, nOwn_n, nOwn_s, nOwn_c, idx0, idx1, inn_ips, nin_ips, nin_ints, eq_int, ne_int, lt_int, gt_int, ne_bool, add_int, sub_int, Option.getD_none, Option.bind_some, Option.map_some, ltD_l, ltD_t, lstD_l, List.length_cons, List.length_nil, Nat.zero_add, Bool.and_true, Bool.true_and, true_and, parW, sets_n, sets_c, Bool.not_true, Bool.not_false]
    refine s_free ?_
    simp only [execs, exec, ev, tst, bor, arg, evs, evb, eva, evo, evc, evi, look_z, look_s, lookB_z, lookB_o, lookB_s, lookA_z, lookA_c, lookA_s, lookO_o, lookO_s, lift_some, lift_none, List.getElem?_cons_zero, List.getElem?_cons_succ, List.set_cons_zero, List.set_cons_succ, koF, p_tuple_l, p_tuple_t, p_list_l, p_list_t, p_len_l, p_len_t, Bool.false_eq_true, if_false, if_true, truD_bool, asg_v, asg_t, asg_l, asgs_n, asgs_c, wipeN_n, wipeN_c, free_n, free_c, nOwn_n, nOwn_s, nOwn_c, idx0, idx1, inn_ips, nin_ips, nin_ints, eq_int, ne_int, lt_int, gt_int, ne_bool, add_int, sub_int, Option.getD_none, Option.bind_some, Option.map_some, ltD_l, ltD_t, lstD_l, List.length_cons, List.length_nil, Nat.zero_add, Bool.and_true, Bool.true_and, true_and, parW, sets_n, sets_c, Bool.not_true, Bool.not_false]
    refine lcW_all (f := .int) (g := fun w => .bool (decide ((wk ws (a - 1), w) ∈ ps))) (fun w hw K2 h2 => ?_) ?_
    · skip
      rw [wk_at (by omega) (by omega)]
      simp only [execs, exec, ev, tst, bor, arg, evs, evb, eva, evo, evc, evi, look_z, look_s, lookB_z, lookB_o, lookB_s, lookA_z, lookA_c, lookA_s, lookO_o, lookO_s, lift_some, lift_none, List.getElem?_cons_zero, List.getElem?_cons_succ, List.set_cons_zero, List.set_cons_succ, koF, p_tuple_l, p_tuple_t, p_list_l, p_list_t, p_len_l, p_len_t, Bool.false_eq_true, if_false, if_true, truD_bool, asg_v, asg_t, asg_l, asgs_n, asgs_c, wipeN_n, wipeN_c, free_n, free_c, nOwn_n, nOwn_s, nOwn_c, idx0, idx1, inn_ips, nin_ips, nin_ints, eq_int, ne_int, lt_int, gt_int, ne_bool, add_int, sub_int, Option.getD_none, Option.bind_some, Option.map_some, ltD_l, ltD_t, lstD_l, List.length_cons, List.length_nil, Nat.zero_add, Bool.and_true, Bool.true_and, true_and, parW, sets_n, sets_c, Bool.not_true, Bool.not_false]
      refine ⟨small_le (by decide), ?_⟩
      rw [show idxD (ordD n ps) (.int 1) = some (.tuple (ps.map ip)) from idx1 _ _ _]
      simp only [execs, exec, ev, tst, bor, arg, evs, evb, eva, evo, evc, evi, look_z, look_s, lookB_z, lookB_o, lookB_s, lookA_z, lookA_c, lookA_s, lookO_o, lookO_s, lift_some, lift_none, List.getElem?_cons_zero, List.getElem?_cons_succ, List.set_cons_zero, List.set_cons_succ, koF, p_tuple_l, p_tuple_t, p_list_l, p_list_t, p_len_l, p_len_t, Bool.false_eq_true, if_false, if_true, truD_bool, asg_v, asg_t, asg_l, asgs_n, asgs_c, wipeN_n, wipeN_c, free_n, free_c, nOwn_n, nOwn_s, nOwn_c, idx0, idx1, inn_ips, nin_ips, nin_ints, eq_int, ne_int, lt_int, gt_int, ne_bool, add_int, sub_int, Option.getD_none, Option.bind_some, Option.map_some, ltD_l, ltD_t, lstD_l, List.length_cons, List.length_nil, Nat.zero_add, Bool.and_true, Bool.true_and, true_and, parW, sets_n, sets_c, Bool.not_true, Bool.not_false]
      exact h2
    · rw [p_any]
      simp only [execs, exec, ev, tst, bor, arg, evs, evb, eva, evo, evc, evi, look_z, look_s, lookB_z, lookB_o, lookB_s, lookA_z, lookA_c, lookA_s, lookO_o, lookO_s, lift_some, lift_none, List.getElem?_cons_zero, List.getElem?_cons_succ, List.set_cons_zero, List.set_cons_succ, koF, p_tuple_l, p_tuple_t, p_list_l, p_list_t, p_len_l, p_len_t, Bool.false_eq_true, if_false, if_true, truD_bool, asg_v, asg_t, asg_l, asgs_n, asgs_c, wipeN_n, wipeN_c, free_n, free_c, nOwn_n, nOwn_s, nOwn_c, idx0, idx1, inn_ips, nin_ips, nin_ints, eq_int, ne_int, lt_int, gt_int, ne_bool, add_int, sub_int, Option.getD_none, Option.bind_some, Option.map_some, ltD_l, ltD_t, lstD_l, List.length_cons, List.length_nil, Nat.zero_add, Bool.and_true, Bool.true_and, true_and, parW, sets_n, sets_c, Bool.not_true, Bool.not_false]
      by_cases hb : badJ ps ws a = true
      · have hg : greedy ps ws = false := by
          unfold greedy
          rw [← Bool.not_eq_true, List.all_eq_true]
          intro z
          have := z a hm
          rw [hb] at this
          cases this
        unfold badJ at hb
        rw [hb]
        simp only [execs, exec, ev, tst, bor, arg, evs, evb, eva, evo, evc, evi, look_z, look_s, lookB_z, lookB_o, lookB_s, lookA_z, lookA_c, lookA_s, lookO_o, lookO_s, lift_some, lift_none, List.getElem?_cons_zero, List.getElem?_cons_succ, List.set_cons_zero, List.set_cons_succ, koF, p_tuple_l, p_tuple_t, p_list_l, p_list_t, p_len_l, p_len_t, Bool.false_eq_true, if_false, if_true, truD_bool, asg_v, asg_t, asg_l, asgs_n, asgs_c, wipeN_n, wipeN_c, free_n, free_c, nOwn_n, nOwn_s, nOwn_c, idx0, idx1, inn_ips, nin_ips, nin_ints, eq_int, ne_int, lt_int, gt_int, ne_bool, add_int, sub_int, Option.getD_none, Option.bind_some, Option.map_some, ltD_l, ltD_t, lstD_l, List.length_cons, List.length_nil, Nat.zero_add, Bool.and_true, Bool.true_and, true_and, parW, sets_n, sets_c, Bool.not_true, Bool.not_false]
        rw [hg] at q
        exact q
      · have hb' : badJ ps ws a = false := by simpa using hb
        unfold badJ at hb'
        rw [hb']
        simp only [execs, exec, ev, tst, bor, arg, evs, evb, eva, evo, evc, evi, look_z, look_s, lookB_z, lookB_o, lookB_s, lookA_z, lookA_c, lookA_s, lookO_o, lookO_s, lift_some, lift_none, List.getElem?_cons_zero, List.getElem?_cons_succ, List.set_cons_zero, List.set_cons_succ, koF, p_tuple_l, p_tuple_t, p_list_l, p_list_t, p_len_l, p_len_t, Bool.false_eq_true, if_false, if_true, truD_bool, asg_v, asg_t, asg_l, asgs_n, asgs_c, wipeN_n, wipeN_c, free_n, free_c, nOwn_n, nOwn_s, nOwn_c, idx0, idx1, inn_ips, nin_ips, nin_ints, eq_int, ne_int, lt_int, gt_int, ne_bool, add_int, sub_int, Option.getD_none, Option.bind_some, Option.map_some, ltD_l, ltD_t, lstD_l, List.length_cons, List.length_nil, Nat.zero_add, Bool.and_true, Bool.true_and, true_and, parW, sets_n, sets_c, Bool.not_true, Bool.not_false]
        refine hK _ ⟨⟨_, rfl⟩, fun b hbm => ?_⟩
        rw [List.take_add_one, List.getElem?_eq_getElem hi', hx] at hbm
        rcases List.mem_append.mp hbm with h | h
        · exact hI b h
        · have : b = a := by simpa using h
          rw [this]; simpa using hb
  · rintro ρ ⟨⟨x2, rfl⟩, hI⟩
    skip
    rw [List.length_map, List.take_length] at hI
    have hg : greedy ps ws = true := List.all_eq_true.mpr fun a ha => by rw [hI a ha]; rfl
    rw [hg] at q
    exact q
end
end PD
set_option maxHeartbeats 4000000
/-! K49f: closed pairs, with what is kept by closing. -/
namespace PD
open PySem L2
structure Dt (T : Int × Int → Prop) (kvs : List (D × D)) (qs : List (Int × Int)) : Prop where
  keys : Keys kvs qs
  nd : qs.Nodup
  all : ∀ q ∈ qs, T q
theorem Dt.put {T : Int × Int → Prop} {kvs : List (D × D)} {qs : List (Int × Int)} (h : Dt T kvs qs) {p : Int × Int} {x : D} (hp : T p) : ∃ rs, Dt T (dput kvs (ip p) x) rs := by
  refine ⟨if p ∈ qs then qs else qs ++ [p], keys_put h.keys, ?_, ?_⟩
  · split
    · exact h.nd
    · rename_i hn
      exact List.nodup_append.mpr ⟨h.nd, by simp, fun a ha b hb => by
        have : b = p := by simpa using hb
        subst this
        exact fun e => hn (e ▸ ha)⟩
  · intro q hq
    split at hq
    · exact h.all q hq
    · rcases List.mem_append.mp hq with hq | hq
      · exact h.all q hq
      · have : q = p := by simpa using hq
        rw [this]; exact hp
theorem Dt.puts {T : Int × Int → Prop} : ∀ {ps : List (Int × Int)} {kvs : List (D × D)} {qs : List (Int × Int)}, Dt T kvs qs → (∀ p ∈ ps, T p) → ∃ rs, Dt T (dputs kvs (ps.map fun p => (ip p, .int 0))) rs
  | [], _, qs, h, _ => ⟨qs, h⟩
  | p :: ps, _, _, h, hp => by
    obtain ⟨rs, h1⟩ := h.put (x := .int 0) (hp p (List.mem_cons_self ..))
    exact Dt.puts (ps := ps) h1 fun q hq => hp q (List.mem_cons_of_mem _ hq)
theorem set_dictB {a b : Int} {x : D} {kvs : List (D × D)} {qs : List (Int × Int)} (h : Keys kvs qs) (hl : qs.length ≤ 1000) : setD (.dict kvs) (.tuple [.int a, .int b]) x = some (.dict (dput kvs (ip (a, b)) x)) := by
  have e : kvs.length = qs.length := by have := congrArg List.length h; simpa using this
  have hz : kvs.length < sizeLine := small_lt (by omega)
  show (if (isKey (ip (a, b)) && kindOk kvs (ip (a, b)) && decide (kvs.length < sizeLine)) = true then _ else none) = _
  rw [isKey_ip, kindOk_ip h, decide_eq_true hz]; rfl
theorem len_inr10 {n : Nat} {qs : List (Int × Int)} (nd : qs.Nodup) (h : ∀ q ∈ qs, InR n q) (hn : n ≤ 10) : qs.length ≤ 100 := by
  have h1 := len_of_sub qs (grid n) nd fun q hq => in_grid (h q hq)
  have h2 := grid_len n
  have : n * n ≤ 10 * 10 := Nat.mul_le_mul hn hn
  omega
section
variable {k : Nat} {Q : D → Prop}
theorem s_closed {n : Nat} {ps : List (Int × Int)} {T : Int × Int → Prop} (hn : n ≤ 10) (hT : ∀ a k b, T (a, k) → T (k, b) → T (a, b)) (hI : ∀ p, T p → InR n p) (hi : ∀ p ∈ ps, T p) (q : ∀ qs, GO n qs → (∀ p ∈ qs, T p) → Q (ordD n qs)) : CF (k + 1) 7 [.sh (.int n), .sh (.list (ps.map ip))] Q := by
  show _ ∧ _ ∧ execs _ b7 _ _
  refine ⟨rfl, rfl, ?_⟩
  rw [show startN 7 [.sh (.int n), .sh (.list (ps.map ip))] = [some (.sh (.int n)), some (.sh (.list (ps.map ip))), none, none, none, none, none] from rfl]
  unfold b7 b7_2 b7_1 b7_0
  simp only [execs, exec, ev, tst, bor, arg, evs, evb, eva, evo, evc, evi, look_z, look_s, lookB_z, lookB_o, lookB_s, lookA_z, lookA_c, lookA_s, lookO_o, lookO_s, lift_some, lift_none, List.getElem?_cons_zero, List.getElem?_cons_succ, List.set_cons_zero, List.set_cons_succ, koF, p_tuple_l, p_tuple_t, p_list_l, p_list_t, p_len_l, p_len_t, Bool.false_eq_true, if_false, if_true, truD_bool, asg_v, asg_t, asg_l, asgs_n, asgs_c, wipeN_n, wipeN_c, free_n, free_c, nOwn_n, nOwn_s, nOwn_c, idx0, idx1, inn_ips, nin_ips, nin_ints, eq_int, ne_int, lt_int, gt_int, ne_bool, add_int, sub_int, Option.getD_none, Option.bind_some, Option.map_some, ltD_l, ltD_t, lstD_l, List.length_cons, List.length_nil, Nat.zero_add, Bool.and_true, Bool.true_and, true_and, parW, sets_n, sets_c, Bool.not_true, Bool.not_false]
  refine lcW_filter (f := ip) (g := fun p => .tuple [ip p, .int 0]) (p := fun _ => true) (fun a ha K hK => ?_) ?_
  · simp only [if_true] at hK
    exact ⟨small_le (by simp), hK⟩
  rw [show ps.filter (fun _ => true) = ps from List.filter_eq_self.mpr (fun _ _ => rfl), p_dict]
  simp only [execs, exec, ev, tst, bor, arg, evs, evb, eva, evo, evc, evi, look_z, look_s, lookB_z, lookB_o, lookB_s, lookA_z, lookA_c, lookA_s, lookO_o, lookO_s, lift_some, lift_none, List.getElem?_cons_zero, List.getElem?_cons_succ, List.set_cons_zero, List.set_cons_succ, koF, p_tuple_l, p_tuple_t, p_list_l, p_list_t, p_len_l, p_len_t, Bool.false_eq_true, if_false, if_true, truD_bool, asg_v, asg_t, asg_l, asgs_n, asgs_c, wipeN_n, wipeN_c, free_n, free_c, nOwn_n, nOwn_s, nOwn_c, idx0, idx1, inn_ips, nin_ips, nin_ints, eq_int, ne_int, lt_int, gt_int, ne_bool, add_int, sub_int, Option.getD_none, Option.bind_some, Option.map_some, ltD_l, ltD_t, lstD_l, List.length_cons, List.length_nil, Nat.zero_add, Bool.and_true, Bool.true_and, true_and, parW, sets_n, sets_c, Bool.not_true, Bool.not_false]
  refine ⟨rfl, ?_⟩
  obtain ⟨rs, hd⟩ := Dt.puts (T := T) (kvs := []) (qs := []) ⟨rfl, by simp, by simp⟩ hi
  rw [rng_nat (by omega)]
  simp only [execs, exec, ev, tst, bor, arg, evs, evb, eva, evo, evc, evi, look_z, look_s, lookB_z, lookB_o, lookB_s, lookA_z, lookA_c, lookA_s, lookO_o, lookO_s, lift_some, lift_none, List.getElem?_cons_zero, List.getElem?_cons_succ, List.set_cons_zero, List.set_cons_succ, koF, p_tuple_l, p_tuple_t, p_list_l, p_list_t, p_len_l, p_len_t, Bool.false_eq_true, if_false, if_true, truD_bool, asg_v, asg_t, asg_l, asgs_n, asgs_c, wipeN_n, wipeN_c, free_n, free_c, nOwn_n, nOwn_s, nOwn_c, idx0, idx1, inn_ips, nin_ips, nin_ints, eq_int, ne_int, lt_int, gt_int, ne_bool, add_int, sub_int, Option.getD_none, Option.bind_some, Option.map_some, ltD_l, ltD_t, lstD_l, List.length_cons, List.length_nil, Nat.zero_add, Bool.and_true, Bool.true_and, true_and, parW, sets_n, sets_c, Bool.not_true, Bool.not_false]
  refine forW_inv (fun _ ρ => ∃ kvs qs x3 x4 x5, ρ = [some (.sh (.int n)), some (.sh (.list (ps.map ip))), some (.own (.dict kvs)), x3, x4, x5, none] ∧ Dt T kvs qs) ⟨_, rs, none, none, none, rfl, hd⟩ ?_ ?_
  · rintro i hi ρ ⟨kvs, qs, x3, x4, x5, rfl, hd⟩ K hK
    have hi' : i < (rg n).length := by simpa using hi
    rw [List.getElem_map]
    simp only [execs, exec, ev, tst, bor, arg, evs, evb, eva, evo, evc, evi, look_z, look_s, lookB_z, lookB_o, lookB_s, lookA_z, lookA_c, lookA_s, lookO_o, lookO_s, lift_some, lift_none, List.getElem?_cons_zero, List.getElem?_cons_succ, List.set_cons_zero, List.set_cons_succ, koF, p_tuple_l, p_tuple_t, p_list_l, p_list_t, p_len_l, p_len_t, Bool.false_eq_true, if_false, if_true, truD_bool, asg_v, asg_t, asg_l, asgs_n, asgs_c, wipeN_n, wipeN_c, free_n, free_c, nOwn_n, nOwn_s, nOwn_c, idx0, idx1, inn_ips, nin_ips, nin_ints, eq_int, ne_int, lt_int, gt_int, ne_bool, add_int, sub_int, Option.getD_none, Option.bind_some, Option.map_some, ltD_l, ltD_t, lstD_l, List.length_cons, List.length_nil, Nat.zero_add, Bool.and_true, Bool.true_and, true_and, parW, sets_n, sets_c, Bool.not_true, Bool.not_false]
    rw [rng_nat (by omega)]
    simp only [execs, exec, ev, tst, bor, arg, evs, evb, eva, evo, evc, evi, look_z, look_s, lookB_z, lookB_o, lookB_s, lookA_z, lookA_c, lookA_s, lookO_o, lookO_s, lift_some, lift_none, List.getElem?_cons_zero, List.getElem?_cons_succ, List.set_cons_zero, List.set_cons_succ, koF, p_tuple_l, p_tuple_t, p_list_l, p_list_t, p_len_l, p_len_t, Bool.false_eq_true, if_false, if_true, truD_bool, asg_v, asg_t, asg_l, asgs_n, asgs_c, wipeN_n, wipeN_c, free_n, free_c, nOwn_n, nOwn_s, nOwn_c, idx0, idx1, inn_ips, nin_ips, nin_ints, eq_int, ne_int, lt_int, gt_int, ne_bool, add_int, sub_int, Option.getD_none, Option.bind_some, Option.map_some, ltD_l, ltD_t, lstD_l, List.length_cons, List.length_nil, Nat.zero_add, Bool.and_true, Bool.true_and, true_and, parW, sets_n, sets_c, Bool.not_true, Bool.not_false]
    refine forW_inv (fun _ ρ => ∃ kvs qs x4 x5, ρ = [some (.sh (.int n)), some (.sh (.list (ps.map ip))), some (.own (.dict kvs)), some (.sh (.int (rg n)[i])), x4, x5, none] ∧ Dt T kvs qs) ⟨_, _, x4, x5, rfl, hd⟩ ?_ ?_
    · rintro j hj ρ ⟨kvs, qs, x4, x5, rfl, hd⟩ K2 hK2
      have hj' : j < (rg n).length := by simpa using hj
      rw [List.getElem_map]
      simp only [execs, exec, ev, tst, bor, arg, evs, evb, eva, evo, evc, evi, look_z, look_s, lookB_z, lookB_o, lookB_s, lookA_z, lookA_c, lookA_s, lookO_o, lookO_s, lift_some, lift_none, List.getElem?_cons_zero, List.getElem?_cons_succ, List.set_cons_zero, List.set_cons_succ, koF, p_tuple_l, p_tuple_t, p_list_l, p_list_t, p_len_l, p_len_t, Bool.false_eq_true, if_false, if_true, truD_bool, asg_v, asg_t, asg_l, asgs_n, asgs_c, wipeN_n, wipeN_c, free_n, free_c, nOwn_n, nOwn_s, nOwn_c, idx0, idx1, inn_ips, nin_ips, nin_ints, eq_int, ne_int, lt_int, gt_int, ne_bool, add_int, sub_int, Option.getD_none, Option.bind_some, Option.map_some, ltD_l, ltD_t, lstD_l, List.length_cons, List.length_nil, Nat.zero_add, Bool.and_true, Bool.true_and, true_and, parW, sets_n, sets_c, Bool.not_true, Bool.not_false]
      rw [rng_nat (by omega)]
      simp only [execs, exec, ev, tst, bor, arg, evs, evb, eva, evo, evc, evi, look_z, look_s, lookB_z, lookB_o, lookB_s, lookA_z, lookA_c, lookA_s, lookO_o, lookO_s, lift_some, lift_none, List.getElem?_cons_zero, List.getElem?_cons_succ, List.set_cons_zero, List.set_cons_succ, koF, p_tuple_l, p_tuple_t, p_list_l, p_list_t, p_len_l, p_len_t, Bool.false_eq_true, if_false, if_true, truD_bool, asg_v, asg_t, asg_l, asgs_n, asgs_c, wipeN_n, wipeN_c, free_n, free_c, nOwn_n, nOwn_s, nOwn_c, idx0, idx1, inn_ips, nin_ips, nin_ints, eq_int, ne_int, lt_int, gt_int, ne_bool, add_int, sub_int, Option.getD_none, Option.bind_some, Option.map_some, ltD_l, ltD_t, lstD_l, List.length_cons, List.length_nil, Nat.zero_add, Bool.and_true, Bool.true_and, true_and, parW, sets_n, sets_c, Bool.not_true, Bool.not_false]
      refine forW_inv (fun _ ρ => ∃ kvs qs x5, ρ = [some (.sh (.int n)), some (.sh (.list (ps.map ip))), some (.own (.dict kvs)), some (.sh (.int (rg n)[i])), some (.sh (.int (rg n)[j])), x5, none] ∧ Dt T kvs qs) ⟨_, _, x5, rfl, hd⟩ ?_ ?_
      · rintro l hl ρ ⟨kvs, qs, x5, rfl, hd⟩ K3 hK3
        have hl' : l < (rg n).length := by simpa using hl
        rw [List.getElem_map]
        simp only [execs, exec, ev, tst, bor, arg, evs, evb, eva, evo, evc, evi, look_z, look_s, lookB_z, lookB_o, lookB_s, lookA_z, lookA_c, lookA_s, lookO_o, lookO_s, lift_some, lift_none, List.getElem?_cons_zero, List.getElem?_cons_succ, List.set_cons_zero, List.set_cons_succ, koF, p_tuple_l, p_tuple_t, p_list_l, p_list_t, p_len_l, p_len_t, Bool.false_eq_true, if_false, if_true, truD_bool, asg_v, asg_t, asg_l, asgs_n, asgs_c, wipeN_n, wipeN_c, free_n, free_c, nOwn_n, nOwn_s, nOwn_c, idx0, idx1, inn_ips, nin_ips, nin_ints, eq_int, ne_int, lt_int, gt_int, ne_bool, add_int, sub_int, Option.getD_none, Option.bind_some, Option.map_some, ltD_l, ltD_t, lstD_l, List.length_cons, List.length_nil, Nat.zero_add, Bool.and_true, Bool.true_and, true_and, parW, sets_n, sets_c, Bool.not_true, Bool.not_false]
        refine ⟨small_le (by simp), ?_⟩
        rw [inn_dict hd.keys]
        simp only [execs, exec, ev, tst, bor, arg, evs, evb, eva, evo, evc, evi, look_z, look_s, lookB_z, lookB_o, lookB_s, lookA_z, lookA_c, lookA_s, lookO_o, lookO_s, lift_some, lift_none, List.getElem?_cons_zero, List.getElem?_cons_succ, List.set_cons_zero, List.set_cons_succ, koF, p_tuple_l, p_tuple_t, p_list_l, p_list_t, p_len_l, p_len_t, Bool.false_eq_true, if_false, if_true, truD_bool, asg_v, asg_t, asg_l, asgs_n, asgs_c, wipeN_n, wipeN_c, free_n, free_c, nOwn_n, nOwn_s, nOwn_c, idx0, idx1, inn_ips, nin_ips, nin_ints, eq_int, ne_int, lt_int, gt_int, ne_bool, add_int, sub_int, Option.getD_none, Option.bind_some, Option.map_some, ltD_l, ltD_t, lstD_l, List.length_cons, List.length_nil, Nat.zero_add, Bool.and_true, Bool.true_and, true_and, parW, sets_n, sets_c, Bool.not_true, Bool.not_false]
        split
        · rename_i c1
          refine ⟨small_le (by simp), ?_⟩
          rw [inn_dict hd.keys]
          simp only [execs, exec, ev, tst, bor, arg, evs, evb, eva, evo, evc, evi, look_z, look_s, lookB_z, lookB_o, lookB_s, lookA_z, lookA_c, lookA_s, lookO_o, lookO_s, lift_some, lift_none, List.getElem?_cons_zero, List.getElem?_cons_succ, List.set_cons_zero, List.set_cons_succ, koF, p_tuple_l, p_tuple_t, p_list_l, p_list_t, p_len_l, p_len_t, Bool.false_eq_true, if_false, if_true, truD_bool, asg_v, asg_t, asg_l, asgs_n, asgs_c, wipeN_n, wipeN_c, free_n, free_c, nOwn_n, nOwn_s, nOwn_c, idx0, idx1, inn_ips, nin_ips, nin_ints, eq_int, ne_int, lt_int, gt_int, ne_bool, add_int, sub_int, Option.getD_none, Option.bind_some, Option.map_some, ltD_l, ltD_t, lstD_l, List.length_cons, List.length_nil, Nat.zero_add, Bool.and_true, Bool.true_and, true_and, parW, sets_n, sets_c, Bool.not_true, Bool.not_false]
          split
          · rename_i c2
            refine ⟨small_le (by simp), ?_⟩
            rw [set_dictB hd.keys (by have := len_inr10 hd.nd (fun q hq => hI q (hd.all q hq)) hn; omega)]
            simp only [execs, exec, ev, tst, bor, arg, evs, evb, eva, evo, evc, evi, look_z, look_s, lookB_z, lookB_o, lookB_s, lookA_z, lookA_c, lookA_s, lookO_o, lookO_s, lift_some, lift_none, List.getElem?_cons_zero, List.getElem?_cons_succ, List.set_cons_zero, List.set_cons_succ, koF, p_tuple_l, p_tuple_t, p_list_l, p_list_t, p_len_l, p_len_t, Bool.false_eq_true, if_false, if_true, truD_bool, asg_v, asg_t, asg_l, asgs_n, asgs_c, wipeN_n, wipeN_c, free_n, free_c, nOwn_n, nOwn_s, nOwn_c, idx0, idx1, inn_ips, nin_ips, nin_ints, eq_int, ne_int, lt_int, gt_int, ne_bool, add_int, sub_int, Option.getD_none, Option.bind_some, Option.map_some, ltD_l, ltD_t, lstD_l, List.length_cons, List.length_nil, Nat.zero_add, Bool.and_true, Bool.true_and, true_and, parW, sets_n, sets_c, Bool.not_true, Bool.not_false]
            have t := hT _ _ _ (hd.all _ (of_decide_eq_true c1)) (hd.all _ (of_decide_eq_true c2))
            obtain ⟨rs, hd2⟩ := hd.put (x := .int 0) t
            exact hK3 _ ⟨_, rs, _, rfl, hd2⟩
          · exact hK3 _ ⟨_, _, _, rfl, hd⟩
        · exact hK3 _ ⟨_, _, _, rfl, hd⟩
      · rintro ρ ⟨kvs, qs, x5, rfl, hd⟩
        exact hK2 _ ⟨_, _, _, _, rfl, hd⟩
    · rintro ρ ⟨kvs, qs, x4, x5, rfl, hd⟩
      exact hK _ ⟨_, _, _, _, _, rfl, hd⟩
  · rintro ρ ⟨kvs, qs, x3, x4, x5, rfl, hd⟩
    simp only [execs, exec, ev, tst, bor, arg, evs, evb, eva, evo, evc, evi, look_z, look_s, lookB_z, lookB_o, lookB_s, lookA_z, lookA_c, lookA_s, lookO_o, lookO_s, lift_some, lift_none, List.getElem?_cons_zero, List.getElem?_cons_succ, List.set_cons_zero, List.set_cons_succ, koF, p_tuple_l, p_tuple_t, p_list_l, p_list_t, p_len_l, p_len_t, Bool.false_eq_true, if_false, if_true, truD_bool, asg_v, asg_t, asg_l, asgs_n, asgs_c, wipeN_n, wipeN_c, free_n, free_c, nOwn_n, nOwn_s, nOwn_c, idx0, idx1, inn_ips, nin_ips, nin_ints, eq_int, ne_int, lt_int, gt_int, ne_bool, add_int, sub_int, Option.getD_none, Option.bind_some, Option.map_some, ltD_l, ltD_t, lstD_l, List.length_cons, List.length_nil, Nat.zero_add, Bool.and_true, Bool.true_and, true_and, parW, sets_n, sets_c, Bool.not_true, Bool.not_false]
    rw [p_sorted hd.keys]
    simp only [execs, exec, ev, tst, bor, arg, evs, evb, eva, evo, evc, evi, look_z, look_s, lookB_z, lookB_o, lookB_s, lookA_z, lookA_c, lookA_s, lookO_o, lookO_s, lift_some, lift_none, List.getElem?_cons_zero, List.getElem?_cons_succ, List.set_cons_zero, List.set_cons_succ, koF, p_tuple_l, p_tuple_t, p_list_l, p_list_t, p_len_l, p_len_t, Bool.false_eq_true, if_false, if_true, truD_bool, asg_v, asg_t, asg_l, asgs_n, asgs_c, wipeN_n, wipeN_c, free_n, free_c, nOwn_n, nOwn_s, nOwn_c, idx0, idx1, inn_ips, nin_ips, nin_ints, eq_int, ne_int, lt_int, gt_int, ne_bool, add_int, sub_int, Option.getD_none, Option.bind_some, Option.map_some, ltD_l, ltD_t, lstD_l, List.length_cons, List.length_nil, Nat.zero_add, Bool.and_true, Bool.true_and, true_and, parW, sets_n, sets_c, Bool.not_true, Bool.not_false]
    exact ⟨small_le (by simp), q _ (sorted_go hd.nd fun q hq => hI q (hd.all q hq)) fun p hp => hd.all p ((List.mergeSort_perm qs leP).mem_iff.mp hp)⟩
end
end PD
set_option maxHeartbeats 4000000
/-! K49g: drawn orders. -/
namespace PD
open PySem L2
/-- p.1 stands ahead of p.2 among names -/
def Ahead (names : List Int) (p : Int × Int) : Prop := ∃ i j : Nat, i < j ∧ names[i]? = some p.1 ∧ names[j]? = some p.2
theorem nodup_at {names : List Int} (nd : names.Nodup) {i j : Nat} {x : Int} (hi : names[i]? = some x) (hj : names[j]? = some x) : i = j := by
  obtain ⟨h1, e1⟩ := List.getElem?_eq_some_iff.mp hi
  obtain ⟨h2, e2⟩ := List.getElem?_eq_some_iff.mp hj
  exact (List.getElem_inj nd).mp (e1.trans e2.symm)
theorem Ahead.trans {names : List Int} (nd : names.Nodup) {a k b : Int} (h1 : Ahead names (a, k)) (h2 : Ahead names (k, b)) : Ahead names (a, b) := by
  obtain ⟨i, j, hij, hi, hj⟩ := h1
  obtain ⟨i', j', hij', hi', hj'⟩ := h2
  have := nodup_at nd hj hi'
  subst this
  exact ⟨i, j', by omega, hi, hj'⟩
section
variable {k : Nat} {Q : D → Prop}
theorem s_pick {m : Int} (hm : m < 1073741824) (q : ∀ j, 0 ≤ j → j < max 1 m → Q (.int j)) : CF (k + 2) 4 [.src, .sh (.int m)] Q := ⟨rfl, by omega, m, rfl, hm, q⟩
theorem s_mixed {xs : List Int} (hl : xs.length ≤ 1000) (q : ∀ ys : List Int, ys.Perm xs → Q (.list (ys.map .int))) : CF (k + 2) 5 [.src, .sh (.list (xs.map .int))] Q :=
  ⟨rfl, by omega, _, rfl, by rw [List.length_map]; exact hl, fun es pe => by
    obtain ⟨ys, rfl, p⟩ := perm_of_map pe rfl
    exact q ys p⟩
theorem rg_at {n i : Nat} (h : i < (rg n).length) : (rg n)[i] = (i : Int) := by
  have : (rg n)[i]? = some (i : Int) := by
    unfold rg
    rw [List.getElem?_map, List.getElem?_range (by rw [rg_len] at h; exact h)]; rfl
  rw [List.getElem?_eq_getElem h] at this
  exact Option.some.inj this
/-- the slots within the loops -/
def sl (most j n way share : Int) (names : List Int) (ps : List (Int × Int)) (i : Int) (x10 : Option B) : Nv := [some .src, some (.sh (.int 1)), some (.sh (.int most)), some (.sh (.int j)), some (.sh (.int n)), some (.sh (.int way)), some (.sh (.int share)), some (.sh (.list (names.map .int))), some (.sh (.list (ps.map ip))), some (.sh (.int i)), x10]
theorem mul_l (a : List D) (m : Int) : binD .mul (.list a) (.int m) = if -(2 ^ 63) ≤ m ∧ m < 2 ^ 63 ∧ a.length * m.toNat ≤ sizeLine then some (.list (List.replicate m.toNat a).flatten) else none := rfl
theorem mulB (x : D) (b : Bool) : binD .mul (.list [x]) (.int (if b then 1 else 0)) = some (.list (if b then [x] else [])) := by
  rw [mul_l]
  have z : (1 : Nat) ≤ sizeLine := by decide
  cases b
  · simp
  · simp [z]
theorem p_intB (b : Bool) : primD .int [.bool b] = some (.int (if b then 1 else 0)) := rfl
theorem p_intI (i : Int) : primD .int [.int i] = some (.int i) := rfl
theorem mod2 (a : Int) : binD .mod (.int a) (.int 2) = some (.int (a.fmod 2)) := rfl
theorem fdiv2 (a : Int) : binD .fdiv (.int a) (.int 2) = some (.int (a.fdiv 2)) := rfl
theorem le_int (a b : Int) : copD .le (.int a) (.int b) = some (.bool (!decide (b < a))) := by
  show (if ltOk (.int a) (.int b) then some (PyData.bool (!PySem.W.dataLt (.int b) (.int a))) else none) = _
  rw [if_pos (ltOk_int a b), dataLt_int]
theorem idx_nm {names : List Int} {i : Nat} {x : Int} (h : names[i]? = some x) : idxD (.list (names.map .int)) (.int (i : Int)) = some (.int x) := by
  show atI _ _ = _
  refine atI_nat ?_
  rw [List.getElem?_map, h]; rfl
variable {most j n way share : Int} {names : List Int} {ps : List (Int × Int)} {i : Nat} {jn : Nat} {K : Ko}
theorem r8_2 {a b : Int} {one : Bool} (hi : names[i]? = some a) (hj : names[jn]? = some b) (hl : ps.length ≤ 200) (h : ∀ x10, K.nx (sl most jn n way share names (if one then ps ++ [(a, b)] else ps) i x10)) : execs (CF (k + 2)) b8_2 (sl most jn n way share names ps i (some (.sh (.bool one)))) K := by
  unfold b8_2 sl
  simp only [execs, exec, ev, tst, bor, arg, evs, evb, eva, evo, evc, evi, look_z, look_s, lookB_z, lookB_o, lookB_s, lookA_z, lookA_c, lookA_s, lookO_o, lookO_s, lift_some, lift_none, List.getElem?_cons_zero, List.getElem?_cons_succ, List.set_cons_zero, List.set_cons_succ, koF, p_tuple_l, p_tuple_t, p_list_l, p_list_t, p_len_l, p_len_t, Bool.false_eq_true, if_false, if_true, truD_bool, asg_v, asg_t, asg_l, asgs_n, asgs_c, wipeN_n, wipeN_c, free_n, free_c, nOwn_n, nOwn_s, nOwn_c, idx0, idx1, inn_ips, nin_ips, nin_ints, eq_int, ne_int, lt_int, gt_int, ne_bool, add_int, sub_int, Option.getD_none, Option.bind_some, Option.map_some, ltD_l, ltD_t, lstD_l, List.length_cons, List.length_nil, Nat.zero_add, Bool.and_true, Bool.true_and, true_and, parW, sets_n, sets_c, Bool.not_true, Bool.not_false]
  rw [idx_nm hi]
  simp only [execs, exec, ev, tst, bor, arg, evs, evb, eva, evo, evc, evi, look_z, look_s, lookB_z, lookB_o, lookB_s, lookA_z, lookA_c, lookA_s, lookO_o, lookO_s, lift_some, lift_none, List.getElem?_cons_zero, List.getElem?_cons_succ, List.set_cons_zero, List.set_cons_succ, koF, p_tuple_l, p_tuple_t, p_list_l, p_list_t, p_len_l, p_len_t, Bool.false_eq_true, if_false, if_true, truD_bool, asg_v, asg_t, asg_l, asgs_n, asgs_c, wipeN_n, wipeN_c, free_n, free_c, nOwn_n, nOwn_s, nOwn_c, idx0, idx1, inn_ips, nin_ips, nin_ints, eq_int, ne_int, lt_int, gt_int, ne_bool, add_int, sub_int, Option.getD_none, Option.bind_some, Option.map_some, ltD_l, ltD_t, lstD_l, List.length_cons, List.length_nil, Nat.zero_add, Bool.and_true, Bool.true_and, true_and, parW, sets_n, sets_c, Bool.not_true, Bool.not_false]
  rw [idx_nm hj]
  simp only [execs, exec, ev, tst, bor, arg, evs, evb, eva, evo, evc, evi, look_z, look_s, lookB_z, lookB_o, lookB_s, lookA_z, lookA_c, lookA_s, lookO_o, lookO_s, lift_some, lift_none, List.getElem?_cons_zero, List.getElem?_cons_succ, List.set_cons_zero, List.set_cons_succ, koF, p_tuple_l, p_tuple_t, p_list_l, p_list_t, p_len_l, p_len_t, Bool.false_eq_true, if_false, if_true, truD_bool, asg_v, asg_t, asg_l, asgs_n, asgs_c, wipeN_n, wipeN_c, free_n, free_c, nOwn_n, nOwn_s, nOwn_c, idx0, idx1, inn_ips, nin_ips, nin_ints, eq_int, ne_int, lt_int, gt_int, ne_bool, add_int, sub_int, Option.getD_none, Option.bind_some, Option.map_some, ltD_l, ltD_t, lstD_l, List.length_cons, List.length_nil, Nat.zero_add, Bool.and_true, Bool.true_and, true_and, parW, sets_n, sets_c, Bool.not_true, Bool.not_false]
  refine ⟨small_le (by decide), small_le (by decide), ?_⟩
  rw [p_intB, lift_some, mulB]
  simp only [execs, exec, ev, tst, bor, arg, evs, evb, eva, evo, evc, evi, look_z, look_s, lookB_z, lookB_o, lookB_s, lookA_z, lookA_c, lookA_s, lookO_o, lookO_s, lift_some, lift_none, List.getElem?_cons_zero, List.getElem?_cons_succ, List.set_cons_zero, List.set_cons_succ, koF, p_tuple_l, p_tuple_t, p_list_l, p_list_t, p_len_l, p_len_t, Bool.false_eq_true, if_false, if_true, truD_bool, asg_v, asg_t, asg_l, asgs_n, asgs_c, wipeN_n, wipeN_c, free_n, free_c, nOwn_n, nOwn_s, nOwn_c, idx0, idx1, inn_ips, nin_ips, nin_ints, eq_int, ne_int, lt_int, gt_int, ne_bool, add_int, sub_int, Option.getD_none, Option.bind_some, Option.map_some, ltD_l, ltD_t, lstD_l, List.length_cons, List.length_nil, Nat.zero_add, Bool.and_true, Bool.true_and, true_and, parW, sets_n, sets_c, Bool.not_true, Bool.not_false]
  rw [add_list, if_pos (small_le (by rw [List.length_map]; cases one <;> simp <;> omega)), lift_some]
  have := h (some (.sh (.bool one)))
  cases one
  · simpa [sl] using this
  · simpa [sl, ip] using this
theorem r8_3 {a b : Int} {one : Bool} (hi : names[i]? = some a) (hj : names[jn]? = some b) (hl : ps.length ≤ 200) (h : ∀ (one : Bool) (x10 : Option B), K.nx (sl most jn n way share names (if one then ps ++ [(a, b)] else ps) i x10)) : execs (CF (k + 2)) b8_3 (sl most jn n way share names ps i (some (.sh (.bool one)))) K := by
  have fin : ∀ one : Bool, execs (CF (k + 2)) b8_2 (sl most jn n way share names ps i (some (.sh (.bool one)))) K := fun one => r8_2 hi hj hl (h one)
  unfold b8_3
  have fin' := fin
  unfold sl at fin ⊢
  unfold b8_1
  simp only [execs, exec, ev, tst, bor, arg, evs, evb, eva, evo, evc, evi, look_z, look_s, lookB_z, lookB_o, lookB_s, lookA_z, lookA_c, lookA_s, lookO_o, lookO_s, lift_some, lift_none, List.getElem?_cons_zero, List.getElem?_cons_succ, List.set_cons_zero, List.set_cons_succ, koF, p_tuple_l, p_tuple_t, p_list_l, p_list_t, p_len_l, p_len_t, Bool.false_eq_true, if_false, if_true, truD_bool, asg_v, asg_t, asg_l, asgs_n, asgs_c, wipeN_n, wipeN_c, free_n, free_c, nOwn_n, nOwn_s, nOwn_c, idx0, idx1, inn_ips, nin_ips, nin_ints, eq_int, ne_int, lt_int, gt_int, ne_bool, add_int, sub_int, Option.getD_none, Option.bind_some, Option.map_some, ltD_l, ltD_t, lstD_l, List.length_cons, List.length_nil, Nat.zero_add, Bool.and_true, Bool.true_and, true_and, parW, sets_n, sets_c, Bool.not_true, Bool.not_false]
  split
  · simp only [fdiv2, lift_some, le_int, truD_bool, lt_int]
    split
    · split
      · simp only [ne_int, lift_some, truD_bool]
        split
        · refine s_pick (m := 8) (by decide) fun x _ _ => ?_
          simp only [gt_int, lift_some]
          exact fin _
        · exact fin _
      · exact fin _
    · exact fin _
  · exact fin _
theorem r8_4 {a b : Int} {x10 : Option B} (hsh : share < 1073741824) (hi : names[i]? = some a) (hj : names[jn]? = some b) (hl : ps.length ≤ 200) (h : ∀ (one : Bool) (x10 : Option B), K.nx (sl most jn n way share names (if one then ps ++ [(a, b)] else ps) i x10)) : execs (CF (k + 2)) b8_4 (sl most jn n way share names ps i x10) K := by
  have fin : ∀ one : Bool, execs (CF (k + 2)) b8_3 (sl most jn n way share names ps i (some (.sh (.bool one)))) K := fun one => r8_3 hi hj hl h
  unfold b8_4 b8_0
  unfold sl at fin ⊢
  simp only [execs, exec, ev, tst, bor, arg, evs, evb, eva, evo, evc, evi, look_z, look_s, lookB_z, lookB_o, lookB_s, lookA_z, lookA_c, lookA_s, lookO_o, lookO_s, lift_some, lift_none, List.getElem?_cons_zero, List.getElem?_cons_succ, List.set_cons_zero, List.set_cons_succ, koF, p_tuple_l, p_tuple_t, p_list_l, p_list_t, p_len_l, p_len_t, Bool.false_eq_true, if_false, if_true, truD_bool, asg_v, asg_t, asg_l, asgs_n, asgs_c, wipeN_n, wipeN_c, free_n, free_c, nOwn_n, nOwn_s, nOwn_c, idx0, idx1, inn_ips, nin_ips, nin_ints, eq_int, ne_int, lt_int, gt_int, ne_bool, add_int, sub_int, Option.getD_none, Option.bind_some, Option.map_some, ltD_l, ltD_t, lstD_l, List.length_cons, List.length_nil, Nat.zero_add, Bool.and_true, Bool.true_and, true_and, parW, sets_n, sets_c, Bool.not_true, Bool.not_false]
  refine s_pick (m := share) hsh fun x _ _ => ?_
  simp only [execs, exec, ev, tst, bor, arg, evs, evb, eva, evo, evc, evi, look_z, look_s, lookB_z, lookB_o, lookB_s, lookA_z, lookA_c, lookA_s, lookO_o, lookO_s, lift_some, lift_none, List.getElem?_cons_zero, List.getElem?_cons_succ, List.set_cons_zero, List.set_cons_succ, koF, p_tuple_l, p_tuple_t, p_list_l, p_list_t, p_len_l, p_len_t, Bool.false_eq_true, if_false, if_true, truD_bool, asg_v, asg_t, asg_l, asgs_n, asgs_c, wipeN_n, wipeN_c, free_n, free_c, nOwn_n, nOwn_s, nOwn_c, idx0, idx1, inn_ips, nin_ips, nin_ints, eq_int, ne_int, lt_int, gt_int, ne_bool, add_int, sub_int, Option.getD_none, Option.bind_some, Option.map_some, ltD_l, ltD_t, lstD_l, List.length_cons, List.length_nil, Nat.zero_add, Bool.and_true, Bool.true_and, true_and, parW, sets_n, sets_c, Bool.not_true, Bool.not_false]
  split
  · rw [p_intI, lift_some, mod2]
    simp only [execs, exec, ev, tst, bor, arg, evs, evb, eva, evo, evc, evi, look_z, look_s, lookB_z, lookB_o, lookB_s, lookA_z, lookA_c, lookA_s, lookO_o, lookO_s, lift_some, lift_none, List.getElem?_cons_zero, List.getElem?_cons_succ, List.set_cons_zero, List.set_cons_succ, koF, p_tuple_l, p_tuple_t, p_list_l, p_list_t, p_len_l, p_len_t, Bool.false_eq_true, if_false, if_true, truD_bool, asg_v, asg_t, asg_l, asgs_n, asgs_c, wipeN_n, wipeN_c, free_n, free_c, nOwn_n, nOwn_s, nOwn_c, idx0, idx1, inn_ips, nin_ips, nin_ints, eq_int, ne_int, lt_int, gt_int, ne_bool, add_int, sub_int, Option.getD_none, Option.bind_some, Option.map_some, ltD_l, ltD_t, lstD_l, List.length_cons, List.length_nil, Nat.zero_add, Bool.and_true, Bool.true_and, true_and, parW, sets_n, sets_c, Bool.not_true, Bool.not_false]
    split
    · refine s_pick (m := 4) (by decide) fun y _ _ => ?_
      simp only [gt_int, lift_some]
      exact fin _
    · exact fin _
  · exact fin _
theorem s_order {most : Int} (hm : 1 ≤ most) (hm2 : most ≤ 10) (q : ∀ (n : Nat) (ps : List (Int × Int)) (names : List Int), 1 ≤ n → n ≤ 10 → GO n ps → names.Perm (rg n) → (∀ p ∈ ps, Ahead names p) → Q (ordD n ps)) : CF (k + 3) 8 [.src, .sh (.int 1), .sh (.int most)] Q := by
  show _ ∧ _ ∧ execs _ b8 _ _
  refine ⟨rfl, rfl, ?_⟩
  rw [show startN 11 [.src, .sh (.int 1), .sh (.int most)] = [some .src, some (.sh (.int 1)), some (.sh (.int most)), none, none, none, none, none, none, none, none] from rfl]
  unfold b8
  simp only [execs, exec, ev, tst, bor, arg, evs, evb, eva, evo, evc, evi, look_z, look_s, lookB_z, lookB_o, lookB_s, lookA_z, lookA_c, lookA_s, lookO_o, lookO_s, lift_some, lift_none, List.getElem?_cons_zero, List.getElem?_cons_succ, List.set_cons_zero, List.set_cons_succ, koF, p_tuple_l, p_tuple_t, p_list_l, p_list_t, p_len_l, p_len_t, Bool.false_eq_true, if_false, if_true, truD_bool, asg_v, asg_t, asg_l, asgs_n, asgs_c, wipeN_n, wipeN_c, free_n, free_c, nOwn_n, nOwn_s, nOwn_c, idx0, idx1, inn_ips, nin_ips, nin_ints, eq_int, ne_int, lt_int, gt_int, ne_bool, add_int, sub_int, Option.getD_none, Option.bind_some, Option.map_some, ltD_l, ltD_t, lstD_l, List.length_cons, List.length_nil, Nat.zero_add, Bool.and_true, Bool.true_and, true_and, parW, sets_n, sets_c, Bool.not_true, Bool.not_false]
  refine s_pick (m := most - 1 + 1) (by omega) fun j1 j1a j1b => ?_
  obtain ⟨n, hn⟩ : ∃ n : Nat, 1 + j1 = n := ⟨(1 + j1).toNat, by omega⟩
  have hn1 : 1 ≤ n := by omega
  have hn10 : n ≤ 10 := by omega
  simp only [execs, exec, ev, tst, bor, arg, evs, evb, eva, evo, evc, evi, look_z, look_s, lookB_z, lookB_o, lookB_s, lookA_z, lookA_c, lookA_s, lookO_o, lookO_s, lift_some, lift_none, List.getElem?_cons_zero, List.getElem?_cons_succ, List.set_cons_zero, List.set_cons_succ, koF, p_tuple_l, p_tuple_t, p_list_l, p_list_t, p_len_l, p_len_t, Bool.false_eq_true, if_false, if_true, truD_bool, asg_v, asg_t, asg_l, asgs_n, asgs_c, wipeN_n, wipeN_c, free_n, free_c, nOwn_n, nOwn_s, nOwn_c, idx0, idx1, inn_ips, nin_ips, nin_ints, eq_int, ne_int, lt_int, gt_int, ne_bool, add_int, sub_int, Option.getD_none, Option.bind_some, Option.map_some, ltD_l, ltD_t, lstD_l, List.length_cons, List.length_nil, Nat.zero_add, Bool.and_true, Bool.true_and, true_and, parW, sets_n, sets_c, Bool.not_true, Bool.not_false]
  rw [hn]
  refine ⟨fun z => z.elim, s_pick (m := 4) (by decide) fun way w1 w2 => ⟨fun z => z.elim, s_pick (m := 5) (by decide) fun sh s1 s2 => ?_⟩⟩
  simp only [execs, exec, ev, tst, bor, arg, evs, evb, eva, evo, evc, evi, look_z, look_s, lookB_z, lookB_o, lookB_s, lookA_z, lookA_c, lookA_s, lookO_o, lookO_s, lift_some, lift_none, List.getElem?_cons_zero, List.getElem?_cons_succ, List.set_cons_zero, List.set_cons_succ, koF, p_tuple_l, p_tuple_t, p_list_l, p_list_t, p_len_l, p_len_t, Bool.false_eq_true, if_false, if_true, truD_bool, asg_v, asg_t, asg_l, asgs_n, asgs_c, wipeN_n, wipeN_c, free_n, free_c, nOwn_n, nOwn_s, nOwn_c, idx0, idx1, inn_ips, nin_ips, nin_ints, eq_int, ne_int, lt_int, gt_int, ne_bool, add_int, sub_int, Option.getD_none, Option.bind_some, Option.map_some, ltD_l, ltD_t, lstD_l, List.length_cons, List.length_nil, Nat.zero_add, Bool.and_true, Bool.true_and, true_and, parW, sets_n, sets_c, Bool.not_true, Bool.not_false]
  refine ⟨fun z => z.elim, ?_⟩
  rw [rng_nat (by omega)]
  simp only [execs, exec, ev, tst, bor, arg, evs, evb, eva, evo, evc, evi, look_z, look_s, lookB_z, lookB_o, lookB_s, lookA_z, lookA_c, lookA_s, lookO_o, lookO_s, lift_some, lift_none, List.getElem?_cons_zero, List.getElem?_cons_succ, List.set_cons_zero, List.set_cons_succ, koF, p_tuple_l, p_tuple_t, p_list_l, p_list_t, p_len_l, p_len_t, Bool.false_eq_true, if_false, if_true, truD_bool, asg_v, asg_t, asg_l, asgs_n, asgs_c, wipeN_n, wipeN_c, free_n, free_c, nOwn_n, nOwn_s, nOwn_c, idx0, idx1, inn_ips, nin_ips, nin_ints, eq_int, ne_int, lt_int, gt_int, ne_bool, add_int, sub_int, Option.getD_none, Option.bind_some, Option.map_some, ltD_l, ltD_t, lstD_l, List.length_cons, List.length_nil, Nat.zero_add, Bool.and_true, Bool.true_and, true_and, parW, sets_n, sets_c, Bool.not_true, Bool.not_false]
  refine s_mixed (by rw [rg_len]; omega) fun names hp => ⟨fun z => z.elim, Nat.zero_le _, fun z => z.elim, ?_⟩
  have nl : names.length = n := by rw [hp.length_eq, rg_len]
  have nd : names.Nodup := hp.nodup_iff.mpr ((rg_srt n).imp fun h e => by omega)
  have m5 : max (1 : Int) 5 = 5 := by decide
  refine forW_inv (fun i ρ => ∃ (ps : List (Int × Int)) (x3 x9 x10 : Option B), ρ = [some .src, some (.sh (.int 1)), some (.sh (.int most)), x3, some (.sh (.int n)), some (.sh (.int way)), some (.sh (.int (2 + sh))), some (.sh (.list (names.map .int))), some (.sh (.list (ps.map ip))), x9, x10] ∧ ps.length ≤ 10 * i ∧ ∀ p ∈ ps, Ahead names p) ⟨[], none, none, none, rfl, by simp, by simp⟩ ?_ ?_
  · rintro j hj ρ ⟨ps, x3, x9, x10, rfl, hl, hA⟩ K2 hK2
    have hj' : j < (rg n).length := by simpa using hj
    have hj10 : j < n := by rw [rg_len] at hj'; exact hj'
    have ej : (rg n)[j] = (j : Int) := rg_at hj'
    rw [List.getElem_map, ej]
    simp only [execs, exec, ev, tst, bor, arg, evs, evb, eva, evo, evc, evi, look_z, look_s, lookB_z, lookB_o, lookB_s, lookA_z, lookA_c, lookA_s, lookO_o, lookO_s, lift_some, lift_none, List.getElem?_cons_zero, List.getElem?_cons_succ, List.set_cons_zero, List.set_cons_succ, koF, p_tuple_l, p_tuple_t, p_list_l, p_list_t, p_len_l, p_len_t, Bool.false_eq_true, if_false, if_true, truD_bool, asg_v, asg_t, asg_l, asgs_n, asgs_c, wipeN_n, wipeN_c, free_n, free_c, nOwn_n, nOwn_s, nOwn_c, idx0, idx1, inn_ips, nin_ips, nin_ints, eq_int, ne_int, lt_int, gt_int, ne_bool, add_int, sub_int, Option.getD_none, Option.bind_some, Option.map_some, ltD_l, ltD_t, lstD_l, List.length_cons, List.length_nil, Nat.zero_add, Bool.and_true, Bool.true_and, true_and, parW, sets_n, sets_c, Bool.not_true, Bool.not_false]
    rw [rng_nat (show j ≤ 1000 by omega)]
    simp only [execs, exec, ev, tst, bor, arg, evs, evb, eva, evo, evc, evi, look_z, look_s, lookB_z, lookB_o, lookB_s, lookA_z, lookA_c, lookA_s, lookO_o, lookO_s, lift_some, lift_none, List.getElem?_cons_zero, List.getElem?_cons_succ, List.set_cons_zero, List.set_cons_succ, koF, p_tuple_l, p_tuple_t, p_list_l, p_list_t, p_len_l, p_len_t, Bool.false_eq_true, if_false, if_true, truD_bool, asg_v, asg_t, asg_l, asgs_n, asgs_c, wipeN_n, wipeN_c, free_n, free_c, nOwn_n, nOwn_s, nOwn_c, idx0, idx1, inn_ips, nin_ips, nin_ints, eq_int, ne_int, lt_int, gt_int, ne_bool, add_int, sub_int, Option.getD_none, Option.bind_some, Option.map_some, ltD_l, ltD_t, lstD_l, List.length_cons, List.length_nil, Nat.zero_add, Bool.and_true, Bool.true_and, true_and, parW, sets_n, sets_c, Bool.not_true, Bool.not_false]
    refine forW_inv (fun i ρ => ∃ (ps : List (Int × Int)) (x9 x10 : Option B), ρ = [some .src, some (.sh (.int 1)), some (.sh (.int most)), some (.sh (.int j)), some (.sh (.int n)), some (.sh (.int way)), some (.sh (.int (2 + sh))), some (.sh (.list (names.map .int))), some (.sh (.list (ps.map ip))), x9, x10] ∧ ps.length ≤ 10 * j + i ∧ ∀ p ∈ ps, Ahead names p) ⟨ps, x9, x10, rfl, by omega, hA⟩ ?_ ?_
    · rintro i hi ρ ⟨ps, x9, x10, rfl, hl, hA⟩ K3 hK3
      have hi' : i < (rg j).length := by simpa using hi
      have hij : i < j := by rw [rg_len] at hi'; exact hi'
      have ei : (rg j)[i] = (i : Int) := rg_at hi'
      rw [List.getElem_map, ei]
      simp only [execs, exec, ev, tst, bor, arg, evs, evb, eva, evo, evc, evi, look_z, look_s, lookB_z, lookB_o, lookB_s, lookA_z, lookA_c, lookA_s, lookO_o, lookO_s, lift_some, lift_none, List.getElem?_cons_zero, List.getElem?_cons_succ, List.set_cons_zero, List.set_cons_succ, koF, p_tuple_l, p_tuple_t, p_list_l, p_list_t, p_len_l, p_len_t, Bool.false_eq_true, if_false, if_true, truD_bool, asg_v, asg_t, asg_l, asgs_n, asgs_c, wipeN_n, wipeN_c, free_n, free_c, nOwn_n, nOwn_s, nOwn_c, idx0, idx1, inn_ips, nin_ips, nin_ints, eq_int, ne_int, lt_int, gt_int, ne_bool, add_int, sub_int, Option.getD_none, Option.bind_some, Option.map_some, ltD_l, ltD_t, lstD_l, List.length_cons, List.length_nil, Nat.zero_add, Bool.and_true, Bool.true_and, true_and, parW, sets_n, sets_c, Bool.not_true, Bool.not_false]
      have ga : names[i]? = some names[i] := List.getElem?_eq_getElem (by omega)
      have gb : names[j]? = some names[j] := List.getElem?_eq_getElem (by omega)
      refine r8_4 (most := most) (n := n) (way := way) (share := 2 + sh) (x10 := x10) (by omega) ga gb (by omega) fun one x10' => ?_
      refine hK3 _ ⟨if one then ps ++ [(names[i], names[j])] else ps, _, x10', rfl, ?_, ?_⟩
      · cases one <;> simp <;> omega
      · intro p hp'
        cases one
        · exact hA p (by simpa using hp')
        · rcases List.mem_append.mp (show p ∈ ps ++ [(names[i], names[j])] from by simpa using hp') with h | h
          · exact hA p h
          · have : p = (names[i], names[j]) := by simpa using h
            rw [this]; exact ⟨i, j, hij, ga, gb⟩
    · rintro ρ ⟨ps, x9, x10, rfl, hl, hA⟩
      rw [List.length_map, rg_len] at hl
      exact hK2 _ ⟨ps, _, _, _, rfl, by omega, hA⟩
  · rintro ρ ⟨ps, x3, x9, x10, rfl, hl, hA⟩
    simp only [execs, exec, ev, tst, bor, arg, evs, evb, eva, evo, evc, evi, look_z, look_s, lookB_z, lookB_o, lookB_s, lookA_z, lookA_c, lookA_s, lookO_o, lookO_s, lift_some, lift_none, List.getElem?_cons_zero, List.getElem?_cons_succ, List.set_cons_zero, List.set_cons_succ, koF, p_tuple_l, p_tuple_t, p_list_l, p_list_t, p_len_l, p_len_t, Bool.false_eq_true, if_false, if_true, truD_bool, asg_v, asg_t, asg_l, asgs_n, asgs_c, wipeN_n, wipeN_c, free_n, free_c, nOwn_n, nOwn_s, nOwn_c, idx0, idx1, inn_ips, nin_ips, nin_ints, eq_int, ne_int, lt_int, gt_int, ne_bool, add_int, sub_int, Option.getD_none, Option.bind_some, Option.map_some, ltD_l, ltD_t, lstD_l, List.length_cons, List.length_nil, Nat.zero_add, Bool.and_true, Bool.true_and, true_and, parW, sets_n, sets_c, Bool.not_true, Bool.not_false]
    refine s_closed (T := fun p => Ahead names p) hn10 (fun a k b h1 h2 => h1.trans nd h2) (fun p hA => ?_) hA fun qs g hq => q n qs names hn1 hn10 g hp hq
    obtain ⟨i, j, _, hi, hj⟩ := hA
    have m1 := mem_rg.mp (hp.mem_iff.mp (List.mem_of_getElem? hi))
    have m2 := mem_rg.mp (hp.mem_iff.mp (List.mem_of_getElem? hj))
    exact ⟨m1.1, m1.2, m2.1, m2.2⟩
end
end PD
set_option maxHeartbeats 4000000
/-! K49h: the law's own look at greedy lists. -/
namespace PD
open PySem L2
theorem ones_ok {α : Type} (xs : List α) : PyData.canLayAll0 (xs.map fun _ => PyData.int 1) = true := canLayAll_of fun d hd => by
  obtain ⟨a, _, rfl⟩ := List.mem_map.mp hd
  exact canLay_int 1
theorem isEmpty_filter {α : Type} (p : α → Bool) (xs : List α) : (xs.filter p).isEmpty = !(xs.any p) := by
  rw [Bool.eq_iff_iff, List.isEmpty_iff, List.filter_eq_nil_iff]
  simp
section
variable {k : Nat} {Q : D → Prop} {n : Int} {ps : List (Int × Int)} {ws : List Int}
theorem ord1 : idxD (ordD n ps) (.int 1) = some (.tuple (ps.map ip)) := idx1 _ _ _
theorem ord0 : idxD (ordD n ps) (.int 0) = some (.int n) := idx0 _ _
theorem r10_0 {a : Int} {K : Ko} {x3 x4 x5 : Option B} (h1 : 1 ≤ a) (h2 : a < ws.length) (hl : ws.length ≤ 1000)
    (hf : (a ∈ jumps ps ws ∧ badJ ps ws a = true) → K.rt (.bool false)) (hn : ¬ (a ∈ jumps ps ws ∧ badJ ps ws a = true) → ∀ x3 x4 x5, K.nx [some (.sh (ordD n ps)), some (.sh (tupI ws)), some (.sh (.int a)), x3, x4, x5, none, none]) :
    execs (CF k) b10_0 [some (.sh (ordD n ps)), some (.sh (tupI ws)), some (.sh (.int a)), x3, x4, x5, none, none] K := by
  unfold b10_0
  simp only [execs, exec, ev, tst, bor, arg, evs, evb, eva, evo, evc, evi, look_z, look_s, lookB_z, lookB_o, lookB_s, lookA_z, lookA_c, lookA_s, lookO_o, lookO_s, lift_some, lift_none, List.getElem?_cons_zero, List.getElem?_cons_succ, List.set_cons_zero, List.set_cons_succ, koF, p_tuple_l, p_tuple_t, p_list_l, p_list_t, p_len_l, p_len_t, Bool.false_eq_true, if_false, if_true, truD_bool, asg_v, asg_t, asg_l, asgs_n, asgs_c, wipeN_n, wipeN_c, free_n, free_c, nOwn_n, nOwn_s, nOwn_c, idx0, idx1, inn_ips, nin_ips, nin_ints, eq_int, ne_int, lt_int, gt_int, ne_bool, add_int, sub_int, Option.getD_none, Option.bind_some, Option.map_some, ltD_l, ltD_t, lstD_l, List.length_cons, List.length_nil, Nat.zero_add, Bool.and_true, Bool.true_and, true_and, parW, sets_n, sets_c, Bool.not_true, Bool.not_false]
  refine ⟨_, rfl, ?_⟩
  rw [slc_from (by omega) (by omega)]
  simp only [execs, exec, ev, tst, bor, arg, evs, evb, eva, evo, evc, evi, look_z, look_s, lookB_z, lookB_o, lookB_s, lookA_z, lookA_c, lookA_s, lookO_o, lookO_s, lift_some, lift_none, List.getElem?_cons_zero, List.getElem?_cons_succ, List.set_cons_zero, List.set_cons_succ, koF, p_tuple_l, p_tuple_t, p_list_l, p_list_t, p_len_l, p_len_t, Bool.false_eq_true, if_false, if_true, truD_bool, asg_v, asg_t, asg_l, asgs_n, asgs_c, wipeN_n, wipeN_c, free_n, free_c, nOwn_n, nOwn_s, nOwn_c, idx0, idx1, inn_ips, nin_ips, nin_ints, eq_int, ne_int, lt_int, gt_int, ne_bool, add_int, sub_int, Option.getD_none, Option.bind_some, Option.map_some, ltD_l, ltD_t, lstD_l, List.length_cons, List.length_nil, Nat.zero_add, Bool.and_true, Bool.true_and, true_and, parW, sets_n, sets_c, Bool.not_true, Bool.not_false]
  simp only [ltD_tupI, lift_some, ord1]
  refine lcW_filter (f := .int) (g := .int) (p := fun w => !((ws.drop a.toNat).any fun o => decide ((o, w) ∈ ps))) (fun w hw K2 hK2 => ?_) ?_
  · refine lcW_filter (f := .int) (g := fun _ => .int 1) (p := fun o => decide ((o, w) ∈ ps)) (fun o ho K3 hK3 => ?_) ?_
    · simp only [execs, exec, ev, tst, bor, arg, evs, evb, eva, evo, evc, evi, look_z, look_s, lookB_z, lookB_o, lookB_s, lookA_z, lookA_c, lookA_s, lookO_o, lookO_s, lift_some, lift_none, List.getElem?_cons_zero, List.getElem?_cons_succ, List.set_cons_zero, List.set_cons_succ, koF, p_tuple_l, p_tuple_t, p_list_l, p_list_t, p_len_l, p_len_t, Bool.false_eq_true, if_false, if_true, truD_bool, asg_v, asg_t, asg_l, asgs_n, asgs_c, wipeN_n, wipeN_c, free_n, free_c, nOwn_n, nOwn_s, nOwn_c, idx0, idx1, inn_ips, nin_ips, nin_ints, eq_int, ne_int, lt_int, gt_int, ne_bool, add_int, sub_int, Option.getD_none, Option.bind_some, Option.map_some, ltD_l, ltD_t, lstD_l, List.length_cons, List.length_nil, Nat.zero_add, Bool.and_true, Bool.true_and, true_and, parW, sets_n, sets_c, Bool.not_true, Bool.not_false]
      refine ⟨small_le (by decide), ?_⟩
      split at hK3 <;> simp_all
    · refine ⟨Nat.zero_le _, ?_⟩
      rw [eq_unit_l (ones_ok _), List.isEmpty_map, isEmpty_filter]
      simp only [execs, exec, ev, tst, bor, arg, evs, evb, eva, evo, evc, evi, look_z, look_s, lookB_z, lookB_o, lookB_s, lookA_z, lookA_c, lookA_s, lookO_o, lookO_s, lift_some, lift_none, List.getElem?_cons_zero, List.getElem?_cons_succ, List.set_cons_zero, List.set_cons_succ, koF, p_tuple_l, p_tuple_t, p_list_l, p_list_t, p_len_l, p_len_t, Bool.false_eq_true, if_false, if_true, truD_bool, asg_v, asg_t, asg_l, asgs_n, asgs_c, wipeN_n, wipeN_c, free_n, free_c, nOwn_n, nOwn_s, nOwn_c, idx0, idx1, inn_ips, nin_ips, nin_ints, eq_int, ne_int, lt_int, gt_int, ne_bool, add_int, sub_int, Option.getD_none, Option.bind_some, Option.map_some, ltD_l, ltD_t, lstD_l, List.length_cons, List.length_nil, Nat.zero_add, Bool.and_true, Bool.true_and, true_and, parW, sets_n, sets_c, Bool.not_true, Bool.not_false]
      cases hb : ((ws.drop a.toNat).any fun o => decide ((o, w) ∈ ps)) <;> rw [hb] at hK2 <;> simpa using hK2
  · have ef : (ws.drop a.toNat).filter (fun w => !((ws.drop a.toNat).any fun o => decide ((o, w) ∈ ps))) = freeW ps (ws.drop a.toNat) := rfl
    rw [ef]
    skip
    refine lcW_filter (f := .int) (g := .int) (p := fun w => decide ((wk ws (a - 1), w) ∈ ps)) (fun w hw K2 hK2 => ?_) ?_
    · skip
      rw [wk_at (by omega) (by omega)]
      simp only [execs, exec, ev, tst, bor, arg, evs, evb, eva, evo, evc, evi, look_z, look_s, lookB_z, lookB_o, lookB_s, lookA_z, lookA_c, lookA_s, lookO_o, lookO_s, lift_some, lift_none, List.getElem?_cons_zero, List.getElem?_cons_succ, List.set_cons_zero, List.set_cons_succ, koF, p_tuple_l, p_tuple_t, p_list_l, p_list_t, p_len_l, p_len_t, Bool.false_eq_true, if_false, if_true, truD_bool, asg_v, asg_t, asg_l, asgs_n, asgs_c, wipeN_n, wipeN_c, free_n, free_c, nOwn_n, nOwn_s, nOwn_c, idx0, idx1, inn_ips, nin_ips, nin_ints, eq_int, ne_int, lt_int, gt_int, ne_bool, add_int, sub_int, Option.getD_none, Option.bind_some, Option.map_some, ltD_l, ltD_t, lstD_l, List.length_cons, List.length_nil, Nat.zero_add, Bool.and_true, Bool.true_and, true_and, parW, sets_n, sets_c, Bool.not_true, Bool.not_false]
      refine ⟨small_le (by decide), ?_⟩
      split at hK2 <;> simp_all
    · skip
      rw [wk_at (by omega) (by omega), lift_some, wk_at (by omega) (by omega), lift_some]
      refine ⟨small_le (by decide), ?_⟩
      rw [nin_ips, lift_some, truD_bool, lift_some, ne_unit_l (canLay_ints _), List.isEmpty_map, isEmpty_filter, Bool.not_not, lift_some, truD_bool, lift_some]
      have hj : a ∈ jumps ps ws ↔ (wk ws (a - 1), wk ws a) ∉ ps := by
        unfold jumps
        simp only [List.mem_filter, mem_rg1]
        simp [h1, h2]
      by_cases hp : (wk ws (a - 1), wk ws a) ∈ ps
      · simp only [hp, decide_true, Bool.not_true, Bool.false_eq_true, if_false]
        exact hn (fun z => (hj.mp z.1) hp) _ _ _
      · simp only [hp, decide_false, Bool.not_false, if_true]
        refine ⟨Nat.zero_le _, ?_⟩
        cases hb : badJ ps ws a with
        | true =>
          have hb' := hb
          unfold badJ at hb'
          rw [hb']
          simp only [execs, exec, ev, tst, bor, arg, evs, evb, eva, evo, evc, evi, look_z, look_s, lookB_z, lookB_o, lookB_s, lookA_z, lookA_c, lookA_s, lookO_o, lookO_s, lift_some, lift_none, List.getElem?_cons_zero, List.getElem?_cons_succ, List.set_cons_zero, List.set_cons_succ, koF, p_tuple_l, p_tuple_t, p_list_l, p_list_t, p_len_l, p_len_t, Bool.false_eq_true, if_false, if_true, truD_bool, asg_v, asg_t, asg_l, asgs_n, asgs_c, wipeN_n, wipeN_c, free_n, free_c, nOwn_n, nOwn_s, nOwn_c, idx0, idx1, inn_ips, nin_ips, nin_ints, eq_int, ne_int, lt_int, gt_int, ne_bool, add_int, sub_int, Option.getD_none, Option.bind_some, Option.map_some, ltD_l, ltD_t, lstD_l, List.length_cons, List.length_nil, Nat.zero_add, Bool.and_true, Bool.true_and, true_and, parW, sets_n, sets_c, Bool.not_true, Bool.not_false]
          exact hf ⟨hj.mpr hp, hb⟩
        | false =>
          have hb' := hb
          unfold badJ at hb'
          rw [hb']
          simp only [execs, exec, ev, tst, bor, arg, evs, evb, eva, evo, evc, evi, look_z, look_s, lookB_z, lookB_o, lookB_s, lookA_z, lookA_c, lookA_s, lookO_o, lookO_s, lift_some, lift_none, List.getElem?_cons_zero, List.getElem?_cons_succ, List.set_cons_zero, List.set_cons_succ, koF, p_tuple_l, p_tuple_t, p_list_l, p_list_t, p_len_l, p_len_t, Bool.false_eq_true, if_false, if_true, truD_bool, asg_v, asg_t, asg_l, asgs_n, asgs_c, wipeN_n, wipeN_c, free_n, free_c, nOwn_n, nOwn_s, nOwn_c, idx0, idx1, inn_ips, nin_ips, nin_ints, eq_int, ne_int, lt_int, gt_int, ne_bool, add_int, sub_int, Option.getD_none, Option.bind_some, Option.map_some, ltD_l, ltD_t, lstD_l, List.length_cons, List.length_nil, Nat.zero_add, Bool.and_true, Bool.true_and, true_and, parW, sets_n, sets_c, Bool.not_true, Bool.not_false]
          exact hn (fun z => by rw [hb] at z; cases z.2) _ _ _
theorem s_lawGreedy (h : ws.length ≤ 1000) (q : Q (.bool (greedy ps ws))) : CF (k + 1) 10 [.sh (ordD n ps), .sh (tupI ws)] Q := by
  show _ ∧ _ ∧ execs _ b10 _ _
  refine ⟨rfl, rfl, ?_⟩
  rw [show startN 8 [.sh (ordD n ps), .sh (tupI ws)] = [some (.sh (ordD n ps)), some (.sh (tupI ws)), none, none, none, none, none, none] from rfl]
  unfold b10
  simp only [execs, exec, ev, tst, bor, arg, evs, evb, eva, evo, evc, evi, look_z, look_s, lookB_z, lookB_o, lookB_s, lookA_z, lookA_c, lookA_s, lookO_o, lookO_s, lift_some, lift_none, List.getElem?_cons_zero, List.getElem?_cons_succ, List.set_cons_zero, List.set_cons_succ, koF, p_tuple_l, p_tuple_t, p_list_l, p_list_t, p_len_l, p_len_t, Bool.false_eq_true, if_false, if_true, truD_bool, asg_v, asg_t, asg_l, asgs_n, asgs_c, wipeN_n, wipeN_c, free_n, free_c, nOwn_n, nOwn_s, nOwn_c, idx0, idx1, inn_ips, nin_ips, nin_ints, eq_int, ne_int, lt_int, gt_int, ne_bool, add_int, sub_int, Option.getD_none, Option.bind_some, Option.map_some, ltD_l, ltD_t, lstD_l, List.length_cons, List.length_nil, Nat.zero_add, Bool.and_true, Bool.true_and, true_and, parW, sets_n, sets_c, Bool.not_true, Bool.not_false]
  refine ⟨_, rfl, ?_⟩
  simp only [p_len_tupI, lift_some, Option.getD_some, rng1_nat h]
  refine forW_inv (fun i ρ => (∃ x2 x3 x4 x5, ρ = [some (.sh (ordD n ps)), some (.sh (tupI ws)), x2, x3, x4, x5, none, none]) ∧ ∀ a ∈ (rg1 ws.length).take i, ¬ (a ∈ jumps ps ws ∧ badJ ps ws a = true)) ⟨⟨none, none, none, none, rfl⟩, by simp⟩ ?_ ?_
  · rintro i hi ρ ⟨⟨x2, x3, x4, x5, rfl⟩, hI⟩ K hK
    have hi' : i < (rg1 ws.length).length := by simpa using hi
    have hm := mem_rg1.mp (List.getElem_mem hi')
    rw [List.getElem_map]
    simp only [execs, exec, ev, tst, bor, arg, evs, evb, eva, evo, evc, evi, look_z, look_s, lookB_z, lookB_o, lookB_s, lookA_z, lookA_c, lookA_s, lookO_o, lookO_s, lift_some, lift_none, List.getElem?_cons_zero, List.getElem?_cons_succ, List.set_cons_zero, List.set_cons_succ, koF, p_tuple_l, p_tuple_t, p_list_l, p_list_t, p_len_l, p_len_t, Bool.false_eq_true, if_false, if_true, truD_bool, asg_v, asg_t, asg_l, asgs_n, asgs_c, wipeN_n, wipeN_c, free_n, free_c, nOwn_n, nOwn_s, nOwn_c, idx0, idx1, inn_ips, nin_ips, nin_ints, eq_int, ne_int, lt_int, gt_int, ne_bool, add_int, sub_int, Option.getD_none, Option.bind_some, Option.map_some, ltD_l, ltD_t, lstD_l, List.length_cons, List.length_nil, Nat.zero_add, Bool.and_true, Bool.true_and, true_and, parW, sets_n, sets_c, Bool.not_true, Bool.not_false]
    refine r10_0 hm.1 hm.2 h (fun hb => ?_) fun hb x3 x4 x5 => ?_
    · have hg : greedy ps ws = false := by
        unfold greedy
        rw [← Bool.not_eq_true, List.all_eq_true]
        intro z
        have := z _ hb.1
        rw [hb.2] at this
        cases this
      rw [hg] at q
      exact q
    · refine hK _ ⟨⟨_, x3, x4, x5, rfl⟩, fun b hbm => ?_⟩
      rw [List.take_add_one, List.getElem?_eq_getElem hi'] at hbm
      rcases List.mem_append.mp hbm with h | h
      · exact hI b h
      · have : b = (rg1 ws.length)[i] := by simpa using h
        rw [this]; exact hb
  · rintro ρ ⟨⟨x2, x3, x4, x5, rfl⟩, hI⟩
    skip
    rw [List.length_map, List.take_length] at hI
    have hg : greedy ps ws = true := List.all_eq_true.mpr fun a ha => by
      have h1 := hI a (List.mem_filter.mp ha).1
      cases hb : badJ ps ws a with
      | false => rfl
      | true => exact absurd ⟨ha, hb⟩ h1
    rw [hg] at q
    exact q
end
end PD
set_option maxHeartbeats 4000000
/-! K49i: drawn lists of an order. -/
namespace PD
open PySem L2
/-- among works of names there is one with none ahead of it -/
theorem free_ex {names : List Int} {ps : List (Int × Int)} (nd : names.Nodup) (hA : ∀ p ∈ ps, Ahead names p) : ∀ {left : List Int}, left ≠ [] → (∀ x ∈ left, x ∈ names) → ∃ w ∈ left, ∀ o ∈ left, (o, w) ∉ ps := by
  intro left hne hsub
  -- the least place
  have key : ∀ (m : Nat) (w : Int), w ∈ left → names[m]? = some w → ∃ w ∈ left, ∀ o ∈ left, (o, w) ∉ ps := by
    intro m
    induction m using Nat.strongRecOn with
    | _ m ih =>
      intro w hw hm
      by_cases h : ∀ o ∈ left, (o, w) ∉ ps
      · exact ⟨w, hw, h⟩
      · have : ∃ o ∈ left, (o, w) ∈ ps := Classical.byContradiction fun z => h fun o ho hp => z ⟨o, ho, hp⟩
        obtain ⟨o, ho, hp⟩ := this
        obtain ⟨i, j, hij, hi, hj⟩ := hA _ hp
        have := nodup_at nd hj hm
        subst this
        exact ih i hij o ho hi
  cases left with
  | nil => exact absurd rfl hne
  | cons x l =>
    obtain ⟨m, h, e⟩ := List.getElem_of_mem (hsub x (List.mem_cons_self ..))
    exact key m x (List.mem_cons_self ..) (by rw [List.getElem?_eq_getElem h, e])
section
variable {k : Nat} {Q : D → Prop}
/-- one of a list -/
theorem s_of {xs : List Int} (hne : xs ≠ []) (hl : xs.length ≤ 1000) (q : ∀ x ∈ xs, Q (.int x)) : CF (k + 3) 6 [.src, .sh (.list (xs.map .int))] Q := by
  show _ ∧ _ ∧ execs _ b6 _ _
  refine ⟨rfl, rfl, ?_⟩
  rw [show startN 2 [.src, .sh (.list (xs.map .int))] = [some .src, some (.sh (.list (xs.map .int)))] from rfl]
  unfold b6
  simp only [execs, exec, ev, tst, bor, arg, evs, evb, eva, evo, evc, evi, look_z, look_s, lookB_z, lookB_o, lookB_s, lookA_z, lookA_c, lookA_s, lookO_o, lookO_s, lift_some, lift_none, List.getElem?_cons_zero, List.getElem?_cons_succ, List.set_cons_zero, List.set_cons_succ, koF, p_tuple_l, p_tuple_t, p_list_l, p_list_t, p_len_l, p_len_t, Bool.false_eq_true, if_false, if_true, truD_bool, asg_v, asg_t, asg_l, asgs_n, asgs_c, wipeN_n, wipeN_c, free_n, free_c, nOwn_n, nOwn_s, nOwn_c, idx0, idx1, inn_ips, nin_ips, nin_ints, eq_int, ne_int, lt_int, gt_int, ne_bool, add_int, sub_int, Option.getD_none, Option.bind_some, Option.map_some, ltD_l, ltD_t, lstD_l, List.length_cons, List.length_nil, Nat.zero_add, Bool.and_true, Bool.true_and, true_and, parW, sets_n, sets_c, Bool.not_true, Bool.not_false]
  rw [List.length_map]
  have hpos : 0 < xs.length := List.length_pos_iff.mpr hne
  refine s_pick (m := (xs.length : Int)) (by omega) fun j j1 j2 => ?_
  obtain ⟨x, hx, e⟩ := idx_li (xs := xs) (a := j) j1 (by omega)
  rw [e, lift_some]
  exact q x hx
theorem nin_intsL (a : Int) (xs : List Int) : copD .nin (.int a) (.list (xs.map .int)) = some (.bool (!decide (a ∈ xs))) := (in_of (f := PyData.int) eqv_int canLay_int (fun a => by rw [depth_int]; omega) true a xs).2
theorem inn_intsL (a : Int) (xs : List Int) : copD .inn (.int a) (.list (xs.map .int)) = some (.bool (decide (a ∈ xs))) := (in_of (f := PyData.int) eqv_int canLay_int (fun a => by rw [depth_int]; omega) false a xs).2
def leftW (n : Nat) (fs : List Int) : List Int := (rg n).filter fun w => !decide (w ∈ fs)
def someW (ps : List (Int × Int)) (left : List Int) : List Int := left.filter fun w => !(ps.any fun p => decide (p.2 = w) && decide (p.1 ∈ left))
def dl (n : Nat) (ps : List (Int × Int)) (fs : List Int) (x5 x6 : Option B) : Nv := [some .src, some (.sh (ordD n ps)), some (.sh (.tuple [])), some (.own (.list (fs.map .int))), some (.sh (.list (ps.map ip))), x5, x6, none, none, none]
theorem r9_1 {n : Nat} {ps : List (Int × Int)} {fs : List Int} {x5 x6 : Option B} {K : Ko} (hn : n ≤ 10) (hl : fs.length ≤ 100) (hs : someW ps (leftW n fs) ≠ []) (h : ∀ x ∈ someW ps (leftW n fs), ∀ x5 x6, K.nx (dl n ps (fs ++ [x]) x5 x6)) : execs (CF (k + 3)) b9_1 (dl n ps fs x5 x6) K := by
  unfold b9_1 b9_0 dl
  simp only [execs, exec, ev, tst, bor, arg, evs, evb, eva, evo, evc, evi, look_z, look_s, lookB_z, lookB_o, lookB_s, lookA_z, lookA_c, lookA_s, lookO_o, lookO_s, lift_some, lift_none, List.getElem?_cons_zero, List.getElem?_cons_succ, List.set_cons_zero, List.set_cons_succ, koF, p_tuple_l, p_tuple_t, p_list_l, p_list_t, p_len_l, p_len_t, Bool.false_eq_true, if_false, if_true, truD_bool, asg_v, asg_t, asg_l, asgs_n, asgs_c, wipeN_n, wipeN_c, free_n, free_c, nOwn_n, nOwn_s, nOwn_c, idx0, idx1, inn_ips, nin_ips, nin_ints, eq_int, ne_int, lt_int, gt_int, ne_bool, add_int, sub_int, Option.getD_none, Option.bind_some, Option.map_some, ltD_l, ltD_t, lstD_l, List.length_cons, List.length_nil, Nat.zero_add, Bool.and_true, Bool.true_and, true_and, parW, sets_n, sets_c, Bool.not_true, Bool.not_false]
  rw [ord0, lift_some, rng_nat (by omega), lift_some]
  have hll : (leftW n fs).length ≤ 10 := by
    unfold leftW
    refine Nat.le_trans (List.length_filter_le ..) ?_
    rw [rg_len]; exact hn
  refine lcW_filter (f := .int) (g := .int) (p := fun w => !decide (w ∈ fs)) (fun w hw K2 hK2 => ?_) ?_
  · rw [nin_intsL]
    simp only [execs, exec, ev, tst, bor, arg, evs, evb, eva, evo, evc, evi, look_z, look_s, lookB_z, lookB_o, lookB_s, lookA_z, lookA_c, lookA_s, lookO_o, lookO_s, lift_some, lift_none, List.getElem?_cons_zero, List.getElem?_cons_succ, List.set_cons_zero, List.set_cons_succ, koF, p_tuple_l, p_tuple_t, p_list_l, p_list_t, p_len_l, p_len_t, Bool.false_eq_true, if_false, if_true, truD_bool, asg_v, asg_t, asg_l, asgs_n, asgs_c, wipeN_n, wipeN_c, free_n, free_c, nOwn_n, nOwn_s, nOwn_c, idx0, idx1, inn_ips, nin_ips, nin_ints, eq_int, ne_int, lt_int, gt_int, ne_bool, add_int, sub_int, Option.getD_none, Option.bind_some, Option.map_some, ltD_l, ltD_t, lstD_l, List.length_cons, List.length_nil, Nat.zero_add, Bool.and_true, Bool.true_and, true_and, parW, sets_n, sets_c, Bool.not_true, Bool.not_false]
    split at hK2 <;> simp_all
  rw [show (rg n).filter (fun w => !decide (w ∈ fs)) = leftW n fs from rfl]
  generalize hL : leftW n fs = left at *
  refine lcW_filter (f := .int) (g := .int) (p := fun w => !(ps.any fun p => decide (p.2 = w) && decide (p.1 ∈ left))) (fun w hw K2 hK2 => ?_) ?_
  · refine lcW_filter (f := ip) (g := fun _ => .int 1) (p := fun p => decide (p.2 = w) && decide (p.1 ∈ left)) (fun p hp K3 hK3 => ?_) ?_
    · have e : ip p = .tuple [.int p.1, .int p.2] := rfl
      rw [e]
      simp only [execs, exec, ev, tst, bor, arg, evs, evb, eva, evo, evc, evi, look_z, look_s, lookB_z, lookB_o, lookB_s, lookA_z, lookA_c, lookA_s, lookO_o, lookO_s, lift_some, lift_none, List.getElem?_cons_zero, List.getElem?_cons_succ, List.set_cons_zero, List.set_cons_succ, koF, p_tuple_l, p_tuple_t, p_list_l, p_list_t, p_len_l, p_len_t, Bool.false_eq_true, if_false, if_true, truD_bool, asg_v, asg_t, asg_l, asgs_n, asgs_c, wipeN_n, wipeN_c, free_n, free_c, nOwn_n, nOwn_s, nOwn_c, idx0, idx1, inn_ips, nin_ips, nin_ints, eq_int, ne_int, lt_int, gt_int, ne_bool, add_int, sub_int, Option.getD_none, Option.bind_some, Option.map_some, ltD_l, ltD_t, lstD_l, List.length_cons, List.length_nil, Nat.zero_add, Bool.and_true, Bool.true_and, true_and, parW, sets_n, sets_c, Bool.not_true, Bool.not_false]
      by_cases h1 : p.2 = w
      · simp only [h1, decide_true, if_true, Bool.true_and] at hK3 ⊢
        rw [inn_intsL]
        simp only [execs, exec, ev, tst, bor, arg, evs, evb, eva, evo, evc, evi, look_z, look_s, lookB_z, lookB_o, lookB_s, lookA_z, lookA_c, lookA_s, lookO_o, lookO_s, lift_some, lift_none, List.getElem?_cons_zero, List.getElem?_cons_succ, List.set_cons_zero, List.set_cons_succ, koF, p_tuple_l, p_tuple_t, p_list_l, p_list_t, p_len_l, p_len_t, Bool.false_eq_true, if_false, if_true, truD_bool, asg_v, asg_t, asg_l, asgs_n, asgs_c, wipeN_n, wipeN_c, free_n, free_c, nOwn_n, nOwn_s, nOwn_c, idx0, idx1, inn_ips, nin_ips, nin_ints, eq_int, ne_int, lt_int, gt_int, ne_bool, add_int, sub_int, Option.getD_none, Option.bind_some, Option.map_some, ltD_l, ltD_t, lstD_l, List.length_cons, List.length_nil, Nat.zero_add, Bool.and_true, Bool.true_and, true_and, parW, sets_n, sets_c, Bool.not_true, Bool.not_false]
        split at hK3 <;> simp_all
      · simp only [h1, decide_false, Bool.false_eq_true, if_false, Bool.false_and] at hK3 ⊢
        exact hK3
    · refine ⟨Nat.zero_le _, ?_⟩
      rw [eq_unit_l (ones_ok _), List.isEmpty_map, isEmpty_filter]
      simp only [execs, exec, ev, tst, bor, arg, evs, evb, eva, evo, evc, evi, look_z, look_s, lookB_z, lookB_o, lookB_s, lookA_z, lookA_c, lookA_s, lookO_o, lookO_s, lift_some, lift_none, List.getElem?_cons_zero, List.getElem?_cons_succ, List.set_cons_zero, List.set_cons_succ, koF, p_tuple_l, p_tuple_t, p_list_l, p_list_t, p_len_l, p_len_t, Bool.false_eq_true, if_false, if_true, truD_bool, asg_v, asg_t, asg_l, asgs_n, asgs_c, wipeN_n, wipeN_c, free_n, free_c, nOwn_n, nOwn_s, nOwn_c, idx0, idx1, inn_ips, nin_ips, nin_ints, eq_int, ne_int, lt_int, gt_int, ne_bool, add_int, sub_int, Option.getD_none, Option.bind_some, Option.map_some, ltD_l, ltD_t, lstD_l, List.length_cons, List.length_nil, Nat.zero_add, Bool.and_true, Bool.true_and, true_and, parW, sets_n, sets_c, Bool.not_true, Bool.not_false]
      cases hb : (ps.any fun p => decide (p.2 = w) && decide (p.1 ∈ left)) <;> rw [hb] at hK2 <;> simpa using hK2
  rw [show left.filter (fun w => !(ps.any fun p => decide (p.2 = w) && decide (p.1 ∈ left))) = someW ps left from rfl]
  have hsl : (someW ps left).length ≤ 10 := Nat.le_trans (List.length_filter_le ..) hll
  refine ⟨Nat.zero_le _, ?_⟩
  rw [eq_unit_l (canLay_ints _), List.isEmpty_map]
  have he : (someW ps left).isEmpty = false := by
    cases hx : someW ps left with
    | nil => exact absurd hx hs
    | cons _ _ => rfl
  rw [he]
  simp only [execs, exec, ev, tst, bor, arg, evs, evb, eva, evo, evc, evi, look_z, look_s, lookB_z, lookB_o, lookB_s, lookA_z, lookA_c, lookA_s, lookO_o, lookO_s, lift_some, lift_none, List.getElem?_cons_zero, List.getElem?_cons_succ, List.set_cons_zero, List.set_cons_succ, koF, p_tuple_l, p_tuple_t, p_list_l, p_list_t, p_len_l, p_len_t, Bool.false_eq_true, if_false, if_true, truD_bool, asg_v, asg_t, asg_l, asgs_n, asgs_c, wipeN_n, wipeN_c, free_n, free_c, nOwn_n, nOwn_s, nOwn_c, idx0, idx1, inn_ips, nin_ips, nin_ints, eq_int, ne_int, lt_int, gt_int, ne_bool, add_int, sub_int, Option.getD_none, Option.bind_some, Option.map_some, ltD_l, ltD_t, lstD_l, List.length_cons, List.length_nil, Nat.zero_add, Bool.and_true, Bool.true_and, true_and, parW, sets_n, sets_c, Bool.not_true, Bool.not_false]
  refine s_of hs (by omega) fun x hx => ⟨small_lt (by rw [List.length_map]; omega), ?_⟩
  have := h x hx (some (.sh (.list (left.map .int)))) (some (.sh (.list ((someW ps left).map .int))))
  unfold dl at this
  rw [List.map_append] at this
  exact this
theorem someW_ne {n : Nat} {ps : List (Int × Int)} {names fs : List Int} (hp : names.Perm (rg n)) (hA : ∀ p ∈ ps, Ahead names p) (hl : fs.length < n) : someW ps (leftW n fs) ≠ [] := by
  have nd : names.Nodup := hp.nodup_iff.mpr ((rg_srt n).imp fun h e => by omega)
  have hne : leftW n fs ≠ [] := by
    intro z
    unfold leftW at z
    rw [List.filter_eq_nil_iff] at z
    have sub : ∀ x ∈ rg n, x ∈ fs := fun x hx => by
      have := z x hx
      simpa using this
    have := len_of_sub (rg n) fs ((rg_srt n).imp fun h e => by omega) sub
    rw [rg_len] at this
    omega
  obtain ⟨w, hw, ho⟩ := free_ex nd hA hne fun x hx => hp.mem_iff.mpr (List.mem_filter.mp hx).1
  intro z
  unfold someW at z
  rw [List.filter_eq_nil_iff] at z
  have := z w hw
  apply this
  rw [Bool.not_eq_true', List.any_eq_false]
  intro p hp
  rw [Bool.and_eq_true, decide_eq_true_iff, decide_eq_true_iff]
  rintro ⟨rfl, h2⟩
  exact ho p.1 h2 hp
theorem s_drawn {n : Nat} {ps : List (Int × Int)} {names : List Int} (hn : n ≤ 10) (hg : GO n ps) (hp : names.Perm (rg n)) (hA : ∀ p ∈ ps, Ahead names p) (q : ∀ ws : List Int, ws.length = n → (∀ x ∈ ws, x ∈ rg n) → Q (tupI ws)) : CF (k + 4) 9 [.src, .sh (ordD n ps), .sh (.tuple [])] Q := by
  show _ ∧ _ ∧ execs _ b9 _ _
  refine ⟨rfl, rfl, ?_⟩
  rw [show startN 10 [.src, .sh (ordD n ps), .sh (.tuple [])] = [some .src, some (.sh (ordD n ps)), some (.sh (.tuple [])), none, none, none, none, none, none, none] from rfl]
  unfold b9
  simp only [execs, exec, ev, tst, bor, arg, evs, evb, eva, evo, evc, evi, look_z, look_s, lookB_z, lookB_o, lookB_s, lookA_z, lookA_c, lookA_s, lookO_o, lookO_s, lift_some, lift_none, List.getElem?_cons_zero, List.getElem?_cons_succ, List.set_cons_zero, List.set_cons_succ, koF, p_tuple_l, p_tuple_t, p_list_l, p_list_t, p_len_l, p_len_t, Bool.false_eq_true, if_false, if_true, truD_bool, asg_v, asg_t, asg_l, asgs_n, asgs_c, wipeN_n, wipeN_c, free_n, free_c, nOwn_n, nOwn_s, nOwn_c, idx0, idx1, inn_ips, nin_ips, nin_ints, eq_int, ne_int, lt_int, gt_int, ne_bool, add_int, sub_int, Option.getD_none, Option.bind_some, Option.map_some, ltD_l, ltD_t, lstD_l, List.length_cons, List.length_nil, Nat.zero_add, Bool.and_true, Bool.true_and, true_and, parW, sets_n, sets_c, Bool.not_true, Bool.not_false]
  rw [ord1, lift_some]
  have hpl : ps.length ≤ 100 := len_inr10 hg.nodup hg.inr hn
  simp only [execs, exec, ev, tst, bor, arg, evs, evb, eva, evo, evc, evi, look_z, look_s, lookB_z, lookB_o, lookB_s, lookA_z, lookA_c, lookA_s, lookO_o, lookO_s, lift_some, lift_none, List.getElem?_cons_zero, List.getElem?_cons_succ, List.set_cons_zero, List.set_cons_succ, koF, p_tuple_l, p_tuple_t, p_list_l, p_list_t, p_len_l, p_len_t, Bool.false_eq_true, if_false, if_true, truD_bool, asg_v, asg_t, asg_l, asgs_n, asgs_c, wipeN_n, wipeN_c, free_n, free_c, nOwn_n, nOwn_s, nOwn_c, idx0, idx1, inn_ips, nin_ips, nin_ints, eq_int, ne_int, lt_int, gt_int, ne_bool, add_int, sub_int, Option.getD_none, Option.bind_some, Option.map_some, ltD_l, ltD_t, lstD_l, List.length_cons, List.length_nil, Nat.zero_add, Bool.and_true, Bool.true_and, true_and, parW, sets_n, sets_c, Bool.not_true, Bool.not_false]
  refine ⟨Nat.zero_le _, fun _ => rfl, ?_⟩
  rw [add_list, if_pos (small_le (by simp; omega)), lift_some, List.append_nil]
  refine ⟨fun z => z.elim, n + 1, ?_⟩
  have key : ∀ (m : Nat) (fs : List Int) (x5 x6 : Option B), fs.length + m = n → (∀ x ∈ fs, x ∈ rg n) → whileW (m + 1) (tst (callF (progOf rows) (k + 3)) (.e (.cmp .lt (.prim .len (.cons (.var 3) .nil)) (.idx (.var 1) (.cst (.int 0)))))) (fun ρ kk => execs (callF (progOf rows) (k + 3)) b9_1 ρ { nx := kk, rt := Q, bk := fun ρ' => execs (callF (progOf rows) (k + 3)) (.cons (.ret (.prim .tuple (.cons (.var 3) .nil))) .nil) ρ' (koF Q), ct := kk }) (dl n ps fs x5 x6) (fun ρ' => execs (callF (progOf rows) (k + 3)) (.cons (.ret (.prim .tuple (.cons (.var 3) .nil))) .nil) ρ' (koF Q)) := by
    intro m
    induction m with
    | zero =>
      intro fs x5 x6 hl hfs
      unfold whileW dl
      simp only [execs, exec, ev, tst, bor, arg, evs, evb, eva, evo, evc, evi, look_z, look_s, lookB_z, lookB_o, lookB_s, lookA_z, lookA_c, lookA_s, lookO_o, lookO_s, lift_some, lift_none, List.getElem?_cons_zero, List.getElem?_cons_succ, List.set_cons_zero, List.set_cons_succ, koF, p_tuple_l, p_tuple_t, p_list_l, p_list_t, p_len_l, p_len_t, Bool.false_eq_true, if_false, if_true, truD_bool, asg_v, asg_t, asg_l, asgs_n, asgs_c, wipeN_n, wipeN_c, free_n, free_c, nOwn_n, nOwn_s, nOwn_c, idx0, idx1, inn_ips, nin_ips, nin_ints, eq_int, ne_int, lt_int, gt_int, ne_bool, add_int, sub_int, Option.getD_none, Option.bind_some, Option.map_some, ltD_l, ltD_t, lstD_l, List.length_cons, List.length_nil, Nat.zero_add, Bool.and_true, Bool.true_and, true_and, parW, sets_n, sets_c, Bool.not_true, Bool.not_false]
      rw [ord0, lift_some, lt_int, lift_some, truD_bool, lift_some, List.length_map, decide_eq_false (by omega)]
      simp only [execs, exec, ev, tst, bor, arg, evs, evb, eva, evo, evc, evi, look_z, look_s, lookB_z, lookB_o, lookB_s, lookA_z, lookA_c, lookA_s, lookO_o, lookO_s, lift_some, lift_none, List.getElem?_cons_zero, List.getElem?_cons_succ, List.set_cons_zero, List.set_cons_succ, koF, p_tuple_l, p_tuple_t, p_list_l, p_list_t, p_len_l, p_len_t, Bool.false_eq_true, if_false, if_true, truD_bool, asg_v, asg_t, asg_l, asgs_n, asgs_c, wipeN_n, wipeN_c, free_n, free_c, nOwn_n, nOwn_s, nOwn_c, idx0, idx1, inn_ips, nin_ips, nin_ints, eq_int, ne_int, lt_int, gt_int, ne_bool, add_int, sub_int, Option.getD_none, Option.bind_some, Option.map_some, ltD_l, ltD_t, lstD_l, List.length_cons, List.length_nil, Nat.zero_add, Bool.and_true, Bool.true_and, true_and, parW, sets_n, sets_c, Bool.not_true, Bool.not_false]
      exact q fs (by omega) hfs
    | succ m ih =>
      intro fs x5 x6 hl hfs
      unfold whileW
      show tst _ _ (dl n ps fs x5 x6) _
      unfold dl
      simp only [execs, exec, ev, tst, bor, arg, evs, evb, eva, evo, evc, evi, look_z, look_s, lookB_z, lookB_o, lookB_s, lookA_z, lookA_c, lookA_s, lookO_o, lookO_s, lift_some, lift_none, List.getElem?_cons_zero, List.getElem?_cons_succ, List.set_cons_zero, List.set_cons_succ, koF, p_tuple_l, p_tuple_t, p_list_l, p_list_t, p_len_l, p_len_t, Bool.false_eq_true, if_false, if_true, truD_bool, asg_v, asg_t, asg_l, asgs_n, asgs_c, wipeN_n, wipeN_c, free_n, free_c, nOwn_n, nOwn_s, nOwn_c, idx0, idx1, inn_ips, nin_ips, nin_ints, eq_int, ne_int, lt_int, gt_int, ne_bool, add_int, sub_int, Option.getD_none, Option.bind_some, Option.map_some, ltD_l, ltD_t, lstD_l, List.length_cons, List.length_nil, Nat.zero_add, Bool.and_true, Bool.true_and, true_and, parW, sets_n, sets_c, Bool.not_true, Bool.not_false]
      rw [ord0, lift_some, lt_int, lift_some, truD_bool, lift_some, List.length_map, decide_eq_true (by omega)]
      simp only [execs, exec, ev, tst, bor, arg, evs, evb, eva, evo, evc, evi, look_z, look_s, lookB_z, lookB_o, lookB_s, lookA_z, lookA_c, lookA_s, lookO_o, lookO_s, lift_some, lift_none, List.getElem?_cons_zero, List.getElem?_cons_succ, List.set_cons_zero, List.set_cons_succ, koF, p_tuple_l, p_tuple_t, p_list_l, p_list_t, p_len_l, p_len_t, Bool.false_eq_true, if_false, if_true, truD_bool, asg_v, asg_t, asg_l, asgs_n, asgs_c, wipeN_n, wipeN_c, free_n, free_c, nOwn_n, nOwn_s, nOwn_c, idx0, idx1, inn_ips, nin_ips, nin_ints, eq_int, ne_int, lt_int, gt_int, ne_bool, add_int, sub_int, Option.getD_none, Option.bind_some, Option.map_some, ltD_l, ltD_t, lstD_l, List.length_cons, List.length_nil, Nat.zero_add, Bool.and_true, Bool.true_and, true_and, parW, sets_n, sets_c, Bool.not_true, Bool.not_false]
      exact r9_1 hn (by omega) (someW_ne hp hA (by omega)) fun x hx x5 x6 => ih (fs ++ [x]) x5 x6 (by simp; omega) fun y hy => (List.mem_append.mp hy).elim (hfs y) fun h => by
        have : y = x := by simpa using h
        rw [this]; exact (List.mem_filter.mp (List.mem_filter.mp hx).1).1
  exact key n [] none none (by simp) (by simp)
end
end PD
set_option maxHeartbeats 4000000
/-! K49j: runs. -/
namespace PD
open PySem L2
def slice (ws : List Int) (a b : Int) : List Int := (ws.drop a.toNat).take (b.toNat - a.toNat)
/-- the pieces between ends that follow each other -/
def cutsL (ws : List Int) : List Int → List (List Int)
  | a :: b :: r => slice ws a b :: cutsL ws (b :: r)
  | _ => []
theorem cutsL_snoc (ws : List Int) (m : Int) : ∀ (E : List Int) (h : E ≠ []), cutsL ws (E ++ [m]) = cutsL ws E ++ [slice ws (E.getLast h) m]
  | [a], _ => rfl
  | a :: b :: r, _ => by
    have ih := cutsL_snoc ws m (b :: r) (by simp)
    show slice ws a b :: cutsL ws (b :: r ++ [m]) = _
    rw [ih]
    simp [cutsL]
theorem last_snoc {α : Type} (a : α) : ∀ (l : List α) (h : l ++ [a] ≠ []), (l ++ [a]).getLast h = a
  | [], _ => rfl
  | [_], _ => rfl
  | _ :: b :: r, _ => last_snoc a (b :: r) (by simp)
theorem slice_succ {ws : List Int} {a : Int} {m : Nat} (h0 : 0 ≤ a) (h : a ≤ m) (hm : m < ws.length) : slice ws a ((m : Int) + 1) = slice ws a m ++ [wk ws m] := by
  unfold slice wk
  have e : ((m : Int) + 1).toNat - a.toNat = (m - a.toNat) + 1 := by omega
  rw [e, show ((m : Int)).toNat = m by omega, List.take_add_one, List.getElem?_drop, show a.toNat + (m - a.toNat) = m by omega, List.getElem?_eq_getElem hm]
  simp [List.getD, List.getElem?_eq_getElem hm]
/-- the jumps below m -/
def jb (ps : List (Int × Int)) (ws : List Int) (m : Nat) : List Int := (rg1 m).filter fun k => !decide ((wk ws (k - 1), wk ws k) ∈ ps)
theorem rg1_succ {m : Nat} (h : 1 ≤ m) : rg1 (m + 1) = rg1 m ++ [(m : Int)] := by
  unfold rg1
  obtain ⟨k, rfl⟩ : ∃ k, m = k + 1 := ⟨m - 1, by omega⟩
  simp [List.range_succ]
def runsTo (ps : List (Int × Int)) (ws : List Int) (m : Nat) : List (List Int) := cutsL ws ((0 :: jb ps ws m) ++ [(m : Int)])
theorem ends_ok (ps : List (Int × Int)) (ws : List Int) (m : Nat) (h1 : 1 ≤ m) : ∀ e ∈ (0 :: jb ps ws m), 0 ≤ e ∧ e ≤ (m : Int) := by
  intro e he
  rcases List.mem_cons.mp he with rfl | he
  · omega
  · have := mem_rg1.mp (List.mem_filter.mp he).1
    omega
/-- one work more -/
theorem runs_succ {ps : List (Int × Int)} {ws : List Int} {m : Nat} (h1 : 1 ≤ m) (hm : m < ws.length) : ∃ (A : List (List Int)) (B : List Int), runsTo ps ws m = A ++ [B] ∧
    runsTo ps ws (m + 1) = if (wk ws ((m : Int) - 1), wk ws m) ∈ ps then A ++ [B ++ [wk ws m]] else A ++ [B] ++ [[wk ws m]] := by
  have hne : (0 :: jb ps ws m) ≠ [] := by simp
  have hl := ends_ok ps ws m h1 _ (List.getLast_mem hne)
  refine ⟨cutsL ws (0 :: jb ps ws m), slice ws ((0 :: jb ps ws m).getLast hne) m, cutsL_snoc ws m _ hne, ?_⟩
  unfold runsTo
  have e : jb ps ws (m + 1) = jb ps ws m ++ (if (wk ws ((m : Int) - 1), wk ws m) ∈ ps then [] else [(m : Int)]) := by
    unfold jb
    rw [rg1_succ h1, List.filter_append]
    congr 1
    by_cases hp : (wk ws ((m : Int) - 1), wk ws m) ∈ ps <;> simp [hp]
  rw [e]
  by_cases hp : (wk ws ((m : Int) - 1), wk ws m) ∈ ps
  · rw [if_pos hp, if_pos hp, List.append_nil]
    have := cutsL_snoc ws ((m + 1 : Nat) : Int) _ hne
    rw [this, show ((m + 1 : Nat) : Int) = (m : Int) + 1 by omega, slice_succ hl.1 hl.2 hm]
  · rw [if_neg hp, if_neg hp]
    have hne2 : (0 :: jb ps ws m) ++ [(m : Int)] ≠ [] := by simp
    have := cutsL_snoc ws ((m + 1 : Nat) : Int) ((0 :: jb ps ws m) ++ [(m : Int)]) hne2
    rw [show (0 :: (jb ps ws m ++ [(m : Int)])) = (0 :: jb ps ws m) ++ [(m : Int)] by simp, this, cutsL_snoc ws m _ hne]
    congr 2
    rw [show ((0 :: jb ps ws m) ++ [(m : Int)]).getLast hne2 = (m : Int) from last_snoc _ _ _, show ((m + 1 : Nat) : Int) = (m : Int) + 1 by omega, slice_succ (by omega) (by omega) hm]
    unfold slice
    simp
theorem runs_one (ps : List (Int × Int)) {ws : List Int} (h : 1 ≤ ws.length) : runsTo ps ws 1 = [ws.take 1] := by
  unfold runsTo jb rg1
  simp [cutsL, slice]
end PD
set_option maxHeartbeats 4000000
/-! K49k: runs_of, _law_runs. -/
namespace PD
open PySem L2
theorem zip_self_tail : ∀ (E : List Int), List.zipWith pairT (E.map PyData.int) ((E.drop 1).map PyData.int) = (List.zip E (E.drop 1)).map fun p => .tuple [.int p.1, .int p.2]
  | [] => rfl
  | [_] => rfl
  | a :: b :: r => by
    have ih := zip_self_tail (b :: r)
    simp only [List.drop_one, List.tail_cons, List.map_cons, List.zipWith_cons_cons, List.zip_cons_cons] at ih ⊢
    rw [ih]; rfl
theorem cutsL_zip (ws : List Int) : ∀ E : List Int, (List.zip E (E.drop 1)).map (fun p => slice ws p.1 p.2) = cutsL ws E
  | [] => rfl
  | [_] => rfl
  | a :: b :: r => by
    have ih := cutsL_zip ws (b :: r)
    simp only [List.drop_one, List.tail_cons, List.zip_cons_cons, List.map_cons] at ih ⊢
    rw [ih]; rfl
section
variable {k : Nat} {Q : D → Prop} {n : Int} {ps : List (Int × Int)} {ws : List Int}
theorem slc_ab {a b : Int} (h0 : 0 ≤ a) (h1 : a ≤ b) (h2 : b ≤ ws.length) : slcD (tupI ws) (some a) (some b) = some (tupI (slice ws a b)) := by
  obtain ⟨i, rfl⟩ := Int.eq_ofNat_of_zero_le h0
  obtain ⟨j, rfl⟩ := Int.eq_ofNat_of_zero_le (Int.le_trans h0 h1)
  have hj : j ≤ ws.length := by omega
  have hi : i ≤ ws.length := by omega
  show some (PyData.tuple (cutL (ws.map .int) (some (i : Int)) (some (j : Int)))) = _
  unfold cutL tupI slice
  have e1 := HT.sIx_nat (ws.map PyData.int).length 0 i
  have e2 := HT.sIx_nat (ws.map PyData.int).length (ws.map PyData.int).length j
  rw [e1, e2, List.length_map, Nat.min_eq_left hi, Nat.min_eq_left hj, ← List.map_drop, ← List.map_take]
  simp
theorem slc_fromL {α : Type} {f : α → D} (xs : List α) : slcD (.list (xs.map f)) (some 1) none = some (.list ((xs.drop 1).map f)) := by
  show some (PyData.list (cutL (xs.map f) (some ((1 : Nat) : Int)) none)) = _
  unfold cutL
  have e1 := HT.sIx_nat (xs.map f).length 0 1
  have e2 : HT.sIx (xs.map f).length (xs.map f).length none = (xs.map f).length := HT.sIx_none _ _
  rw [e1, e2, ← List.map_drop, List.take_of_length_le (by rw [List.length_map, List.length_drop, List.length_map]; omega)]
  cases xs with
  | nil => simp
  | cons a r => simp
theorem slc_fromT {α : Type} {f : α → D} (xs : List α) : slcD (.tuple (xs.map f)) (some 1) none = some (.tuple ((xs.drop 1).map f)) := by
  have := slc_fromL (f := f) xs
  have h : ∀ ys zs : List D, slcD (.list ys) (some 1) none = some (.list zs) → slcD (.tuple ys) (some 1) none = some (.tuple zs) := by
    intro ys zs h
    have h' : some (PyData.list (cutL ys (some 1) none)) = some (.list zs) := h
    show some (PyData.tuple (cutL ys (some 1) none)) = _
    injection h' with h'
    injection h' with h'
    rw [h']
  exact h _ _ this
theorem zip_le : ∀ {E : List Int}, E.Pairwise (· ≤ ·) → ∀ p ∈ List.zip E (E.drop 1), p.1 ≤ p.2 ∧ p.1 ∈ E ∧ p.2 ∈ E
  | [], _, p, h => by simp at h
  | [_], _, p, h => by simp at h
  | a :: b :: r, hE, p, h => by
    have hE := List.pairwise_cons.mp hE
    simp only [List.drop_one, List.tail_cons, List.zip_cons_cons, List.mem_cons] at h
    rcases h with rfl | h
    · exact ⟨hE.1 b (List.mem_cons_self ..), by simp, by simp⟩
    · obtain ⟨h1, h2, h3⟩ := zip_le hE.2 p (by simpa using h)
      exact ⟨h1, List.mem_cons_of_mem _ h2, List.mem_cons_of_mem _ h3⟩
theorem rg1_srt (n : Nat) : (rg1 n).Pairwise (· < ·) := by
  unfold rg1
  rw [List.pairwise_map]
  exact List.pairwise_lt_range.imp fun {a b} h => by omega
theorem jumps_len : (jumps ps ws).length ≤ ws.length := by
  unfold jumps
  refine Nat.le_trans (List.length_filter_le ..) ?_
  unfold rg1
  rw [List.length_map, List.length_range]; omega
theorem ends_srt : (0 :: jumps ps ws ++ [(ws.length : Int)]).Pairwise (· ≤ ·) ∧ ∀ e ∈ 0 :: jumps ps ws ++ [(ws.length : Int)], 0 ≤ e ∧ e ≤ ws.length := by
  have hm : ∀ a ∈ jumps ps ws, 1 ≤ a ∧ a < ws.length := fun a ha => mem_rg1.mp (List.mem_filter.mp ha).1
  constructor
  · rw [List.cons_append, List.pairwise_cons]
    refine ⟨fun a ha => ?_, List.pairwise_append.mpr ⟨?_, by simp, fun a ha b hb => ?_⟩⟩
    · rcases List.mem_append.mp ha with h | h
      · have := hm a h; omega
      · have : a = ws.length := by simpa using h
        omega
    · have : (jumps ps ws).Pairwise (· < ·) := (rg1_srt _).sublist List.filter_sublist
      exact this.imp fun h => Int.le_of_lt h
    · have : b = ws.length := by simpa using hb
      have := hm a ha
      omega
  · intro e he
    rw [List.cons_append] at he
    rcases List.mem_cons.mp he with rfl | he
    · omega
    · rcases List.mem_append.mp he with h | h
      · have := hm e h; omega
      · have : e = ws.length := by simpa using h
        omega
theorem s_runs (h : ws.length ≤ 1000) (q : Q (.tuple ((runsTo ps ws ws.length).map tupI))) : CF (k + 2) 1 [.sh (ordD n ps), .sh (tupI ws)] Q := by
  show _ ∧ _ ∧ execs _ b1 _ _
  refine ⟨rfl, rfl, ?_⟩
  rw [show startN 5 [.sh (ordD n ps), .sh (tupI ws)] = [some (.sh (ordD n ps)), some (.sh (tupI ws)), none, none, none] from rfl]
  unfold b1
  simp only [execs, exec, ev, tst, bor, arg, evs, evb, eva, evo, evc, evi, look_z, look_s, lookB_z, lookB_o, lookB_s, lookA_z, lookA_c, lookA_s, lookO_o, lookO_s, lift_some, lift_none, List.getElem?_cons_zero, List.getElem?_cons_succ, List.set_cons_zero, List.set_cons_succ, koF, p_tuple_l, p_tuple_t, p_list_l, p_list_t, p_len_l, p_len_t, Bool.false_eq_true, if_false, if_true, truD_bool, asg_v, asg_t, asg_l, asgs_n, asgs_c, wipeN_n, wipeN_c, free_n, free_c, nOwn_n, nOwn_s, nOwn_c, idx0, idx1, inn_ips, nin_ips, nin_ints, eq_int, ne_int, lt_int, gt_int, ne_bool, add_int, sub_int, Option.getD_none, Option.bind_some, Option.map_some, ltD_l, ltD_t, lstD_l, List.length_cons, List.length_nil, Nat.zero_add, Bool.and_true, Bool.true_and, true_and, parW, sets_n, sets_c, Bool.not_true, Bool.not_false]
  refine s_jumps h ?_
  simp only [ltD_t, lift_some, p_len_tupI]
  have hj := jumps_len (ps := ps) (ws := ws)
  refine ⟨Nat.le_of_lt (small_lt (by simp; omega)), ?_⟩
  rw [show (PyData.int 0 :: ((jumps ps ws).map PyData.int ++ [.int ws.length])) = (0 :: jumps ps ws ++ [(ws.length : Int)]).map PyData.int by simp]
  obtain ⟨e1, e2⟩ := ends_srt (ps := ps) (ws := ws)
  generalize hE : (0 :: jumps ps ws ++ [(ws.length : Int)]) = E at *
  refine ⟨_, rfl, ?_⟩
  rw [slc_fromL]
  simp only [lift_some]
  rw [show zipD (.list (E.map .int)) (.list ((E.drop 1).map .int)) = some (List.zipWith pairT (E.map PyData.int) ((E.drop 1).map PyData.int)) from rfl, zip_self_tail, lift_some]
  refine lcW_all (f := ip) (g := fun p => tupI (slice ws p.1 p.2)) (fun p hp K hK => ?_) ?_
  · obtain ⟨h1, h2, h3⟩ := zip_le e1 p hp
    have b1 := e2 _ h2
    have b2 := e2 _ h3
    unfold ip
    simp only [execs, exec, ev, tst, bor, arg, evs, evb, eva, evo, evc, evi, look_z, look_s, lookB_z, lookB_o, lookB_s, lookA_z, lookA_c, lookA_s, lookO_o, lookO_s, lift_some, lift_none, List.getElem?_cons_zero, List.getElem?_cons_succ, List.set_cons_zero, List.set_cons_succ, koF, p_tuple_l, p_tuple_t, p_list_l, p_list_t, p_len_l, p_len_t, Bool.false_eq_true, if_false, if_true, truD_bool, asg_v, asg_t, asg_l, asgs_n, asgs_c, wipeN_n, wipeN_c, free_n, free_c, nOwn_n, nOwn_s, nOwn_c, idx0, idx1, inn_ips, nin_ips, nin_ints, eq_int, ne_int, lt_int, gt_int, ne_bool, add_int, sub_int, Option.getD_none, Option.bind_some, Option.map_some, ltD_l, ltD_t, lstD_l, List.length_cons, List.length_nil, Nat.zero_add, Bool.and_true, Bool.true_and, true_and, parW, sets_n, sets_c, Bool.not_true, Bool.not_false]
    refine ⟨_, rfl, _, rfl, ?_⟩
    rw [slc_ab b1.1 h1 b2.2, lift_some]
    exact hK
  · have : (List.zip E (E.drop 1)).map (fun p => tupI (slice ws p.1 p.2)) = (cutsL ws E).map tupI := by rw [← cutsL_zip, List.map_map]; rfl
    rw [this, ← hE]
    exact q
end
end PD
set_option maxHeartbeats 4000000
/-! K49m: _law_runs, _law_climbing. -/
namespace PD
open PySem L2
section
variable {k : Nat} {Q : D → Prop} {ps : List (Int × Int)} {ws : List Int}
theorem zipT : ∀ {i : Nat} {ws : List Int}, (List.zipWith pairT (ws.map PyData.int) ((ws.drop 1).map PyData.int)) = (List.zip ws (ws.drop 1)).map ip
  | _, [] => rfl
  | _, [_] => rfl
  | i, a :: b :: r => by
    have ih := zipT (i := i) (ws := b :: r)
    simp only [List.drop_one, List.tail_cons, List.map_cons, List.zipWith_cons_cons, List.zip_cons_cons] at ih ⊢
    rw [ih]; rfl
theorem idx_last {α : Type} {f : α → D} (A : List α) (b : α) : idxD (.list ((A ++ [b]).map f)) (.int (-1)) = some (f b) := by
  show atI _ _ = _
  unfold atI
  have : (-1 + ((A.length : Int) + 1)).toNat = A.length := by omega
  have h2 : (1 : Int) ≤ (A.length : Int) + 1 := by omega
  simp [ixN, seqIndex?, this, h2]
theorem setD_last {α : Type} {f : α → D} (A : List α) (b c : α) : setD (.list ((A ++ [b]).map f)) (.int (-1)) (f c) = some (.list ((A ++ [c]).map f)) := by
  show (ixN _ _).map _ = _
  have : (-1 + ((A.length : Int) + 1)).toNat = A.length := by omega
  have h2 : (1 : Int) ≤ (A.length : Int) + 1 := by omega
  simp [ixN, seqIndex?, this, h2]
theorem cuts_len (ws : List Int) : ∀ E : List Int, ∀ B ∈ cutsL ws E, B.length ≤ ws.length
  | [], _, h => by simp [cutsL] at h
  | [_], _, h => by simp [cutsL] at h
  | a :: b :: r, B, h => by
    rcases List.mem_cons.mp (show B ∈ slice ws a b :: cutsL ws (b :: r) from h) with rfl | h
    · unfold slice; rw [List.length_take, List.length_drop]; omega
    · exact cuts_len ws (b :: r) B h
theorem s_lawRuns {n : Int} (h1 : 1 ≤ ws.length) (h : ws.length ≤ 1000) (q : Q (.tuple ((runsTo ps ws ws.length).map tupI))) : CF (k + 1) 11 [.sh (ordD n ps), .sh (tupI ws)] Q := by
  show _ ∧ _ ∧ execs _ b11 _ _
  refine ⟨rfl, rfl, ?_⟩
  rw [show startN 5 [.sh (ordD n ps), .sh (tupI ws)] = [some (.sh (ordD n ps)), some (.sh (tupI ws)), none, none, none] from rfl]
  unfold b11
  simp only [execs, exec, ev, tst, bor, arg, evs, evb, eva, evo, evc, evi, look_z, look_s, lookB_z, lookB_o, lookB_s, lookA_z, lookA_c, lookA_s, lookO_o, lookO_s, lift_some, lift_none, List.getElem?_cons_zero, List.getElem?_cons_succ, List.set_cons_zero, List.set_cons_succ, koF, p_tuple_l, p_tuple_t, p_list_l, p_list_t, p_len_l, p_len_t, Bool.false_eq_true, if_false, if_true, truD_bool, asg_v, asg_t, asg_l, asgs_n, asgs_c, wipeN_n, wipeN_c, free_n, free_c, nOwn_n, nOwn_s, nOwn_c, idx0, idx1, inn_ips, nin_ips, nin_ints, eq_int, ne_int, lt_int, gt_int, ne_bool, add_int, sub_int, Option.getD_none, Option.bind_some, Option.map_some, ltD_l, ltD_t, lstD_l, List.length_cons, List.length_nil, Nat.zero_add, Bool.and_true, Bool.true_and, true_and, parW, sets_n, sets_c, Bool.not_true, Bool.not_false]
  refine ⟨_, rfl, ?_⟩
  rw [show slcD (tupI ws) none (some 1) = some (tupI (ws.take 1)) from by
    show some (PyData.tuple (cutL (ws.map .int) none (some ((1 : Nat) : Int)))) = _
    unfold cutL tupI
    have e1 := HT.sIx_nat (ws.map PyData.int).length (ws.map PyData.int).length 1
    have e2 : HT.sIx (ws.map PyData.int).length 0 none = 0 := HT.sIx_none _ _
    rw [e1, e2, List.drop_zero, Nat.sub_zero, List.length_map, Nat.min_eq_left h1, ← List.map_take], lift_some]
  refine ⟨small_le (by decide), rfl, _, rfl, ?_⟩
  rw [show tupI ws = .tuple (ws.map .int) from rfl, slc_fromT]
  simp only [lift_some]
  rw [show zipD (.tuple (ws.map .int)) (.tuple ((ws.drop 1).map .int)) = some (List.zipWith pairT (ws.map PyData.int) ((ws.drop 1).map PyData.int)) from rfl, zipT (i := 0), lift_some]
  have zl : (List.zip ws (ws.drop 1)).length = ws.length - 1 := by simp
  refine forW_inv (fun i ρ => ∃ x3 x4, ρ = [some (.sh (ordD n ps)), some (.sh (.tuple (ws.map .int))), some (.own (.list ((runsTo ps ws (i + 1)).map tupI))), x3, x4]) ⟨none, none, by rw [runs_one ps h1]; rfl⟩ ?_ ?_
  · rintro i hi ρ ⟨x3, x4, rfl⟩ K hK
    have hi' : i < (List.zip ws (ws.drop 1)).length := by simpa using hi
    have hi2 : i + 1 < ws.length := by omega
    rw [List.getElem_map]
    have ez : (List.zip ws (ws.drop 1))[i] = (wk ws i, wk ws ((i + 1 : Nat) : Int)) := by
      rw [List.getElem_zip]
      unfold wk
      simp [List.getD, List.getElem?_eq_getElem (show i < ws.length by omega), List.getElem?_eq_getElem hi2]
    rw [ez]
    unfold ip b11_1 b11_0
    simp only [execs, exec, ev, tst, bor, arg, evs, evb, eva, evo, evc, evi, look_z, look_s, lookB_z, lookB_o, lookB_s, lookA_z, lookA_c, lookA_s, lookO_o, lookO_s, lift_some, lift_none, List.getElem?_cons_zero, List.getElem?_cons_succ, List.set_cons_zero, List.set_cons_succ, koF, p_tuple_l, p_tuple_t, p_list_l, p_list_t, p_len_l, p_len_t, Bool.false_eq_true, if_false, if_true, truD_bool, asg_v, asg_t, asg_l, asgs_n, asgs_c, wipeN_n, wipeN_c, free_n, free_c, nOwn_n, nOwn_s, nOwn_c, idx0, idx1, inn_ips, nin_ips, nin_ints, eq_int, ne_int, lt_int, gt_int, ne_bool, add_int, sub_int, Option.getD_none, Option.bind_some, Option.map_some, ltD_l, ltD_t, lstD_l, List.length_cons, List.length_nil, Nat.zero_add, Bool.and_true, Bool.true_and, true_and, parW, sets_n, sets_c, Bool.not_true, Bool.not_false]
    refine ⟨small_le (by decide), ?_⟩
    rw [show idxD (ordD n ps) (.int 1) = some (.tuple (ps.map ip)) from idx1 _ _ _]
    simp only [execs, exec, ev, tst, bor, arg, evs, evb, eva, evo, evc, evi, look_z, look_s, lookB_z, lookB_o, lookB_s, lookA_z, lookA_c, lookA_s, lookO_o, lookO_s, lift_some, lift_none, List.getElem?_cons_zero, List.getElem?_cons_succ, List.set_cons_zero, List.set_cons_succ, koF, p_tuple_l, p_tuple_t, p_list_l, p_list_t, p_len_l, p_len_t, Bool.false_eq_true, if_false, if_true, truD_bool, asg_v, asg_t, asg_l, asgs_n, asgs_c, wipeN_n, wipeN_c, free_n, free_c, nOwn_n, nOwn_s, nOwn_c, idx0, idx1, inn_ips, nin_ips, nin_ints, eq_int, ne_int, lt_int, gt_int, ne_bool, add_int, sub_int, Option.getD_none, Option.bind_some, Option.map_some, ltD_l, ltD_t, lstD_l, List.length_cons, List.length_nil, Nat.zero_add, Bool.and_true, Bool.true_and, true_and, parW, sets_n, sets_c, Bool.not_true, Bool.not_false]
    obtain ⟨A, B, hA, hB⟩ := runs_succ (ps := ps) (ws := ws) (m := i + 1) (by omega) hi2
    rw [show ((i + 1 : Nat) : Int) - 1 = (i : Int) by omega] at hB
    rw [hA]
    have hAl : A.length ≤ 2000 := by
      have : (A ++ [B]).length ≤ i + 1 := by
        rw [← hA]
        have : ∀ E : List Int, (cutsL ws E).length = E.length - 1 := by
          intro E
          induction E with
          | nil => rfl
          | cons a E ih => cases E with
            | nil => rfl
            | cons b r => simp only [cutsL, List.length_cons, ih]; omega
        unfold runsTo
        rw [this]
        have : (jb ps ws (i + 1)).length ≤ i := by
          unfold jb rg1
          refine Nat.le_trans (List.length_filter_le ..) ?_
          simp
        simp; omega
      simp at this; omega
    have hBl : B.length ≤ ws.length := cuts_len ws _ B (by rw [show cutsL ws _ = A ++ [B] from hA]; simp)
    by_cases hp : (wk ws i, wk ws ((i + 1 : Nat) : Int)) ∈ ps
    · rw [if_pos hp] at hB
      simp only [hp, decide_true, if_true]
      rw [show negD (.int 1) = some (.int (-1)) from rfl]
      simp only [lift_some]
      rw [idx_last (f := tupI)]
      simp only [lift_some]
      refine ⟨small_le (by decide), ?_⟩
      rw [show binD .add (tupI B) (.tuple [.int (wk ws ((i + 1 : Nat) : Int))]) = some (tupI (B ++ [wk ws ((i + 1 : Nat) : Int)])) from by
        rw [show tupI B = .tuple (B.map .int) from rfl, add_tup, if_pos (Nat.le_of_lt (small_lt (by simp; omega))), show [PyData.int (wk ws ((i + 1 : Nat) : Int))] = [wk ws ((i + 1 : Nat) : Int)].map PyData.int from rfl, ← List.map_append]; rfl]
      simp only [lift_some]
      rw [setD_last (f := tupI)]
      simp only [lift_some]
      exact hK _ ⟨_, _, by rw [hB]⟩
    · rw [if_neg hp] at hB
      simp only [hp, decide_false, Bool.false_eq_true, if_false]
      refine ⟨small_le (by decide), small_lt (by simp; omega), hK _ ⟨some (.sh (.int (wk ws i))), some (.sh (.int (wk ws ((i + 1 : Nat) : Int)))), ?_⟩⟩
      rw [hB, List.map_append (l₁ := A ++ [B])]
      rfl
  · rintro ρ ⟨x3, x4, rfl⟩
    simp only [execs, exec, ev, tst, bor, arg, evs, evb, eva, evo, evc, evi, look_z, look_s, lookB_z, lookB_o, lookB_s, lookA_z, lookA_c, lookA_s, lookO_o, lookO_s, lift_some, lift_none, List.getElem?_cons_zero, List.getElem?_cons_succ, List.set_cons_zero, List.set_cons_succ, koF, p_tuple_l, p_tuple_t, p_list_l, p_list_t, p_len_l, p_len_t, Bool.false_eq_true, if_false, if_true, truD_bool, asg_v, asg_t, asg_l, asgs_n, asgs_c, wipeN_n, wipeN_c, free_n, free_c, nOwn_n, nOwn_s, nOwn_c, idx0, idx1, inn_ips, nin_ips, nin_ints, eq_int, ne_int, lt_int, gt_int, ne_bool, add_int, sub_int, Option.getD_none, Option.bind_some, Option.map_some, ltD_l, ltD_t, lstD_l, List.length_cons, List.length_nil, Nat.zero_add, Bool.and_true, Bool.true_and, true_and, parW, sets_n, sets_c, Bool.not_true, Bool.not_false]
    rw [List.length_map, zl, show ws.length - 1 + 1 = ws.length by omega]
    exact q
end
end PD
set_option maxHeartbeats 4000000
/-! K49n: _law_climbing gives a greedy list. -/
namespace PD
open PySem L2
/-- what a climbing row keeps: at each place its jump is a must -/
def Clm (n : Nat) (ps : List (Int × Int)) (fs : List Int) : Prop := fs.Nodup ∧ (∀ x ∈ fs, x ∈ rg n) ∧
  ∀ j : Nat, 1 ≤ j → j < fs.length → (wk fs ((j : Int) - 1), wk fs j) ∈ ps ∨ ∀ w ∈ rg n, w ∉ fs.take j → (∀ o ∈ rg n, o ∉ fs.take j → (o, w) ∉ ps) → (wk fs ((j : Int) - 1), w) ∉ ps
theorem mem_leftW {n : Nat} {fs : List Int} {w : Int} : w ∈ leftW n fs ↔ w ∈ rg n ∧ w ∉ fs := by
  unfold leftW; simp [List.mem_filter]
theorem mem_freeW {ps : List (Int × Int)} {ls : List Int} {w : Int} : w ∈ freeW ps ls ↔ w ∈ ls ∧ ∀ o ∈ ls, (o, w) ∉ ps := by
  unfold freeW; simp [List.mem_filter]
theorem wk_app {fs gs : List Int} {j : Nat} (h : j < fs.length) : wk (fs ++ gs) j = wk fs j := by
  unfold wk
  simp [List.getD, List.getElem?_append_left h]
theorem wk_end {fs : List Int} {x : Int} : wk (fs ++ [x]) fs.length = x := by
  unfold wk; simp [List.getD]
theorem Clm.add {n : Nat} {ps : List (Int × Int)} {fs : List Int} {x : Int} (h : Clm n ps fs) (hx : x ∈ leftW n fs)
    (hc : fs ≠ [] → (wk fs ((fs.length : Int) - 1), x) ∈ ps ∨ ∀ w ∈ freeW ps (leftW n fs), (wk fs ((fs.length : Int) - 1), w) ∉ ps) : Clm n ps (fs ++ [x]) := by
  obtain ⟨h1, h2, h3⟩ := h
  have hx := mem_leftW.mp hx
  refine ⟨List.nodup_append.mpr ⟨h1, by simp, fun a ha b hb e => ?_⟩, fun y hy => ?_, fun j j1 j2 => ?_⟩
  · have : b = x := by simpa using hb
    subst this; subst e; exact hx.2 ha
  · rcases List.mem_append.mp hy with h | h
    · exact h2 y h
    · have : y = x := by simpa using h
      rw [this]; exact hx.1
  · by_cases hj : j < fs.length
    · rw [List.take_append_of_le_length (by omega), show ((j : Int) - 1) = ((j - 1 : Nat) : Int) by omega, wk_app (by omega), wk_app hj]
      have := h3 j j1 hj
      rwa [show ((j : Int) - 1) = ((j - 1 : Nat) : Int) by omega] at this
    · have ej : j = fs.length := by simp at j2; omega
      subst ej
      have hne : fs ≠ [] := by intro z; subst z; simp at j1
      rw [List.take_append_of_le_length (Nat.le_refl _), List.take_length, wk_end, show ((fs.length : Int) - 1) = ((fs.length - 1 : Nat) : Int) by omega, wk_app (by omega)]
      have := hc hne
      rw [show ((fs.length : Int) - 1) = ((fs.length - 1 : Nat) : Int) by omega] at this
      rcases this with h | h
      · exact .inl h
      · exact .inr fun w w1 w2 w3 => h w (mem_freeW.mpr ⟨mem_leftW.mpr ⟨w1, w2⟩, fun o ho => w3 o (mem_leftW.mp ho).1 (mem_leftW.mp ho).2⟩)
theorem Clm.greedy {n : Nat} {ps : List (Int × Int)} {ws : List Int} (h : Clm n ps ws) (hl : ws.length = n) : greedy ps ws = true := by
  obtain ⟨h1, h2, h3⟩ := h
  unfold PD.greedy
  rw [List.all_eq_true]
  intro a ha
  unfold jumps at ha
  obtain ⟨ha, hp⟩ := List.mem_filter.mp ha
  have hb := mem_rg1.mp ha
  obtain ⟨j, rfl⟩ := Int.eq_ofNat_of_zero_le (show 0 ≤ a by omega)
  have hp : (wk ws ((j : Int) - 1), wk ws j) ∉ ps := by simpa using hp
  have key := (h3 j (by omega) (by omega)).resolve_left hp
  have all : ∀ w ∈ rg n, w ∈ ws := by
    intro w hw
    refine Classical.byContradiction fun z => ?_
    have := len_of_sub (w :: ws) (rg n) (List.nodup_cons.mpr ⟨z, h1⟩) fun x hx => (List.mem_cons.mp hx).elim (fun e => e ▸ hw) (h2 x)
    rw [rg_len] at this
    simp at this; omega
  have dr : ∀ w, w ∈ ws.drop j ↔ w ∈ rg n ∧ w ∉ ws.take j := by
    intro w
    have e := List.take_append_drop j ws
    constructor
    · intro hw
      refine ⟨h2 w (List.mem_of_mem_drop hw), fun z => ?_⟩
      rw [← e] at h1
      exact (List.nodup_append.mp h1).2.2 w z w hw rfl
    · rintro ⟨hw, z⟩
      have := all w hw
      rw [← e] at this
      exact (List.mem_append.mp this).resolve_left z
  rw [Bool.not_eq_true']
  unfold badJ
  rw [List.any_eq_false]
  intro w hw
  have hw := mem_freeW.mp hw
  rw [show ((j : Int)).toNat = j by omega] at hw
  have := key w ((dr w).mp hw.1).1 ((dr w).mp hw.1).2 fun o o1 o2 => hw.2 o ((dr o).mpr ⟨o1, o2⟩)
  simpa using this
section
variable {k : Nat} {Q : D → Prop} {n : Nat} {ps : List (Int × Int)} {names : List Int}
theorem idx_lastT {fs : List Int} (h : fs ≠ []) : idxD (tupI fs) (.int (-1)) = some (.int (wk fs ((fs.length : Int) - 1))) := by
  obtain ⟨A, b, rfl⟩ : ∃ A b, fs = A ++ [b] := ⟨fs.dropLast, fs.getLast h, (List.dropLast_concat_getLast h).symm⟩
  have e := idx_last (f := PyData.int) A b
  have e2 : idxD (tupI (A ++ [b])) (.int (-1)) = idxD (.list ((A ++ [b]).map .int)) (.int (-1)) := rfl
  rw [e2, e, show (((A ++ [b]).length : Int) - 1) = ((A.length : Nat) : Int) by simp, wk_end]
def cl (n : Nat) (ps : List (Int × Int)) (fs left : List Int) (x4 x5 : Option B) : Nv := [some .src, some (.sh (ordD n ps)), some (.sh (tupI fs)), some (.sh (.list (left.map .int))), x4, x5, none, none]
theorem r12_0 {fs : List Int} {x4 x5 : Option B} {K : Ko} (hn : n ≤ 10) (hl : fs.length ≤ 100) (hs : freeW ps (leftW n fs) ≠ []) (hc : Clm n ps fs) (h : ∀ x ∈ leftW n fs, Clm n ps (fs ++ [x]) → ∀ x4 x5, K.nx (cl n ps (fs ++ [x]) (leftW n (fs ++ [x])) x4 x5)) : execs (CF (k + 3)) b12_0 (cl n ps fs (leftW n fs) x4 x5) K := by
  unfold b12_0 cl
  have hll : (leftW n fs).length ≤ 10 := by
    unfold leftW
    refine Nat.le_trans (List.length_filter_le ..) ?_
    rw [rg_len]; exact hn
  generalize hL : leftW n fs = left at *
  simp only [execs, exec, ev, tst, bor, arg, evs, evb, eva, evo, evc, evi, look_z, look_s, lookB_z, lookB_o, lookB_s, lookA_z, lookA_c, lookA_s, lookO_o, lookO_s, lift_some, lift_none, List.getElem?_cons_zero, List.getElem?_cons_succ, List.set_cons_zero, List.set_cons_succ, koF, p_tuple_l, p_tuple_t, p_list_l, p_list_t, p_len_l, p_len_t, Bool.false_eq_true, if_false, if_true, truD_bool, asg_v, asg_t, asg_l, asgs_n, asgs_c, wipeN_n, wipeN_c, free_n, free_c, nOwn_n, nOwn_s, nOwn_c, idx0, idx1, inn_ips, nin_ips, nin_ints, eq_int, ne_int, lt_int, gt_int, ne_bool, add_int, sub_int, Option.getD_none, Option.bind_some, Option.map_some, ltD_l, ltD_t, lstD_l, List.length_cons, List.length_nil, Nat.zero_add, Bool.and_true, Bool.true_and, true_and, parW, sets_n, sets_c, Bool.not_true, Bool.not_false]
  refine lcW_filter (f := .int) (g := .int) (p := fun w => !(left.any fun o => decide ((o, w) ∈ ps))) (fun w hw K2 hK2 => ?_) ?_
  · refine lcW_filter (f := .int) (g := fun _ => .int 1) (p := fun o => decide ((o, w) ∈ ps)) (fun o ho K3 hK3 => ?_) ?_
    · refine ⟨small_le (by decide), ?_⟩
      rw [ord1]
      simp only [execs, exec, ev, tst, bor, arg, evs, evb, eva, evo, evc, evi, look_z, look_s, lookB_z, lookB_o, lookB_s, lookA_z, lookA_c, lookA_s, lookO_o, lookO_s, lift_some, lift_none, List.getElem?_cons_zero, List.getElem?_cons_succ, List.set_cons_zero, List.set_cons_succ, koF, p_tuple_l, p_tuple_t, p_list_l, p_list_t, p_len_l, p_len_t, Bool.false_eq_true, if_false, if_true, truD_bool, asg_v, asg_t, asg_l, asgs_n, asgs_c, wipeN_n, wipeN_c, free_n, free_c, nOwn_n, nOwn_s, nOwn_c, idx0, idx1, inn_ips, nin_ips, nin_ints, eq_int, ne_int, lt_int, gt_int, ne_bool, add_int, sub_int, Option.getD_none, Option.bind_some, Option.map_some, ltD_l, ltD_t, lstD_l, List.length_cons, List.length_nil, Nat.zero_add, Bool.and_true, Bool.true_and, true_and, parW, sets_n, sets_c, Bool.not_true, Bool.not_false]
      split at hK3 <;> simp_all
    · refine ⟨Nat.zero_le _, ?_⟩
      rw [eq_unit_l (ones_ok _), List.isEmpty_map, isEmpty_filter]
      simp only [execs, exec, ev, tst, bor, arg, evs, evb, eva, evo, evc, evi, look_z, look_s, lookB_z, lookB_o, lookB_s, lookA_z, lookA_c, lookA_s, lookO_o, lookO_s, lift_some, lift_none, List.getElem?_cons_zero, List.getElem?_cons_succ, List.set_cons_zero, List.set_cons_succ, koF, p_tuple_l, p_tuple_t, p_list_l, p_list_t, p_len_l, p_len_t, Bool.false_eq_true, if_false, if_true, truD_bool, asg_v, asg_t, asg_l, asgs_n, asgs_c, wipeN_n, wipeN_c, free_n, free_c, nOwn_n, nOwn_s, nOwn_c, idx0, idx1, inn_ips, nin_ips, nin_ints, eq_int, ne_int, lt_int, gt_int, ne_bool, add_int, sub_int, Option.getD_none, Option.bind_some, Option.map_some, ltD_l, ltD_t, lstD_l, List.length_cons, List.length_nil, Nat.zero_add, Bool.and_true, Bool.true_and, true_and, parW, sets_n, sets_c, Bool.not_true, Bool.not_false]
      cases hb : (left.any fun o => decide ((o, w) ∈ ps)) <;> rw [hb] at hK2 <;> simpa using hK2
  rw [show left.filter (fun w => !(left.any fun o => decide ((o, w) ∈ ps))) = freeW ps left from rfl]
  have hfl : (freeW ps left).length ≤ 10 := Nat.le_trans (List.length_filter_le ..) hll
  have hfs : ∀ x ∈ freeW ps left, x ∈ left := fun x hx => (mem_freeW.mp hx).1
  have step : ∀ x ∈ freeW ps left, (fs ≠ [] → (wk fs ((fs.length : Int) - 1), x) ∈ ps ∨ ∀ w ∈ freeW ps left, (wk fs ((fs.length : Int) - 1), w) ∉ ps) → Clm n ps (fs ++ [x]) := fun x hx hcx => by
    subst hL
    exact hc.add (hfs x hx) hcx
  have hnl : (tupI fs) = .tuple (fs.map .int) := rfl
  let S : List Int := (freeW ps left).filter fun w => !fs.isEmpty && decide ((wk fs ((fs.length : Int) - 1), w) ∈ ps)
  refine lcW_filter (f := .int) (g := .int) (p := fun w => !fs.isEmpty && decide ((wk fs ((fs.length : Int) - 1), w) ∈ ps)) (fun w hw K2 hK2 => ?_) ?_
  · rw [hnl, ne_unit_t (canLay_ints _), List.isEmpty_map, ← hnl]
    refine ⟨Nat.zero_le _, ?_⟩
    simp only [lift_some, truD_bool]
    by_cases hf : fs = []
    · subst hf
      simpa using hK2
    · have he : fs.isEmpty = false := by cases fs with | nil => exact absurd rfl hf | cons _ _ => rfl
      rw [he] at hK2 ⊢
      simp only [Bool.not_false, if_true, Bool.true_and] at hK2 ⊢
      rw [show negD (.int 1) = some (.int (-1)) from rfl, lift_some, idx_lastT hf, lift_some, ord1, lift_some]
      refine ⟨small_le (by decide), ?_⟩
      rw [inn_ips, lift_some, truD_bool, lift_some]
      split at hK2 <;> simp_all
  · refine ⟨Nat.zero_le _, ?_⟩
    rw [show (freeW ps left).filter (fun w => !fs.isEmpty && decide ((wk fs ((fs.length : Int) - 1), w) ∈ ps)) = S from rfl, ne_unit_l (canLay_ints _), List.isEmpty_map, lift_some, truD_bool, lift_some]
    have hSl : S.length ≤ 10 := Nat.le_trans (List.length_filter_le ..) hfl
    have fin : ∀ x, x ∈ freeW ps left → Clm n ps (fs ++ [x]) → 1 ≤ sizeLine ∧
              lift (binD BOp.add (tupI fs) (PyData.tuple [.int x])) fun x =>
                lcW (List.map PyData.int left)
                  (fun d K =>
                    lift (negD (PyData.int 1)) fun y =>
                      lift (idxD x y) fun y =>
                        lift (copD COp.ne d y) fun x => lift (truD x) fun t => if t = true then K (some d) else K none)
                  fun r =>
                  K.nx
                    [some B.src, some (B.sh (ordD (↑n) ps)), some (B.sh x), some (B.sh (PyData.list r)),
                      some (B.sh (PyData.list (List.map PyData.int (freeW ps left)))),
                      some
                        (B.sh
                          (PyData.list
                            (List.map PyData.int S))),
                      none, none] := by
      intro x hx hcx
      refine ⟨small_le (by decide), ?_⟩
      rw [show binD .add (tupI fs) (.tuple [.int x]) = some (tupI (fs ++ [x])) from by
        rw [hnl, add_tup, if_pos (Nat.le_of_lt (small_lt (by simp; omega))), show [PyData.int x] = [x].map PyData.int from rfl, ← List.map_append]; rfl, lift_some]
      refine lcW_filter (f := .int) (g := .int) (p := fun w => !decide (w = x)) (fun w hw K3 hK3 => ?_) ?_
      · have hne : fs ++ [x] ≠ [] := by simp
        rw [show negD (.int 1) = some (.int (-1)) from rfl, lift_some, idx_lastT hne, lift_some]
        rw [show (((fs ++ [x]).length : Int) - 1) = ((fs.length : Nat) : Int) by simp, wk_end, ne_int, lift_some, truD_bool, lift_some]
        split at hK3 <;> simp_all
      · have e : left.filter (fun w => !decide (w = x)) = leftW n (fs ++ [x]) := by
          rw [← hL]
          unfold leftW
          rw [List.filter_filter]
          apply List.filter_congr
          intro w _
          by_cases h1 : w = x <;> simp [h1]
        rw [e]
        exact h x (hfs x hx) hcx _ _
    by_cases hS : S = []
    · rw [hS]
      simp only [List.isEmpty_nil, Bool.not_true, Bool.false_eq_true, if_false]
      refine s_of hs (by omega) fun x hx => ?_
      have := fin x hx (step x hx fun hne => .inr fun w hw hp => ?_)
      · rw [hS] at this; exact this
      · have he : fs.isEmpty = false := by cases fs with | nil => exact absurd rfl hne | cons _ _ => rfl
        have : w ∈ S := List.mem_filter.mpr ⟨hw, by rw [he]; simpa using hp⟩
        rw [hS] at this; simp at this
    · have he : S.isEmpty = false := by cases hz : S with | nil => exact absurd hz hS | cons _ _ => rfl
      rw [he]
      simp only [Bool.not_false, if_true]
      refine s_of hS (by omega) fun x hx => ?_
      have hx' := List.mem_filter.mp hx
      refine fin x hx'.1 (step x hx'.1 fun hne => .inl ?_)
      have := hx'.2
      rw [Bool.and_eq_true, decide_eq_true_iff] at this
      exact this.2
theorem leftW_len {fs : List Int} (h : fs.Nodup) (hs : ∀ x ∈ fs, x ∈ rg n) : (leftW n fs).length + fs.length = n := by
  have e : (leftW n fs ++ fs).Perm (rg n) := by
    refine (List.perm_ext_iff_of_nodup ?_ ?_).mpr fun a => ?_
    · refine List.nodup_append.mpr ⟨List.Nodup.sublist List.filter_sublist ((rg_srt n).imp fun h e => by omega), h, fun a ha b hb e => ?_⟩
      subst e; exact (mem_leftW.mp ha).2 hb
    · exact (rg_srt n).imp fun h e => by omega
    · rw [List.mem_append, mem_leftW]
      constructor
      · rintro (⟨h, _⟩ | h)
        · exact h
        · exact hs a h
      · intro h
        by_cases hf : a ∈ fs
        · exact .inr hf
        · exact .inl ⟨h, hf⟩
  have := e.length_eq
  rw [List.length_append, rg_len] at this
  exact this
theorem s_climb (hn : n ≤ 10) (hp : names.Perm (rg n)) (hA : ∀ p ∈ ps, Ahead names p) (q : ∀ ws : List Int, ws.length = n → (∀ x ∈ ws, x ∈ rg n) → greedy ps ws = true → Q (tupI ws)) : CF (k + 4) 12 [.src, .sh (ordD n ps)] Q := by
  show _ ∧ _ ∧ execs _ b12 _ _
  refine ⟨rfl, rfl, ?_⟩
  rw [show startN 8 [.src, .sh (ordD n ps)] = [some .src, some (.sh (ordD n ps)), none, none, none, none, none, none] from rfl]
  unfold b12
  simp only [execs, exec, ev, tst, bor, arg, evs, evb, eva, evo, evc, evi, look_z, look_s, lookB_z, lookB_o, lookB_s, lookA_z, lookA_c, lookA_s, lookO_o, lookO_s, lift_some, lift_none, List.getElem?_cons_zero, List.getElem?_cons_succ, List.set_cons_zero, List.set_cons_succ, koF, p_tuple_l, p_tuple_t, p_list_l, p_list_t, p_len_l, p_len_t, Bool.false_eq_true, if_false, if_true, truD_bool, asg_v, asg_t, asg_l, asgs_n, asgs_c, wipeN_n, wipeN_c, free_n, free_c, nOwn_n, nOwn_s, nOwn_c, idx0, idx1, inn_ips, nin_ips, nin_ints, eq_int, ne_int, lt_int, gt_int, ne_bool, add_int, sub_int, Option.getD_none, Option.bind_some, Option.map_some, ltD_l, ltD_t, lstD_l, List.length_cons, List.length_nil, Nat.zero_add, Bool.and_true, Bool.true_and, true_and, parW, sets_n, sets_c, Bool.not_true, Bool.not_false]
  refine ⟨Nat.zero_le _, fun z => z.elim, ?_⟩
  rw [ord0, lift_some, rng_nat (by omega), lift_some]
  refine ⟨fun z => z.elim, n + 1, ?_⟩
  have nd : names.Nodup := hp.nodup_iff.mpr ((rg_srt n).imp fun h e => by omega)
  have key : ∀ (m : Nat) (fs : List Int) (x4 x5 : Option B), fs.length + m = n → Clm n ps fs → whileW (m + 1) (tst (CF (k + 3)) (.e (.cmp .ne (.var 3) (.lst .nil)))) (fun ρ kk => execs (CF (k + 3)) b12_0 ρ { nx := kk, rt := Q, bk := fun ρ' => execs (CF (k + 3)) (.cons (.ret (.var 2)) .nil) ρ' (koF Q), ct := kk }) (cl n ps fs (leftW n fs) x4 x5) (fun ρ' => execs (CF (k + 3)) (.cons (.ret (.var 2)) .nil) ρ' (koF Q)) := by
    intro m
    induction m with
    | zero =>
      intro fs x4 x5 hl hc
      have hL : leftW n fs = [] := by
        have := leftW_len hc.1 hc.2.1
        exact List.eq_nil_of_length_eq_zero (by omega)
      unfold whileW cl
      rw [hL]
      simp only [execs, exec, ev, tst, bor, arg, evs, evb, eva, evo, evc, evi, look_z, look_s, lookB_z, lookB_o, lookB_s, lookA_z, lookA_c, lookA_s, lookO_o, lookO_s, lift_some, lift_none, List.getElem?_cons_zero, List.getElem?_cons_succ, List.set_cons_zero, List.set_cons_succ, koF, p_tuple_l, p_tuple_t, p_list_l, p_list_t, p_len_l, p_len_t, Bool.false_eq_true, if_false, if_true, truD_bool, asg_v, asg_t, asg_l, asgs_n, asgs_c, wipeN_n, wipeN_c, free_n, free_c, nOwn_n, nOwn_s, nOwn_c, idx0, idx1, inn_ips, nin_ips, nin_ints, eq_int, ne_int, lt_int, gt_int, ne_bool, add_int, sub_int, Option.getD_none, Option.bind_some, Option.map_some, ltD_l, ltD_t, lstD_l, List.length_cons, List.length_nil, Nat.zero_add, Bool.and_true, Bool.true_and, true_and, parW, sets_n, sets_c, Bool.not_true, Bool.not_false]
      refine ⟨Nat.zero_le _, ?_⟩
      rw [ne_unit_l (canLay_ints _)]
      simp only [execs, exec, ev, tst, bor, arg, evs, evb, eva, evo, evc, evi, look_z, look_s, lookB_z, lookB_o, lookB_s, lookA_z, lookA_c, lookA_s, lookO_o, lookO_s, lift_some, lift_none, List.getElem?_cons_zero, List.getElem?_cons_succ, List.set_cons_zero, List.set_cons_succ, koF, p_tuple_l, p_tuple_t, p_list_l, p_list_t, p_len_l, p_len_t, Bool.false_eq_true, if_false, if_true, truD_bool, asg_v, asg_t, asg_l, asgs_n, asgs_c, wipeN_n, wipeN_c, free_n, free_c, nOwn_n, nOwn_s, nOwn_c, idx0, idx1, inn_ips, nin_ips, nin_ints, eq_int, ne_int, lt_int, gt_int, ne_bool, add_int, sub_int, Option.getD_none, Option.bind_some, Option.map_some, ltD_l, ltD_t, lstD_l, List.length_cons, List.length_nil, Nat.zero_add, Bool.and_true, Bool.true_and, true_and, parW, sets_n, sets_c, Bool.not_true, Bool.not_false]
      simp only [List.map_nil, List.isEmpty_nil, Bool.not_true, Bool.false_eq_true, if_false]
      exact q fs (by omega) hc.2.1 (hc.greedy (by omega))
    | succ m ih =>
      intro fs x4 x5 hl hc
      have hne : leftW n fs ≠ [] := by
        intro z
        have := leftW_len hc.1 hc.2.1
        rw [z] at this; simp at this; omega
      obtain ⟨w, hw, ho⟩ := free_ex nd hA hne fun x hx => hp.mem_iff.mpr (mem_leftW.mp hx).1
      have hs : freeW ps (leftW n fs) ≠ [] := fun z => by
        have : w ∈ freeW ps (leftW n fs) := mem_freeW.mpr ⟨hw, ho⟩
        rw [z] at this; simp at this
      have he : (leftW n fs).isEmpty = false := by cases hz : leftW n fs with | nil => exact absurd hz hne | cons _ _ => rfl
      unfold whileW
      show tst _ _ (cl n ps fs (leftW n fs) x4 x5) _
      unfold cl
      simp only [execs, exec, ev, tst, bor, arg, evs, evb, eva, evo, evc, evi, look_z, look_s, lookB_z, lookB_o, lookB_s, lookA_z, lookA_c, lookA_s, lookO_o, lookO_s, lift_some, lift_none, List.getElem?_cons_zero, List.getElem?_cons_succ, List.set_cons_zero, List.set_cons_succ, koF, p_tuple_l, p_tuple_t, p_list_l, p_list_t, p_len_l, p_len_t, Bool.false_eq_true, if_false, if_true, truD_bool, asg_v, asg_t, asg_l, asgs_n, asgs_c, wipeN_n, wipeN_c, free_n, free_c, nOwn_n, nOwn_s, nOwn_c, idx0, idx1, inn_ips, nin_ips, nin_ints, eq_int, ne_int, lt_int, gt_int, ne_bool, add_int, sub_int, Option.getD_none, Option.bind_some, Option.map_some, ltD_l, ltD_t, lstD_l, List.length_cons, List.length_nil, Nat.zero_add, Bool.and_true, Bool.true_and, true_and, parW, sets_n, sets_c, Bool.not_true, Bool.not_false]
      refine ⟨Nat.zero_le _, ?_⟩
      rw [ne_unit_l (canLay_ints _), List.isEmpty_map, he]
      simp only [execs, exec, ev, tst, bor, arg, evs, evb, eva, evo, evc, evi, look_z, look_s, lookB_z, lookB_o, lookB_s, lookA_z, lookA_c, lookA_s, lookO_o, lookO_s, lift_some, lift_none, List.getElem?_cons_zero, List.getElem?_cons_succ, List.set_cons_zero, List.set_cons_succ, koF, p_tuple_l, p_tuple_t, p_list_l, p_list_t, p_len_l, p_len_t, Bool.false_eq_true, if_false, if_true, truD_bool, asg_v, asg_t, asg_l, asgs_n, asgs_c, wipeN_n, wipeN_c, free_n, free_c, nOwn_n, nOwn_s, nOwn_c, idx0, idx1, inn_ips, nin_ips, nin_ints, eq_int, ne_int, lt_int, gt_int, ne_bool, add_int, sub_int, Option.getD_none, Option.bind_some, Option.map_some, ltD_l, ltD_t, lstD_l, List.length_cons, List.length_nil, Nat.zero_add, Bool.and_true, Bool.true_and, true_and, parW, sets_n, sets_c, Bool.not_true, Bool.not_false]
      exact r12_0 hn (by omega) hs hc fun x hx hcx x4 x5 => ih (fs ++ [x]) x4 x5 (by simp; omega) hcx
  have e : leftW n [] = rg n := by unfold leftW; simp
  have := key n [] none none (by simp) ⟨by simp, by simp, by simp⟩
  rw [e] at this
  exact this
end
end PD
set_option maxHeartbeats 4000000
/-! K49l: the law is true. -/
namespace PD
open PySem L2
theorem pl_ip10 {n : Nat} {p : Int × Int} (hn : n ≤ 10) (h : InR n p) : Pl 1 2 (ip p) := by
  obtain ⟨h1, h2, h3, h4⟩ := h
  exact .tup (.cons (a := 0) (b := 1) (pl_int h1 (by omega)) (.cons (a := 0) (b := 0) (pl_int h3 (by omega)) .nil))
theorem pl_ord10 {n : Nat} {ps : List (Int × Int)} (hn : n ≤ 10) (g : GO n ps) : Pl 3 1000 (ordD n ps) := by
  refine .tup (.cons (a := 0) (b := 999) (pl_int (i := (n : Int)) (by omega) (by omega)) (.cons (a := 998) (b := 0) (.tup (PlA.all' (a := 2) (fun x hx => ?_) ?_)) .nil))
  · obtain ⟨p, hp, rfl⟩ := List.mem_map.mp hx
    exact pl_ip10 hn (g.inr p hp)
  · have := len_inr10 g.nodup g.inr hn
    rw [List.length_map]; omega
theorem pl_ints {n m : Nat} {xs : List Int} (hn : n ≤ 50) (h : ∀ x ∈ xs, x ∈ rg n) (hl : xs.length ≤ m) : Pl 1 m (tupI xs) := by
  refine .tup (PlA.all' (a := 0) (fun x hx => ?_) ?_)
  · obtain ⟨i, hi, rfl⟩ := List.mem_map.mp hx
    have := mem_rg.mp (h i hi)
    exact pl_int this.1 (by omega)
  · rw [List.length_map]; omega
theorem pl_told {n : Nat} {ps : List (Int × Int)} {ws : List Int} (hn : n ≤ 10) (hl : ws.length = n) (hw : ∀ x ∈ ws, x ∈ rg n) : Pl 3 1000 (.list [.tuple ((jumps ps ws).map .int), .tuple ((runsTo ps ws ws.length).map tupI), .bool (greedy ps ws)]) := by
  have hj := jumps_len (ps := ps) (ws := ws)
  refine .lst (.cons (a := 10) (b := 989) ?_ (.cons (a := 900) (b := 88) (.tup (PlA.all' (a := 10) (fun x hx => ?_) ?_)) (.cons (a := 0) (b := 87) .bool .nil)))
  · refine .tup (PlA.all' (a := 0) (fun x hx => ?_) (by rw [List.length_map]; omega))
    obtain ⟨i, hi, rfl⟩ := List.mem_map.mp hx
    have := mem_rg1.mp (List.mem_filter.mp hi).1
    exact pl_int (by omega) (by omega)
  · obtain ⟨B, hB, rfl⟩ := List.mem_map.mp hx
    have key : ∀ E : List Int, ∀ B ∈ cutsL ws E, (∀ x ∈ B, x ∈ ws) ∧ B.length ≤ ws.length := by
      intro E
      induction E with
      | nil => intro B h; simp [cutsL] at h
      | cons a E ih => cases E with
        | nil => intro B h; simp [cutsL] at h
        | cons b r =>
          intro B h
          rcases List.mem_cons.mp (show B ∈ slice ws a b :: cutsL ws (b :: r) from h) with rfl | h
          · exact ⟨fun x hx => List.mem_of_mem_drop (List.mem_of_mem_take hx), by unfold slice; rw [List.length_take, List.length_drop]; omega⟩
          · exact ih B h
    have := key _ B hB
    exact pl_ints (n := n) (m := 10) (by omega) (fun x hx => hw x (this.1 x hx)) (by omega)
  · have : ∀ E : List Int, (cutsL ws E).length ≤ E.length := by
      intro E
      induction E with
      | nil => exact Nat.le_refl _
      | cons a E ih => cases E with
        | nil => simp [cutsL]
        | cons b r => simp only [cutsL, List.length_cons] at ih ⊢; omega
    have := this (0 :: jb ps ws ws.length ++ [(ws.length : Int)])
    have e : jb ps ws ws.length = jumps ps ws := rfl
    rw [e] at this
    rw [List.length_map]
    show _ * (cutsL _ _).length ≤ _
    rw [e]
    simp at this ⊢
    omega
theorem is_bool (b c : Bool) : copD .is (.bool b) (.bool c) = some (.bool (decide (b = c))) ∧ copD .isn (.bool b) (.bool c) = some (.bool (!decide (b = c))) := ⟨rfl, rfl⟩
/-- one list looked at -/
theorem law_0 {n : Nat} {ps : List (Int × Int)} {ws : List Int} {x2 x5 x6 x7 x8 x9 : Option B} {K : Ko} (hn1 : 1 ≤ n) (hn : n ≤ 10) (hl : ws.length = n) (hw : ∀ x ∈ ws, x ∈ rg n) (h : ∀ x7 x8, K.nx [none, some .src, x2, some (.sh (ordD n ps)), some (.sh (tupI ws)), x5, x6, x7, x8, x9, none]) :
    execs (CF 30) lawB_0 [none, some .src, x2, some (.sh (ordD n ps)), some (.sh (tupI ws)), x5, x6, x7, x8, x9, none] K := by
  unfold lawB_0
  generalize hC : CF 30 = C
  simp only [execs, exec, ev, tst, bor, arg, evs, evb, eva, evo, evc, evi, look_z, look_s, lookB_z, lookB_o, lookB_s, lookA_z, lookA_c, lookA_s, lookO_o, lookO_s, lift_some, lift_none, List.getElem?_cons_zero, List.getElem?_cons_succ, List.set_cons_zero, List.set_cons_succ, koF, p_tuple_l, p_tuple_t, p_list_l, p_list_t, p_len_l, p_len_t, Bool.false_eq_true, if_false, if_true, truD_bool, asg_v, asg_t, asg_l, asgs_n, asgs_c, wipeN_n, wipeN_c, free_n, free_c, nOwn_n, nOwn_s, nOwn_c, idx0, idx1, inn_ips, nin_ips, nin_ints, eq_int, ne_int, lt_int, gt_int, ne_bool, add_int, sub_int, Option.getD_none, Option.bind_some, Option.map_some, ltD_l, ltD_t, lstD_l, List.length_cons, List.length_nil, Nat.zero_add, Bool.and_true, Bool.true_and, true_and, parW, sets_n, sets_c, Bool.not_true, Bool.not_false]
  refine ⟨_, rfl, ?_⟩
  simp only [p_len_tupI, lift_some, Option.getD_some, rng1_nat (show ws.length ≤ 1000 by omega)]
  refine lcW_filter (f := .int) (g := .int) (p := fun k => !decide ((wk ws (k - 1), wk ws k) ∈ ps)) (fun a ha K hK => ?_) ?_
  · obtain ⟨a1, a2⟩ := mem_rg1.mp ha
    rw [show idxD (tupI ws) (.int a) = some (.int (wk ws a)) from wk_at (by omega) (by omega)]
    simp only [lift_some, sub_int]
    rw [show idxD (tupI ws) (.int (a - 1)) = some (.int (wk ws (a - 1))) from wk_at (by omega) (by omega)]
    simp only [lift_some, ord1]
    refine ⟨small_le (by decide), ?_⟩
    rw [nin_ips, lift_some, truD_bool, lift_some]
    split at hK <;> simp_all
  · rw [show (rg1 ws.length).filter (fun k => !decide ((wk ws (k - 1), wk ws k) ∈ ps)) = jumps ps ws from rfl]
    subst hC
    refine s_jumps (by omega) (s_runs (by omega) (s_greedy (by omega) ⟨small_le (by decide), ?_⟩))
    have pl := pl_told (ps := ps) hn hl hw
    rw [prim_repr pl (by decide) (by decide), lift_some]
    refine s_lawRuns (by omega) (by omega) (s_lawGreedy (by omega) ⟨small_le (by decide), ?_⟩)
    rw [prim_repr pl (by decide) (by decide), lift_some, ne_self pl, lift_some, truD_bool, lift_some]
    exact h _ _
theorem lists3 (i : Nat) (h : i < (rg 4).length) : ∃ most : Int, idxD (.list [.int 3, .int 5, .int 8, .int 10]) (.int (rg 4)[i]) = some (.int most) ∧ 1 ≤ most ∧ most ≤ 10 := by
  rw [rg_at h]
  rw [rg_len] at h
  match i, h with
  | 0, _ => exact ⟨3, rfl, by decide, by decide⟩
  | 1, _ => exact ⟨5, rfl, by decide, by decide⟩
  | 2, _ => exact ⟨8, rfl, by decide, by decide⟩
  | 3, _ => exact ⟨10, rfl, by decide, by decide⟩
theorem law_true : execs (callF (progOf rows) 30) lawB (rho0 lawN 1) (koF (fun d => d = .bool true)) := by
  rw [show rho0 lawN 1 = [none, some .src, none, none, none, none, none, none, none, none, none] from rfl]
  have l0 := @law_0
  unfold lawB lawB_1
  generalize hC : callF (progOf rows) 30 = C at l0 ⊢
  generalize hL : lawB_0 = L0 at l0 ⊢
  simp only [execs, exec]
  rw [show evi C false (.rng .no (.cst (.int 4))) = fun ρ Q => lift (rngD (.int 0) (.int (4 : Nat))) Q from by funext ρ Q; simp only [execs, exec, ev, tst, bor, arg, evs, evb, eva, evo, evc, evi, look_z, look_s, lookB_z, lookB_o, lookB_s, lookA_z, lookA_c, lookA_s, lookO_o, lookO_s, lift_some, lift_none, List.getElem?_cons_zero, List.getElem?_cons_succ, List.set_cons_zero, List.set_cons_succ, koF, p_tuple_l, p_tuple_t, p_list_l, p_list_t, p_len_l, p_len_t, Bool.false_eq_true, if_false, if_true, truD_bool, asg_v, asg_t, asg_l, asgs_n, asgs_c, wipeN_n, wipeN_c, free_n, free_c, nOwn_n, nOwn_s, nOwn_c, idx0, idx1, inn_ips, nin_ips, nin_ints, eq_int, ne_int, lt_int, gt_int, ne_bool, add_int, sub_int, Option.getD_none, Option.bind_some, Option.map_some, ltD_l, ltD_t, lstD_l, List.length_cons, List.length_nil, Nat.zero_add, Bool.and_true, Bool.true_and, true_and, parW, sets_n, sets_c, Bool.not_true, Bool.not_false]; rfl, rng_nat (by decide)]
  simp only [lift_some]
  refine forW_inv (fun _ ρ => ∃ x2 x3 x4 x5 x6 x7 x8, ρ = [none, some .src, x2, x3, x4, x5, x6, x7, x8, none, none]) ⟨none, none, none, none, none, none, none, rfl⟩ ?_ ?_
  · rintro i hi ρ ⟨x2, x3, x4, x5, x6, x7, x8, rfl⟩ K hK
    have hi' : i < (rg 4).length := by simpa using hi
    obtain ⟨most, hm, m1, m2⟩ := lists3 i hi'
    rw [List.getElem_map]
    simp only [execs, exec, ev, tst, bor, arg, evs, evb, eva, evo, evc, evi, look_z, look_s, lookB_z, lookB_o, lookB_s, lookA_z, lookA_c, lookA_s, lookO_o, lookO_s, lift_some, lift_none, List.getElem?_cons_zero, List.getElem?_cons_succ, List.set_cons_zero, List.set_cons_succ, koF, p_tuple_l, p_tuple_t, p_list_l, p_list_t, p_len_l, p_len_t, Bool.false_eq_true, if_false, if_true, truD_bool, asg_v, asg_t, asg_l, asgs_n, asgs_c, wipeN_n, wipeN_c, free_n, free_c, nOwn_n, nOwn_s, nOwn_c, idx0, idx1, inn_ips, nin_ips, nin_ints, eq_int, ne_int, lt_int, gt_int, ne_bool, add_int, sub_int, Option.getD_none, Option.bind_some, Option.map_some, ltD_l, ltD_t, lstD_l, List.length_cons, List.length_nil, Nat.zero_add, Bool.and_true, Bool.true_and, true_and, parW, sets_n, sets_c, Bool.not_true, Bool.not_false]
    refine ⟨small_le (by decide), ?_⟩
    rw [hm, lift_some]
    subst hC
    refine s_order (most := most) m1 m2 fun n ps names hn1 hn g hp hA => ?_
    have pl0 := pl_ord10 hn g
    rw [prim_repr pl0 (by decide) (by decide), lift_some]
    refine ⟨fun z => z.elim, ?_⟩
    rw [show (PyData.int 3) = .int (3 : Nat) from rfl, rng_nat (by decide), lift_some]
    refine lcW_rel (R := fun _ o => ∃ ws : List Int, o = some (tupI ws) ∧ ws.length = n ∧ ∀ x ∈ ws, x ∈ rg n) (fun d _ K2 hK2 => ⟨Nat.zero_le _, s_drawn hn g hp hA fun ws h1 h2 => hK2 _ ⟨ws, rfl, h1, h2⟩⟩) fun os hos => ?_
    have hos' : ∃ wss : List (List Int), os.filterMap id = wss.map tupI ∧ wss.length ≤ 3 ∧ ∀ ws ∈ wss, ws.length = n ∧ ∀ x ∈ ws, x ∈ rg n := by
      have : ∀ (ds : List D) (os : List (Option D)), All2 (fun (_ : D) o => ∃ ws : List Int, o = some (tupI ws) ∧ ws.length = n ∧ ∀ x ∈ ws, x ∈ rg n) ds os → ∃ wss : List (List Int), os.filterMap id = wss.map tupI ∧ wss.length ≤ ds.length ∧ ∀ ws ∈ wss, ws.length = n ∧ ∀ x ∈ ws, x ∈ rg n := by
        intro ds os h
        induction h with
        | nil => exact ⟨[], rfl, Nat.le_refl _, by simp⟩
        | cons h t ih =>
          obtain ⟨ws, rfl, h1, h2⟩ := h
          obtain ⟨wss, e1, e2, e3⟩ := ih
          exact ⟨ws :: wss, by simp [e1], by simp; omega, fun x hx => (List.mem_cons.mp hx).elim (fun e => e ▸ ⟨h1, h2⟩) (e3 x)⟩
      exact this _ _ hos
    obtain ⟨wss, e1, e2, e3⟩ := hos'
    rw [e1]
    refine ⟨fun z => z.elim, ?_⟩
    refine s_climb hn hp hA fun cs c1 c2 c3 => ⟨small_le (by decide), ?_⟩
    rw [add_list, if_pos (small_le (by simp; omega)), lift_some, ltD_l, lift_some, show wss.map tupI ++ [tupI cs] = (wss ++ [cs]).map tupI by simp]
    have all : ∀ ws ∈ wss ++ [cs], ws.length = n ∧ ∀ x ∈ ws, x ∈ rg n := fun ws h => by
      rcases List.mem_append.mp h with h | h
      · exact e3 ws h
      · have : ws = cs := by simpa using h
        rw [this]; exact ⟨c1, c2⟩
    refine forW_inv (fun _ ρ => ∃ y4 y7 y8, ρ = [none, some .src, some (.sh (.int (rg 4)[i])), some (.sh (ordD n ps)), y4, some (.sh (.str (ordD n ps).shown)), some (.sh (.list (wss.map tupI))), y7, y8, none, none]) ⟨_, _, _, rfl⟩ ?_ ?_
    · rintro j hj ρ ⟨y4, y7, y8, rfl⟩ K3 hK3
      have hj' : j < (wss ++ [cs]).length := by simpa using hj
      rw [List.getElem_map]
      have hm := all _ (List.getElem_mem hj')
      simp only [execs, exec, ev, tst, bor, arg, evs, evb, eva, evo, evc, evi, look_z, look_s, lookB_z, lookB_o, lookB_s, lookA_z, lookA_c, lookA_s, lookO_o, lookO_s, lift_some, lift_none, List.getElem?_cons_zero, List.getElem?_cons_succ, List.set_cons_zero, List.set_cons_succ, koF, p_tuple_l, p_tuple_t, p_list_l, p_list_t, p_len_l, p_len_t, Bool.false_eq_true, if_false, if_true, truD_bool, asg_v, asg_t, asg_l, asgs_n, asgs_c, wipeN_n, wipeN_c, free_n, free_c, nOwn_n, nOwn_s, nOwn_c, idx0, idx1, inn_ips, nin_ips, nin_ints, eq_int, ne_int, lt_int, gt_int, ne_bool, add_int, sub_int, Option.getD_none, Option.bind_some, Option.map_some, ltD_l, ltD_t, lstD_l, List.length_cons, List.length_nil, Nat.zero_add, Bool.and_true, Bool.true_and, true_and, parW, sets_n, sets_c, Bool.not_true, Bool.not_false]
      exact l0 hn1 hn hm.1 hm.2 fun x7 x8 => hK3 _ ⟨_, _, _, rfl⟩
    · rintro ρ ⟨y4, y7, y8, rfl⟩
      simp only [execs, exec, ev, tst, bor, arg, evs, evb, eva, evo, evc, evi, look_z, look_s, lookB_z, lookB_o, lookB_s, lookA_z, lookA_c, lookA_s, lookO_o, lookO_s, lift_some, lift_none, List.getElem?_cons_zero, List.getElem?_cons_succ, List.set_cons_zero, List.set_cons_succ, koF, p_tuple_l, p_tuple_t, p_list_l, p_list_t, p_len_l, p_len_t, Bool.false_eq_true, if_false, if_true, truD_bool, asg_v, asg_t, asg_l, asgs_n, asgs_c, wipeN_n, wipeN_c, free_n, free_c, nOwn_n, nOwn_s, nOwn_c, idx0, idx1, inn_ips, nin_ips, nin_ints, eq_int, ne_int, lt_int, gt_int, ne_bool, add_int, sub_int, Option.getD_none, Option.bind_some, Option.map_some, ltD_l, ltD_t, lstD_l, List.length_cons, List.length_nil, Nat.zero_add, Bool.and_true, Bool.true_and, true_and, parW, sets_n, sets_c, Bool.not_true, Bool.not_false]
      refine s_climb hn hp hA fun bs b1 b2 b3 => s_greedy (by omega) ?_
      rw [b3, (is_bool _ _).2, lift_some, truD_bool, lift_some]
      simp only [decide_true, Bool.not_true, Bool.false_eq_true, if_false]
      rw [prim_repr pl0 (by decide) (by decide), lift_some, ne_self pl0, lift_some, truD_bool, lift_some]
      exact hK _ ⟨_, _, _, _, _, _, _, rfl⟩
  · rintro ρ ⟨x2, x3, x4, x5, x6, x7, x8, rfl⟩
    simp only [execs, exec, ev, tst, bor, arg, evs, evb, eva, evo, evc, evi, look_z, look_s, lookB_z, lookB_o, lookB_s, lookA_z, lookA_c, lookA_s, lookO_o, lookO_s, lift_some, lift_none, List.getElem?_cons_zero, List.getElem?_cons_succ, List.set_cons_zero, List.set_cons_succ, koF, p_tuple_l, p_tuple_t, p_list_l, p_list_t, p_len_l, p_len_t, Bool.false_eq_true, if_false, if_true, truD_bool, asg_v, asg_t, asg_l, asgs_n, asgs_c, wipeN_n, wipeN_c, free_n, free_c, nOwn_n, nOwn_s, nOwn_c, idx0, idx1, inn_ips, nin_ips, nin_ints, eq_int, ne_int, lt_int, gt_int, ne_bool, add_int, sub_int, Option.getD_none, Option.bind_some, Option.map_some, ltD_l, ltD_t, lstD_l, List.length_cons, List.length_nil, Nat.zero_add, Bool.and_true, Bool.true_and, true_and, parW, sets_n, sets_c, Bool.not_true, Bool.not_false]
    subst hC
    refine ⟨small_le (by decide), small_le (by decide), small_le (by decide), small_le (by decide), small_le (by decide), small_le (by decide), ?_⟩
    refine s_greedy (n := 4) (ps := [(0, 2), (0, 3), (1, 3)]) (ws := [0, 1, 2, 3]) (by decide) ?_
    rw [show greedy [(0, 2), (0, 3), (1, 3)] [0, 1, 2, 3] = false from by decide +kernel, (is_bool _ _).1, lift_some]
    rfl
end PD
set_option maxHeartbeats 4000000
/-! K49c: the law's proof put together. -/
namespace PD
open PySem L2 PySem.Spec PyProof.Rows
theorem bd0 : BdOk "jump_places" (topS 1) (["order", "works"]) := fun _ _ _ _ _ _ us hl => match us, hl with | [_, _], _ => rfl
theorem bd1 : BdOk "runs_of" (topS 2) (["order", "works"]) := fun _ _ _ _ _ _ us hl => match us, hl with | [_, _], _ => rfl
theorem bd2 : BdOk "free_works" (topS 3) (["order", "left"]) := fun _ _ _ _ _ _ us hl => match us, hl with | [_, _], _ => rfl
theorem bd3 : BdOk "is_greedy" (topS 4) (["order", "works"]) := fun _ _ _ _ _ _ us hl => match us, hl with | [_, _], _ => rfl
theorem bd4 : BdOk "_law_pick" (topS 7) (["source", "most"]) := fun _ _ _ _ _ _ us hl => match us, hl with | [_, _], _ => rfl
theorem bd5 : BdOk "_law_any_order" (topS 8) (["source", "things"]) := fun _ _ _ _ _ _ us hl => match us, hl with | [_, _], _ => rfl
theorem bd6 : BdOk "_law_of" (topS 9) (["source", "some"]) := fun _ _ _ _ _ _ us hl => match us, hl with | [_, _], _ => rfl
theorem bd7 : BdOk "_law_closed" (topS 10) (["n", "pairs"]) := fun _ _ _ _ _ _ us hl => match us, hl with | [_, _], _ => rfl
theorem bd8 : BdOk "_law_order" (topS 11) (["source", "least", "most"]) := fun _ _ _ _ _ _ us hl => match us, hl with | [_, _, _], _ => rfl
theorem bd9 : BdOk "_law_drawn_list" (topS 12) (["source", "order", "more"]) := fun _ _ _ _ _ _ us hl => match us, hl with | [_, _, _], _ => rfl
theorem bd10 : BdOk "_law_is_greedy" (topS 13) (["order", "works"]) := fun _ _ _ _ _ _ us hl => match us, hl with | [_, _], _ => rfl
theorem bd11 : BdOk "_law_runs" (topS 14) (["order", "works"]) := fun _ _ _ _ _ _ us hl => match us, hl with | [_, _], _ => rfl
theorem bd12 : BdOk "_law_climbing" (topS 15) (["source", "order"]) := fun _ _ _ _ _ _ us hl => match us, hl with | [_, _], _ => rfl
theorem bdS : BdOk "_law_open_cells" (topS 6) (["script"]) := fun _ _ _ _ _ _ us hl => match us, hl with | [_], _ => rfl
theorem bdL : BdOk "law" (topS 16) (["script"]) := fun _ _ _ _ _ _ us hl => match us, hl with | [_], _ => rfl
theorem bds : ∀ r ∈ rows, BdOk r.nm r.st r.ps := by
  intro r hr
  simp only [rows, List.mem_cons, List.not_mem_nil, or_false] at hr
  rcases hr with rfl | rfl | rfl | rfl | rfl | rfl | rfl | rfl | rfl | rfl | rfl | rfl | rfl
  · exact bd0
  · exact bd1
  · exact bd2
  · exact bd3
  · exact bd4
  · exact bd5
  · exact bd6
  · exact bd7
  · exact bd8
  · exact bd9
  · exact bd10
  · exact bd11
  · exact bd12
theorem rws {K : PySem.W.Frag} (L0 : Lk K "jump_places" (topS 1)) (L1 : Lk K "runs_of" (topS 2)) (L2 : Lk K "free_works" (topS 3)) (L3 : Lk K "is_greedy" (topS 4)) (L4 : Lk K "_law_pick" (topS 7)) (L5 : Lk K "_law_any_order" (topS 8)) (L6 : Lk K "_law_of" (topS 9)) (L7 : Lk K "_law_closed" (topS 10)) (L8 : Lk K "_law_order" (topS 11)) (L9 : Lk K "_law_drawn_list" (topS 12)) (L10 : Lk K "_law_is_greedy" (topS 13)) (L11 : Lk K "_law_runs" (topS 14)) (L12 : Lk K "_law_climbing" (topS 15)) : Rws K rows := by
  intro r hr
  simp only [rows, List.mem_cons, List.not_mem_nil, or_false] at hr
  rcases hr with rfl | rfl | rfl | rfl | rfl | rfl | rfl | rfl | rfl | rfl | rfl | rfl | rfl
  · exact L0
  · exact L1
  · exact L2
  · exact L3
  · exact L4
  · exact L5
  · exact L6
  · exact L7
  · exact L8
  · exact L9
  · exact L10
  · exact L11
  · exact L12
theorem zs_mk {K : PySem.W.Frag} {h : Heap} {mg : Str → Option Value} (X : K.In h) (G : h.Ns mainGlobals mg) (z0 : PySem.W.nsIn K mainGlobals "len" = some none) (z1 : PySem.W.nsIn K mainGlobals "tuple" = some none) (z2 : PySem.W.nsIn K mainGlobals "list" = some none) (z3 : PySem.W.nsIn K mainGlobals "sorted" = some none) (z4 : PySem.W.nsIn K mainGlobals "sum" = some none) (z5 : PySem.W.nsIn K mainGlobals "max" = some none) (z6 : PySem.W.nsIn K mainGlobals "min" = some none) (z7 : PySem.W.nsIn K mainGlobals "abs" = some none) (z8 : PySem.W.nsIn K mainGlobals "all" = some none) (z9 : PySem.W.nsIn K mainGlobals "any" = some none) (z10 : PySem.W.nsIn K mainGlobals "int" = some none) (z11 : PySem.W.nsIn K mainGlobals "repr" = some none) (z12 : PySem.W.nsIn K mainGlobals "range" = some none) (z13 : PySem.W.nsIn K mainGlobals "isinstance" = some none) (z14 : PySem.W.nsIn K mainGlobals "dict" = some none) (z15 : PySem.W.nsIn K mainGlobals "zip" = some none) (z16 : PySem.W.nsIn K mainGlobals "enumerate" = some none) (z17 : PySem.W.nsIn K mainGlobals "reversed" = some none) (z18 : PySem.W.nsIn K mainGlobals "str" = some none) (z19 : PySem.W.nsIn K mainGlobals "set" = some none) (z20 : PySem.W.nsIn K mainGlobals "bool" = some none) : ∀ x ∈ bltNames, mg x = none := by
  intro x hx
  simp only [bltNames, List.mem_cons, List.not_mem_nil, or_false] at hx
  rcases hx with rfl | rfl | rfl | rfl | rfl | rfl | rfl | rfl | rfl | rfl | rfl | rfl | rfl | rfl | rfl | rfl | rfl | rfl | rfl | rfl | rfl
  · exact PySem.W.mg_none_of X G z0
  · exact PySem.W.mg_none_of X G z1
  · exact PySem.W.mg_none_of X G z2
  · exact PySem.W.mg_none_of X G z3
  · exact PySem.W.mg_none_of X G z4
  · exact PySem.W.mg_none_of X G z5
  · exact PySem.W.mg_none_of X G z6
  · exact PySem.W.mg_none_of X G z7
  · exact PySem.W.mg_none_of X G z8
  · exact PySem.W.mg_none_of X G z9
  · exact PySem.W.mg_none_of X G z10
  · exact PySem.W.mg_none_of X G z11
  · exact PySem.W.mg_none_of X G z12
  · exact PySem.W.mg_none_of X G z13
  · exact PySem.W.mg_none_of X G z14
  · exact PySem.W.mg_none_of X G z15
  · exact PySem.W.mg_none_of X G z16
  · exact PySem.W.mg_none_of X G z17
  · exact PySem.W.mg_none_of X G z18
  · exact PySem.W.mg_none_of X G z19
  · exact PySem.W.mg_none_of X G z20
theorem all_mk {P : Program} {w : World} {K : PySem.W.Frag} {h : Heap} {mg : Str → Option Value} {fa : Addr} (X : K.In h) (G : h.Ns mainGlobals mg) (hfa : mg "law" = some (.ref fa)) (R : Rws K rows) (LS : Lk K "_law_open_cells" (topS 6)) (LL : Lk K "law" (topS 16)) (hb : ∀ x ∈ bltNames, mg x = none) :
    ∃ fd : FuncData, (∀ (s : Shared) (v : Value), BindsTo s fd ⟨[v], []⟩ [("script", v)]) ∧ ∀ base : Heap, TopH K mg base → FnG P w K mg base 31 fa fd ["script"] (spLaw K) := by
  obtain ⟨fL, fdL, FL, gL, bL⟩ := LL.fn X G bdL
  obtain ⟨fS, fdS, FS, gS, bS⟩ := LS.fn X G bdS
  have e : fa = fL := by rw [hfa] at gL; cases gL; rfl
  subst e
  have laid := laid_of X G R bds
  have hx : ∀ (base : Heap) (sm : ∃ o, base.get? sysModules = some o) (f k : Nat) (r : Row) (np : Nat) (sem : List B → W D), rows[f]? = some r → r.fn = .ext np sem → Kept P w K mg base rows k → ∀ a fd, Fun K r.nm r.nm r.st a fd → mg r.nm = some (.ref a) → FnG P w K mg base (k + 1) a fd r.ps (spC (callF (progOf rows) (k + 1)) f) := by
    intro base sm f k r np sem hf he hk a fd F hm
    have hC : ∀ bs Q, callF (progOf rows) (k + 1) f bs Q → 1 ≤ k ∧ bs.length = np ∧ sem bs Q := by
      intro bs Q c
      have hp : (progOf rows)[f]? = some (.ext np sem) := by unfold progOf; rw [List.getElem?_map, hf]; simp [he]
      unfold callF at c
      simp only [hp] at c
      exact ⟨c.2.1, c.1, c.2.2⟩
    have len : ∀ (vs : List V) (H : Hp) (Q : VK) (E : XK), spC (callF (progOf rows) (k + 1)) f vs H Q E → vs.length = np := fun vs H Q E ⟨S, Z, bs, Q0, _, _, _, h4, h5, _⟩ => by
      rw [h4.length]; exact (hC _ _ h5).2.1
    have hmem : f < rows.length := by
      rcases Nat.lt_or_ge f rows.length with q | q
      · exact q
      · rw [List.getElem?_eq_none q] at hf; cases hf
    match f, hmem with
    | 0, _ => have e : r = r0 := (Option.some.inj hf).symm; subst e; cases he
    | 1, _ => have e : r = r1 := (Option.some.inj hf).symm; subst e; cases he
    | 2, _ => have e : r = r2 := (Option.some.inj hf).symm; subst e; cases he
    | 3, _ => have e : r = r3 := (Option.some.inj hf).symm; subst e; cases he
    | 4, _ =>
      have e : r = r4 := (Option.some.inj hf).symm
      subst e
      cases he
      exact pick_fn F hb len hC
    | 5, _ =>
      have e : r = r5 := (Option.some.inj hf).symm
      subst e
      cases he
      exact mixed_fn laid F hb len hC
    | 6, _ => have e : r = r6 := (Option.some.inj hf).symm; subst e; cases he
    | 7, _ => have e : r = r7 := (Option.some.inj hf).symm; subst e; cases he
    | 8, _ => have e : r = r8 := (Option.some.inj hf).symm; subst e; cases he
    | 9, _ => have e : r = r9 := (Option.some.inj hf).symm; subst e; cases he
    | 10, _ => have e : r = r10 := (Option.some.inj hf).symm; subst e; cases he
    | 11, _ => have e : r = r11 := (Option.some.inj hf).symm; subst e; cases he
    | 12, _ => have e : r = r12 := (Option.some.inj hf).symm; subst e; cases he
  refine ⟨fdL, ?_, fun base T => ?_⟩
  · intro s v
    obtain ⟨oc, od, kV, doc, pm, an, cdv, ct, osl, e, _⟩ := FL.ex
    subst e
    exact .of_eq rfl
  · have kept := all_kept (P := P) (w := w) laid rows_ok T.smod hb (hx base T.smod)
    have lk := law_ok
    rw [Bool.and_eq_true] at lk
    exact law_fn FL lk.1 rfl lk.2 rfl rfl (by decide +kernel) (by decide +kernel) (by decide +kernel) (by decide +kernel) FS bS gS (ok_source FS hb) T.smod hb (kept 30) law_true
end PD
open PySem PySem.W PyProof.Rows
set_option maxHeartbeats 0 in
theorem PySem.Challenge.cw_eachorder_k49_jumps_runs_greedy_lists_holds : PySem.Challenge.rw_eachorder_k49_jumps_runs_greedy_lists.Holds := by
  w_on; o_law; k_head; (case hw => w_witness2)
  k_fill
  refine PD.walkG (l := PySem.Challenge.rw_eachorder_k49_jumps_runs_greedy_lists) (n := 63) (k := 31) (x := "script") rfl (by decide) rfl ⟨rfl, by decide, by decide⟩ (by decide +kernel) (fun w h Y => PySem.W.kIn_of Y) ?F
  case F =>
    intro w mg fa h KX G hmg
    have hL0 : PD.Lk (_root_.L2.KOf KX) "jump_places" (PD.topS 1) := by refine' PD.lk_mk KX ?a ?l ?c ?k; (case a => k_is); (case l => k_is); (case c => k_is); (case k => k_is)
    have hL1 : PD.Lk (_root_.L2.KOf KX) "runs_of" (PD.topS 2) := by refine' PD.lk_mk KX ?a ?l ?c ?k; (case a => k_is); (case l => k_is); (case c => k_is); (case k => k_is)
    have hL2 : PD.Lk (_root_.L2.KOf KX) "free_works" (PD.topS 3) := by refine' PD.lk_mk KX ?a ?l ?c ?k; (case a => k_is); (case l => k_is); (case c => k_is); (case k => k_is)
    have hL3 : PD.Lk (_root_.L2.KOf KX) "is_greedy" (PD.topS 4) := by refine' PD.lk_mk KX ?a ?l ?c ?k; (case a => k_is); (case l => k_is); (case c => k_is); (case k => k_is)
    have hL4 : PD.Lk (_root_.L2.KOf KX) "_law_pick" (PD.topS 7) := by refine' PD.lk_mk KX ?a ?l ?c ?k; (case a => k_is); (case l => k_is); (case c => k_is); (case k => k_is)
    have hL5 : PD.Lk (_root_.L2.KOf KX) "_law_any_order" (PD.topS 8) := by refine' PD.lk_mk KX ?a ?l ?c ?k; (case a => k_is); (case l => k_is); (case c => k_is); (case k => k_is)
    have hL6 : PD.Lk (_root_.L2.KOf KX) "_law_of" (PD.topS 9) := by refine' PD.lk_mk KX ?a ?l ?c ?k; (case a => k_is); (case l => k_is); (case c => k_is); (case k => k_is)
    have hL7 : PD.Lk (_root_.L2.KOf KX) "_law_closed" (PD.topS 10) := by refine' PD.lk_mk KX ?a ?l ?c ?k; (case a => k_is); (case l => k_is); (case c => k_is); (case k => k_is)
    have hL8 : PD.Lk (_root_.L2.KOf KX) "_law_order" (PD.topS 11) := by refine' PD.lk_mk KX ?a ?l ?c ?k; (case a => k_is); (case l => k_is); (case c => k_is); (case k => k_is)
    have hL9 : PD.Lk (_root_.L2.KOf KX) "_law_drawn_list" (PD.topS 12) := by refine' PD.lk_mk KX ?a ?l ?c ?k; (case a => k_is); (case l => k_is); (case c => k_is); (case k => k_is)
    have hL10 : PD.Lk (_root_.L2.KOf KX) "_law_is_greedy" (PD.topS 13) := by refine' PD.lk_mk KX ?a ?l ?c ?k; (case a => k_is); (case l => k_is); (case c => k_is); (case k => k_is)
    have hL11 : PD.Lk (_root_.L2.KOf KX) "_law_runs" (PD.topS 14) := by refine' PD.lk_mk KX ?a ?l ?c ?k; (case a => k_is); (case l => k_is); (case c => k_is); (case k => k_is)
    have hL12 : PD.Lk (_root_.L2.KOf KX) "_law_climbing" (PD.topS 15) := by refine' PD.lk_mk KX ?a ?l ?c ?k; (case a => k_is); (case l => k_is); (case c => k_is); (case k => k_is)
    have hLS : PD.Lk (_root_.L2.KOf KX) "_law_open_cells" (PD.topS 6) := by refine' PD.lk_mk KX ?a ?l ?c ?k; (case a => k_is); (case l => k_is); (case c => k_is); (case k => k_is)
    have hLL : PD.Lk (_root_.L2.KOf KX) "law" (PD.topS 16) := by refine' PD.lk_mk KX ?a ?l ?c ?k; (case a => k_is); (case l => k_is); (case c => k_is); (case k => k_is)
    refine PD.all_mk KX G hmg (PD.rws hL0 hL1 hL2 hL3 hL4 hL5 hL6 hL7 hL8 hL9 hL10 hL11 hL12) hLS hLL ?Z
    refine' PD.zs_mk KX G ?z0 ?z1 ?z2 ?z3 ?z4 ?z5 ?z6 ?z7 ?z8 ?z9 ?z10 ?z11 ?z12 ?z13 ?z14 ?z15 ?z16 ?z17 ?z18 ?z19 ?z20
    all_goals k_is
