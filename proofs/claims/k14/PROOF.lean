import PyProof.Rows.All
import Wide.All
import OpenK.AllK
import Wide.FinOn
import HandS.ForMost
import HandS.Flow
import HandS.Star
import HandS.Deep
import HandS.Conv
import HandS.More
import KE.DataCmp
import KE.SortData
import HandS.TupAny
import HandS.Wide
import PyProof.P3In
import HandS.Style
import HandS.Lambda
import KE.KRevSl
import HandS.TupLen
import KE.LtData
import KE.KSortAsk
import KE.KSortTup
import KE.DataMinMax
import KE.KDictPairs
import HandS.NoneIn
import HandS.Zip
import KE.GoesEnum
import HandS.Iter
import KE.KDictDisplayH
import HandS.SetFor
import HandS.Strs
import HandS.IsInst
import HandS.DictComp
import HandS.SortKw
import KE.SortKeyHeap
import KE.SortUse
import HandS.EndBits
import HandS.WordsDict
import PyProof.ReprBulk
import PyProof.FitsInt
import PySem.Challenge.RW_eachorder_k14_whole_lots_at_a_time
set_option Elab.async false
set_option linter.all false
set_option maxRecDepth 100000
/-! PDa: data behind values (Rp), what stays, slots. -/
namespace PD
open PySem L2
section
open PySem L2

abbrev D := PyData
abbrev Zn := Addr → Prop

def keyD : Key → D
  | .inl i => .int i
  | .inr x => .str x
def tkeyD (ks : List Key) : D := .tuple (ks.map keyD)

/-! marked data: a tuple that is known to have no dict of its own -/
@[irreducible] def bigI : Int := 2 ^ 2000
/-- the mark -/
def mkH (ds : List D) : D := .dict [(.list [.int bigI], .list ds)]
/-- not the mark -/
def nmK : List (D × D) → Bool
  | (.list _, _) :: _ => false
  | _ => true
/-- the items of a mark -/
def unH : List (D × D) → Option (List D)
  | [(.list [.int i], .list xs)] => if i = bigI then some xs else none
  | _ => none
theorem unH_of {kvs : List (D × D)} {xs : List D} (h : unH kvs = some xs) : PyData.dict kvs = mkH xs := by
  unfold unH at h
  split at h
  · split at h
    · rename_i e
      cases h
      subst e
      rfl
    · cases h
  · cases h
theorem unH_mk (xs : List D) : unH [(.list [.int bigI], .list xs)] = some xs := by
  unfold unH
  simp
def mkT : List (D × D) → D
  | [(.list [.int i], .list xs)] => if i = bigI then .tuple xs else .dict [(.list [.int i], .list xs)]
  | kvs => .dict kvs
mutual
/-- the marks taken off -/
def er : D → D
  | .list xs => .list (erL xs)
  | .tuple xs => .tuple (erL xs)
  | .dict kvs => mkT (erK kvs)
  | .none => .none
  | .bool b => .bool b
  | .int i => .int i
  | .str x => .str x
def erL : List D → List D
  | [] => []
  | x :: xs => er x :: erL xs
def erK : List (D × D) → List (D × D)
  | [] => []
  | (k, v) :: r => (k, er v) :: erK r
end
theorem er_mkH (ds : List D) : er (mkH ds) = .tuple (erL ds) := by
  unfold mkH
  simp [er, erK, mkT]
theorem erL_len : ∀ ds : List D, (erL ds).length = ds.length
  | [] => by simp [erL]
  | x :: xs => by simp [erL, erL_len xs]
mutual
theorem er_lay : ∀ d : D, d.canLay0 = true → er d = d
  | .none, _ => by simp [er]
  | .bool _, _ => by simp [er]
  | .int _, _ => by simp [er]
  | .str _, _ => by simp [er]
  | .list xs, h => by rw [er, erL_lay xs (by simpa [PyData.canLay0] using h)]
  | .tuple xs, h => by rw [er, erL_lay xs (by simpa [PyData.canLay0] using h)]
  | .dict _, h => by simp [PyData.canLay0] at h
theorem erL_lay : ∀ xs : List D, PyData.canLayAll0 xs = true → erL xs = xs
  | [], _ => by simp [erL]
  | x :: xs, h => by
    have h : x.canLay0 = true ∧ PyData.canLayAll0 xs = true := by simpa [PyData.canLayAll0] using h
    rw [erL, er_lay x h.1, erL_lay xs h.2]
end
mutual
theorem er_alike : ∀ d : D, PySem.W.alike d d = true → er d = d
  | .none, _ => by simp [er]
  | .bool _, _ => by simp [er]
  | .int _, _ => by simp [er]
  | .str _, _ => by simp [er]
  | .list xs, h => by rw [er, erL_alike xs (by simpa [PySem.W.alike] using h)]
  | .tuple xs, h => by rw [er, erL_alike xs (by simpa [PySem.W.alike] using h)]
  | .dict _, h => by simp [PySem.W.alike] at h
theorem erL_alike : ∀ xs : List D, PySem.W.alikeAll xs xs = true → erL xs = xs
  | [], _ => by simp [erL]
  | x :: xs, h => by
    have h := PySem.W.alike_all_cons h
    rw [erL, er_alike x h.1, erL_alike xs h.2]
end
theorem erL_ints : ∀ ns : List Int, erL (ns.map PyData.int) = ns.map PyData.int
  | [] => by simp [erL]
  | n :: ns => by rw [List.map_cons, erL, er, erL_ints ns]
theorem big_show : PyData.showable (.int bigI) = false := by
  simp only [PyData.showable]
  decide +kernel
theorem mkT_show {kvs : List (D × D)} (h : PyData.showableKv kvs = true) : mkT kvs = .dict kvs := by
  unfold mkT
  split
  · split
    · rename_i e
      subst e
      simp [PyData.showableKv, PyData.showable, PyData.showableAll] at h
      have := big_show
      simp only [PyData.showable] at this
      simp [h] at this
    · rfl
  · rfl
mutual
theorem er_show : ∀ d : D, d.showable = true → er d = d
  | .none, _ => by simp [er]
  | .bool _, _ => by simp [er]
  | .int _, _ => by simp [er]
  | .str _, _ => by simp [er]
  | .list xs, h => by rw [er, erL_show xs (by simpa [PyData.showable] using h)]
  | .tuple xs, h => by rw [er, erL_show xs (by simpa [PyData.showable] using h)]
  | .dict kvs, h => by
    have h : PyData.showableKv kvs = true := by simpa [PyData.showable] using h
    rw [er, erK_show kvs h, mkT_show h]
theorem erL_show : ∀ xs : List D, PyData.showableAll xs = true → erL xs = xs
  | [], _ => by simp [erL]
  | x :: xs, h => by
    have h : x.showable = true ∧ PyData.showableAll xs = true := by simpa [PyData.showableAll] using h
    rw [erL, er_show x h.1, erL_show xs h.2]
theorem erK_show : ∀ kvs : List (D × D), PyData.showableKv kvs = true → erK kvs = kvs
  | [], _ => by simp [erK]
  | (k, v) :: r, h => by
    have h : (k.showable = true ∧ v.showable = true) ∧ PyData.showableKv r = true := by simpa [PyData.showableKv] using h
    rw [erK, er_show v h.1.2, erK_show r h.2]
end
/-- a dict of proper keys is no mark -/
theorem er_keys {α : Type} (f : α → D) (hf : ∀ a xs, f a ≠ .list xs) : ∀ (ks : List α) (ds : List D), er (.dict ((ks.map f).zip ds)) = .dict ((ks.map f).zip (erL ds)) := by
  have e : ∀ (ks : List α) (ds : List D), erK ((ks.map f).zip ds) = (ks.map f).zip (erL ds) := by
    intro ks
    induction ks with
    | nil => intro ds; simp [erK]
    | cons k ks ih =>
      intro ds
      cases ds with
      | nil => simp [erK, erL]
      | cons d ds => simp [erK, erL, ih]
  intro ks ds
  rw [er, e]
  cases ks with
  | nil => simp [mkT]
  | cons k ks =>
    cases h : erL ds with
    | nil => simp [mkT]
    | cons d ds =>
      rw [List.map_cons, List.zip_cons_cons]
      unfold mkT
      split
      · rename_i q
        have := (List.cons.inj q).1
        exact absurd (Prod.mk.inj this).1 (hf k _)
      · rfl
theorem keyD_nl (k : Key) (xs : List D) : keyD k ≠ .list xs := by cases k <;> intro e <;> cases e
theorem tkeyD_nl (k : List Key) (xs : List D) : tkeyD k ≠ .list xs := by intro e; cases e
theorem nmK_keys {α : Type} (f : α → D) (hf : ∀ a xs, f a ≠ .list xs) (ks : List α) (ds : List D) : nmK ((ks.map f).zip ds) = true := by
  unfold nmK
  split
  · rename_i q
    cases ks with
    | nil => cases q
    | cons k ks => cases ds with
      | nil => cases q
      | cons d ds => exact absurd (Prod.mk.inj (List.cons.inj q).1).1 (hf k _)
  · rfl

mutual
/-- v is the datum d; no list or dict of it stands at a place of N -/
inductive Rp (N : Zn) (H : Hp) : V → D → Prop
  | non : Rp N H .non .none
  | bl (b : Bool) : Rp N H (.bl b) (.bool b)
  | int (i : Int) : Rp N H (.int i) (.int i)
  | str (x : Str) : Rp N H (.str x) (.str x)
  | lst {a xs ds} : ¬ N a → H a = some (.lst xs) → RpAll N H xs ds → Rp N H (.ref a) (.list ds)
  | tup {a xs ds} : H a = some (.tup xs) → RpAll N H xs ds → Rp N H (.ref a) (.tuple ds)
  | hrd {a o xs ds} : H a = some (.frz o (.tup xs)) → o.dict = none → RpAll N H xs ds → Rp N H (.ref a) (mkH ds)
  | dK {a kvs ds} : ¬ N a → H a = some (.dK kvs) → RpAll N H (kvs.map (·.2)) ds → Rp N H (.ref a) (.dict ((kvs.map (fun p => keyD p.1)).zip ds))
  | dT {a kvs ds} : ¬ N a → kvs ≠ [] → H a = some (.dT kvs) → RpAll N H (kvs.map (·.2)) ds → Rp N H (.ref a) (.dict ((kvs.map (fun p => tkeyD p.1)).zip ds))
inductive RpAll (N : Zn) (H : Hp) : List V → List D → Prop
  | nil : RpAll N H [] []
  | cons {v vs d ds} : Rp N H v d → RpAll N H vs ds → RpAll N H (v :: vs) (d :: ds)
end

/-- the top may stand anywhere, what is within not in N -/
inductive RpB (N : Zn) (H : Hp) : V → D → Prop
  | of {v d} : Rp N H v d → RpB N H v d
  | lst {a xs ds} : H a = some (.lst xs) → RpAll N H xs ds → RpB N H (.ref a) (.list ds)
  | dK {a kvs ds} : H a = some (.dK kvs) → RpAll N H (kvs.map (·.2)) ds → RpB N H (.ref a) (.dict ((kvs.map (fun p => keyD p.1)).zip ds))
  | dT {a kvs ds} : kvs ≠ [] → H a = some (.dT kvs) → RpAll N H (kvs.map (·.2)) ds → RpB N H (.ref a) (.dict ((kvs.map (fun p => tkeyD p.1)).zip ds))

/-- what is not in N (nor any tuple) stays -/
def Ext (N : Zn) (H H' : Hp) : Prop := ∀ a o, H a = some o → ¬ N a → H' a = some o
theorem Ext.refl {N : Zn} {H : Hp} : Ext N H H := fun _ _ e _ => e
theorem Ext.trans {N : Zn} {H H1 H2 : Hp} (a : Ext N H H1) (b : Ext N H1 H2) : Ext N H H2 := fun c o e n => b c o (a c o e n) n
theorem Ext.new {N : Zn} {H : Hp} {p : Addr} {o : HO} (h : H p = none) : Ext N H (upd H p o) := fun a u e _ => by
  rw [upd_ne (ne_of_none e h)]; exact e
theorem Ext.mono {N N' : Zn} {H H' : Hp} (e : Ext N H H') (h : ∀ a, N a → N' a) : Ext N' H H' := fun a o q n => e a o q fun z => n (h a z)

abbrev No : Zn := fun _ => False

/-- what may change, tables too -/
def Mt : Option HO → Prop
  | some (.tbl _) => True
  | o => Mut o
theorem Mt.of {o : Option HO} (m : Mut o) : Mt o := by
  unfold Mt
  split
  · trivial
  · exact m
/-- no tuple, no thing that is read only, stands in N -/
structure Fit (N : Zn) (H : Hp) : Prop where
  dom : ∀ a, N a → ∃ o, H a = some o ∧ Mt (some o)

theorem Fit.ne {N : Zn} {H : Hp} (f : Fit N H) {p : Addr} (h : H p = none) : ¬ N p := fun z => by
  obtain ⟨o, e, _⟩ := f.dom p z
  rw [h] at e; cases e

section
variable {N N' : Zn} {H H' : Hp}
theorem hrd_ext {a : Addr} {o : Obj} {xs : List V} (e : Ext N H H') (f : Fit N H) (h : H a = some (.frz o (.tup xs))) : H' a = some (.frz o (.tup xs)) := by
  refine e _ _ h fun z => ?_
  obtain ⟨o, q, m⟩ := f.dom a z
  rw [h] at q; cases q; exact m
theorem tup_ext {a : Addr} {xs : List V} (e : Ext N H H') (f : Fit N H) (h : H a = some (.tup xs)) : H' a = some (.tup xs) := by
  refine e _ _ h fun z => ?_
  obtain ⟨o, q, m⟩ := f.dom a z
  rw [h] at q; cases q; exact m
mutual
theorem Rp.ext (e : Ext N H H') (f : Fit N H) : ∀ {v : V} {d : D}, Rp N H v d → Rp N H' v d
  | _, _, .non => .non
  | _, _, .bl b => .bl b
  | _, _, .int i => .int i
  | _, _, .str x => .str x
  | _, _, .lst n h r => .lst n (e _ _ h n) (RpAll.ext e f r)
  | _, _, .tup h r => .tup (tup_ext e f h) (RpAll.ext e f r)
  | _, _, .hrd h z r => .hrd (hrd_ext e f h) z (RpAll.ext e f r)
  | _, _, .dK n h r => .dK n (e _ _ h n) (RpAll.ext e f r)
  | _, _, .dT n z h r => .dT n z (e _ _ h n) (RpAll.ext e f r)
theorem RpAll.ext (e : Ext N H H') (f : Fit N H) : ∀ {vs : List V} {ds : List D}, RpAll N H vs ds → RpAll N H' vs ds
  | _, _, .nil => .nil
  | _, _, .cons r rs => .cons (Rp.ext e f r) (RpAll.ext e f rs)
end
mutual
theorem Rp.less (h : ∀ a, N' a → N a) : ∀ {v : V} {d : D}, Rp N H v d → Rp N' H v d
  | _, _, .non => .non
  | _, _, .bl b => .bl b
  | _, _, .int i => .int i
  | _, _, .str x => .str x
  | _, _, .lst n q r => .lst (fun z => n (h _ z)) q (RpAll.less h r)
  | _, _, .tup q r => .tup q (RpAll.less h r)
  | _, _, .hrd q z r => .hrd q z (RpAll.less h r)
  | _, _, .dK n q r => .dK (fun z => n (h _ z)) q (RpAll.less h r)
  | _, _, .dT n z q r => .dT (fun z => n (h _ z)) z q (RpAll.less h r)
theorem RpAll.less (h : ∀ a, N' a → N a) : ∀ {vs : List V} {ds : List D}, RpAll N H vs ds → RpAll N' H vs ds
  | _, _, .nil => .nil
  | _, _, .cons r rs => .cons (Rp.less h r) (RpAll.less h rs)
end
theorem RpAll.length : ∀ {vs : List V} {ds : List D}, RpAll N H vs ds → vs.length = ds.length
  | _, _, .nil => rfl
  | _, _, .cons _ r => by simp [RpAll.length r]
theorem RpAll.append : ∀ {vs ws : List V} {ds es : List D}, RpAll N H vs ds → RpAll N H ws es → RpAll N H (vs ++ ws) (ds ++ es)
  | _, _, _, _, .nil, s => s
  | _, _, _, _, .cons r t, s => .cons r (RpAll.append t s)
theorem RpAll.get : ∀ {vs : List V} {ds : List D} {i : Nat} {v : V}, RpAll N H vs ds → vs[i]? = some v → ∃ d, ds[i]? = some d ∧ Rp N H v d
  | _, _, _, _, .nil, e => by simp at e
  | _, _, 0, _, .cons r _, e => by simp at e; subst e; exact ⟨_, rfl, r⟩
  | _, _, i + 1, _, .cons _ t, e => by
    obtain ⟨d, h1, h2⟩ := RpAll.get (i := i) t (by simpa using e)
    exact ⟨d, by simpa using h1, h2⟩
theorem RpAll.get' : ∀ {vs : List V} {ds : List D} {i : Nat} {d : D}, RpAll N H vs ds → ds[i]? = some d → ∃ v, vs[i]? = some v ∧ Rp N H v d
  | _, _, _, _, .nil, e => by simp at e
  | _, _, 0, _, .cons r _, e => by simp at e; subst e; exact ⟨_, rfl, r⟩
  | _, _, i + 1, _, .cons _ t, e => by
    obtain ⟨d, h1, h2⟩ := RpAll.get' (i := i) t (by simpa using e)
    exact ⟨d, by simpa using h1, h2⟩
theorem RpAll.set : ∀ {vs : List V} {ds : List D} {v : V} {d : D} (i : Nat), RpAll N H vs ds → Rp N H v d → RpAll N H (vs.set i v) (ds.set i d)
  | _, _, _, _, _, .nil, _ => .nil
  | _, _, _, _, 0, .cons _ t, r => .cons r t
  | _, _, _, _, i + 1, .cons q t, r => .cons q (RpAll.set i t r)
theorem RpAll.take : ∀ {vs : List V} {ds : List D} (n : Nat), RpAll N H vs ds → RpAll N H (vs.take n) (ds.take n)
  | _, _, 0, _ => .nil
  | _, _, _ + 1, .nil => .nil
  | _, _, n + 1, .cons r t => .cons r (RpAll.take n t)
theorem RpAll.drop : ∀ {vs : List V} {ds : List D} (n : Nat), RpAll N H vs ds → RpAll N H (vs.drop n) (ds.drop n)
  | _, _, 0, r => r
  | _, _, _ + 1, .nil => .nil
  | _, _, n + 1, .cons _ t => RpAll.drop n t
theorem RpAll.reverse {vs : List V} {ds : List D} (h : RpAll N H vs ds) : RpAll N H vs.reverse ds.reverse := by
  induction vs generalizing ds with
  | nil => cases h; exact .nil
  | cons v vs ih =>
    cases h with
    | cons r t =>
      rw [List.reverse_cons, List.reverse_cons]
      exact (ih t).append (.cons r .nil)
theorem RpAll.eraseIdx : ∀ {vs : List V} {ds : List D} (i : Nat), RpAll N H vs ds → RpAll N H (vs.eraseIdx i) (ds.eraseIdx i)
  | _, _, _, .nil => .nil
  | _, _, 0, .cons _ t => t
  | _, _, i + 1, .cons q t => .cons q (RpAll.eraseIdx i t)
theorem RpAll.dropLast {vs : List V} {ds : List D} (h : RpAll N H vs ds) : RpAll N H vs.dropLast ds.dropLast := by
  rw [List.dropLast_eq_take, List.dropLast_eq_take, h.length]; exact h.take _
theorem RpAll.flatRep {vs : List V} {ds : List D} (h : RpAll N H vs ds) : ∀ k : Nat, RpAll N H (List.replicate k vs).flatten (List.replicate k ds).flatten
  | 0 => .nil
  | k + 1 => by rw [List.replicate_succ, List.replicate_succ, List.flatten_cons, List.flatten_cons]; exact h.append (RpAll.flatRep h k)
theorem RpAll.ints : ∀ {vs : List V} {ns : List Int}, RpAll N H vs (ns.map PyData.int) → vs = ns.map V.int
  | _, [], .nil => rfl
  | _, n :: ns, .cons r t => by cases r; rw [RpAll.ints t]; rfl
theorem RpAll.ofInts : ∀ (ns : List Int), RpAll N H (ns.map V.int) (ns.map PyData.int)
  | [] => .nil
  | n :: ns => .cons (.int n) (RpAll.ofInts ns)
theorem RpAll.bools : ∀ {vs : List V} {ns : List Bool}, RpAll N H vs (ns.map PyData.bool) → vs = ns.map V.bl
  | _, [], .nil => rfl
  | _, n :: ns, .cons r t => by cases r; rw [RpAll.bools t]; rfl
theorem Rp.fresh {v : V} {d : D} (h : Rp N H v d) {p : Addr} (hp : H p = none) : True := trivial

theorem RpB.ext {v : V} {d : D} (e : Ext No H H') (f : Fit N H) (h : RpB N H v d) : RpB N H' v d := by
  have e' : Ext N H H' := fun a o q _ => e a o q (fun z => z)
  cases h with
  | of r => exact .of (r.ext e' f)
  | lst q r => exact .lst (e _ _ q (fun z => z)) (r.ext e' f)
  | dK q r => exact .dK (e _ _ q (fun z => z)) (r.ext e' f)
  | dT z q r => exact .dT z (e _ _ q (fun z => z)) (r.ext e' f)
theorem RpB.less (h : ∀ a, N' a → N a) {v : V} {d : D} (r : RpB N H v d) : RpB N' H v d := by
  cases r with
  | of r => exact .of (r.less h)
  | lst q r => exact .lst q (r.less h)
  | dK q r => exact .dK q (r.less h)
  | dT z q r => exact .dT z q (r.less h)
mutual
theorem Rp.move {H1 : Hp} (e : Ext N H1 H) (f : Fit N H1) (hN : ∀ a, N' a → N a ∨ H1 a = none) : ∀ {v : V} {d : D}, Rp N H1 v d → Rp N' H v d
  | _, _, .non => .non
  | _, _, .bl b => .bl b
  | _, _, .int i => .int i
  | _, _, .str x => .str x
  | _, _, .lst n h r => .lst (fun z => (hN _ z).elim n fun q => by rw [h] at q; cases q) (e _ _ h n) (RpAll.move e f hN r)
  | _, _, .tup h r => .tup (tup_ext e f h) (RpAll.move e f hN r)
  | _, _, .hrd h z r => .hrd (hrd_ext e f h) z (RpAll.move e f hN r)
  | _, _, .dK n h r => .dK (fun z => (hN _ z).elim n fun q => by rw [h] at q; cases q) (e _ _ h n) (RpAll.move e f hN r)
  | _, _, .dT n z h r => .dT (fun z => (hN _ z).elim n fun q => by rw [h] at q; cases q) z (e _ _ h n) (RpAll.move e f hN r)
theorem RpAll.move {H1 : Hp} (e : Ext N H1 H) (f : Fit N H1) (hN : ∀ a, N' a → N a ∨ H1 a = none) : ∀ {vs : List V} {ds : List D}, RpAll N H1 vs ds → RpAll N' H vs ds
  | _, _, .nil => .nil
  | _, _, .cons r rs => .cons (Rp.move e f hN r) (RpAll.move e f hN rs)
end
theorem RpB.move {H1 : Hp} (e : Ext N H1 H) (f : Fit N H1) (hN : ∀ a, N' a → N a ∨ H1 a = none) {v : V} {d : D} (t : ∀ a o, v = .ref a → H1 a = some o → H a = some o) (h : RpB N H1 v d) : RpB N' H v d := by
  cases h with
  | of r => exact .of (r.move e f hN)
  | lst q r => exact .lst (t _ _ rfl q) (r.move e f hN)
  | dK q r => exact .dK (t _ _ rfl q) (r.move e f hN)
  | dT z q r => exact .dT z (t _ _ rfl q) (r.move e f hN)

/-- shapes -/
theorem RpB.int_of {v : V} {i : Int} (h : RpB N H v (.int i)) : v = .int i := by
  cases h with | of r => cases r; rfl
theorem RpB.bl_of {v : V} {i : Bool} (h : RpB N H v (.bool i)) : v = .bl i := by
  cases h with | of r => cases r; rfl
theorem RpB.str_of {v : V} {i : Str} (h : RpB N H v (.str i)) : v = .str i := by
  cases h with | of r => cases r; rfl
theorem RpB.non_of {v : V} (h : RpB N H v .none) : v = .non := by
  cases h with | of r => cases r; rfl
theorem RpB.list_of {v : V} {ds : List D} (h : RpB N H v (.list ds)) : ∃ a xs, v = .ref a ∧ H a = some (.lst xs) ∧ RpAll N H xs ds := by
  cases h with
  | of r => cases r with | lst n q r => exact ⟨_, _, rfl, q, r⟩
  | lst q r => exact ⟨_, _, rfl, q, r⟩
theorem RpB.tup_of {v : V} {ds : List D} (h : RpB N H v (.tuple ds)) : ∃ a xs, v = .ref a ∧ H a = some (.tup xs) ∧ RpAll N H xs ds := by
  cases h with
  | of r => cases r with | tup q r => exact ⟨_, _, rfl, q, r⟩
theorem RpB.dict_of {v : V} {ds : List (D × D)} (h : RpB N H v (.dict ds)) (hk : nmK ds = true) : ∃ a, v = .ref a ∧
    ((∃ kvs es, H a = some (.dK kvs) ∧ RpAll N H (kvs.map (·.2)) es ∧ ds = (kvs.map (fun p => keyD p.1)).zip es) ∨
     (∃ kvs es, kvs ≠ [] ∧ H a = some (.dT kvs) ∧ RpAll N H (kvs.map (·.2)) es ∧ ds = (kvs.map (fun p => tkeyD p.1)).zip es)) := by
  cases h with
  | of r =>
    generalize hd : PyData.dict ds = d at r
    cases r with
    | dK n q r => cases hd; exact ⟨_, rfl, .inl ⟨_, _, q, r, rfl⟩⟩
    | dT n z q r => cases hd; exact ⟨_, rfl, .inr ⟨_, _, z, q, r, rfl⟩⟩
    | hrd q z r => cases hd; cases hk
    | non => cases hd
    | bl _ => cases hd
    | int _ => cases hd
    | str _ => cases hd
    | lst _ _ _ => cases hd
    | tup _ _ => cases hd
  | dK q r => exact ⟨_, rfl, .inl ⟨_, _, q, r, rfl⟩⟩
  | dT z q r => exact ⟨_, rfl, .inr ⟨_, _, z, q, r, rfl⟩⟩
theorem RpB.dict_ref {v : V} {ds : List (D × D)} (h : RpB N H v (.dict ds)) : ∃ a, v = .ref a := by
  cases h with
  | of r =>
    generalize hd : PyData.dict ds = d at r
    cases r with
    | dK n q r => exact ⟨_, rfl⟩
    | dT n z q r => exact ⟨_, rfl⟩
    | hrd q z r => exact ⟨_, rfl⟩
    | non => cases hd
    | bl _ => cases hd
    | int _ => cases hd
    | str _ => cases hd
    | lst _ _ _ => cases hd
    | tup _ _ => cases hd
  | dK q r => exact ⟨_, rfl⟩
  | dT z q r => exact ⟨_, rfl⟩
theorem RpB.mk_of {v : V} {kvs : List (D × D)} (h : RpB N H v (.dict kvs)) (hk : nmK kvs = false) : ∃ ds, PyData.dict kvs = mkH ds := by
  have nz : ∀ {α : Type} (f : α → D) (hf : ∀ a xs, f a ≠ .list xs) (ks : List α) (es : List D), PyData.dict kvs ≠ .dict ((ks.map f).zip es) := fun f hf ks es z => by
    have h1 := nmK_keys f hf ks es
    rw [← PyData.dict.inj z, hk] at h1
    cases h1
  generalize hd : PyData.dict kvs = d at h
  cases h with
  | of r =>
    cases r with
    | dK n q r => rename_i kvs es; rw [show (kvs.map fun p => keyD p.1) = (kvs.map (·.1)).map keyD by rw [List.map_map]; rfl] at hd; exact absurd hd (nz keyD keyD_nl _ _)
    | dT n z q r => rename_i kvs es; rw [show (kvs.map fun p => tkeyD p.1) = (kvs.map (·.1)).map tkeyD by rw [List.map_map]; rfl] at hd; exact absurd hd (nz tkeyD tkeyD_nl _ _)
    | hrd q z r => exact ⟨_, rfl⟩
    | non => cases hd
    | bl _ => cases hd
    | int _ => cases hd
    | str _ => cases hd
    | lst _ _ _ => cases hd
    | tup _ _ => cases hd
  | dK q r => rename_i kvs es; rw [show (kvs.map fun p => keyD p.1) = (kvs.map (·.1)).map keyD by rw [List.map_map]; rfl] at hd; exact absurd hd (nz keyD keyD_nl _ _)
  | dT z q r => rename_i kvs es; rw [show (kvs.map fun p => tkeyD p.1) = (kvs.map (·.1)).map tkeyD by rw [List.map_map]; rfl] at hd; exact absurd hd (nz tkeyD tkeyD_nl _ _)
  | lst _ _ => cases hd
theorem RpB.hrd_of {v : V} {ds : List D} (h : RpB N H v (mkH ds)) : ∃ a o xs, v = .ref a ∧ H a = some (.frz o (.tup xs)) ∧ o.dict = none ∧ RpAll N H xs ds := by
  have nz : ∀ {α : Type} (f : α → D) (hf : ∀ a xs, f a ≠ .list xs) (ks : List α) (es : List D), mkH ds ≠ .dict ((ks.map f).zip es) := fun f hf ks es z => by
    have h1 := nmK_keys f hf ks es
    rw [← PyData.dict.inj z] at h1
    cases h1
  generalize hd : mkH ds = d at h
  cases h with
  | of r =>
    cases r with
    | dK n q r => rename_i kvs es; rw [show (kvs.map fun p => keyD p.1) = (kvs.map (·.1)).map keyD by rw [List.map_map]; rfl] at hd; exact absurd hd (nz keyD keyD_nl _ _)
    | dT n z q r => rename_i kvs es; rw [show (kvs.map fun p => tkeyD p.1) = (kvs.map (·.1)).map tkeyD by rw [List.map_map]; rfl] at hd; exact absurd hd (nz tkeyD tkeyD_nl _ _)
    | hrd q z r =>
      unfold mkH at hd
      cases hd
      exact ⟨_, _, _, rfl, q, z, r⟩
    | non => cases hd
    | bl _ => cases hd
    | int _ => cases hd
    | str _ => cases hd
    | lst _ _ _ => cases hd
    | tup _ _ => cases hd
  | dK q r => rename_i kvs es; rw [show (kvs.map fun p => keyD p.1) = (kvs.map (·.1)).map keyD by rw [List.map_map]; rfl] at hd; exact absurd hd (nz keyD keyD_nl _ _)
  | dT z q r => rename_i kvs es; rw [show (kvs.map fun p => tkeyD p.1) = (kvs.map (·.1)).map tkeyD by rw [List.map_map]; rfl] at hd; exact absurd hd (nz tkeyD tkeyD_nl _ _)
  | lst _ _ => cases hd
end

/-! ### to Reads: data read off the heap -/
end
/-! PDb: what operators make of data, and that they do. -/
section
open PySem L2

/-! ### data read off the heap -/
section
variable {X : Cx} {pins : List (Addr × Obj)} {σ : St} {H : Hp} {s : Shared} {N : Zn}
theorem reads_keysK {h : Heap} {P : Program} {w : World} : ∀ {es : List DictEntry} {vs : List (Key × Value)}, Pairs (mixKind P w) es vs → ∃ as, ReadsAll h (es.map (·.key)) (vs.map (fun p => keyD p.1)) as ∧ as = []
  | _, _, .nil => ⟨_, .nil, rfl⟩
  | _, _, .cons (e := e) (kv := kv) r _ t => by
    obtain ⟨as, q, rfl⟩ := reads_keysK (h := h) t
    rcases keyIs_shape (k := kv.1) (v := e.key) r with ⟨i, u, e1, e2⟩ | ⟨x, u, e1, e2⟩
    · refine ⟨_, .cons (as := []) (d := keyD kv.1) ?_ q, rfl⟩; show Reads h e.key _ _; rw [e1, e2]; exact .int i u
    · refine ⟨_, .cons (as := []) (d := keyD kv.1) ?_ q, rfl⟩; show Reads h e.key _ _; rw [e1, e2]; exact .str x u
theorem pairs_vals {P : Program} {w : World} : ∀ {es : List DictEntry} {vs : List (Key × Value)}, Pairs (mixKind P w) es vs → es.map (·.val) = vs.map (·.2)
  | _, _, .nil => rfl
  | _, _, .cons _ e t => by simp [e, pairs_vals t]
theorem KV.vals {κ : Type} : ∀ {l : List (κ × V)} {m : List (κ × Value)}, KV l m → Vals (l.map (·.2)) (m.map (·.2))
  | _, _, .nil => .nil
  | _, _, .cons r t => .cons r.2 (KV.vals t)
theorem KT.vals {H : Hp} : ∀ {l : List (List Key × V)} {m : List (List Key × Addr × Value)}, KT H l m → Vals (l.map (·.2)) (m.map (·.2.2))
  | _, _, .nil => .nil
  | _, _, .cons r t => .cons r.2.2 (KT.vals t)
theorem map_fst_zip' {α β : Type} {l : List α} {m : List β} (h : l.length = m.length) : (l.zip m).map (·.1) = l := List.map_fst_zip (by omega)
theorem map_snd_zip' {α β : Type} {l : List α} {m : List β} (h : l.length = m.length) : (l.zip m).map (·.2) = m := List.map_snd_zip (by omega)
theorem reads_keys : ∀ {ks : List Key} {us : List Value} (h : Heap), Vals (ks.map kV) us → ∃ as, ReadsAll h us (ks.map keyD) as ∧ as = []
  | [], _, h, .nil => ⟨_, .nil, rfl⟩
  | .inl i :: ks, _, h, .cons r t => by
    obtain ⟨u, rfl⟩ := r
    obtain ⟨as, q, rfl⟩ := reads_keys h t
    exact ⟨_, .cons (.int i u) q, rfl⟩
  | .inr x :: ks, _, h, .cons r t => by
    obtain ⟨u, rfl⟩ := r
    obtain ⟨as, q, rfl⟩ := reads_keys h t
    exact ⟨_, .cons (.str x u) q, rfl⟩
theorem reads_keysT (ok : HOk X.prog X.w H s.heap) : ∀ {l : List (List Key × V)} {m : List (List Key × Addr × Value)}, KT H l m → ∃ as, ReadsAll s.heap (m.map fun x => Value.ref x.2.1) (l.map (fun p => tkeyD p.1)) as ∧ as = []
  | _, _, .nil => ⟨_, .nil, rfl⟩
  | _, _, .cons (a := p) (b := q) r t => by
    obtain ⟨as, h2, rfl⟩ := reads_keysT ok t
    obtain ⟨_, its, rv, o, ho, hc, n, hd⟩ := (show ObjOk X.prog X.w H s.heap q.2.1 (.tup (p.1.map kV)) from ok _ _ r.2.1)
    obtain ⟨bs, h3, rfl⟩ := reads_keys s.heap rv
    exact ⟨_, .cons (as := []) (.tuple ho hc hd (by simpa using h3)) h2, rfl⟩
mutual
theorem Rp.reads (I : Inv X pins σ H s) : ∀ {v : V} {d : D} {u : Value}, Rp N H v d → RelV v u → ∃ as, Reads s.heap u (er d) as ∧ ∀ a ∈ as, ∃ o, H a = some o
  | _, _, _, .non, r => by cases r; rw [er]; exact ⟨_, .none, by simp⟩
  | _, _, _, .bl b, r => by cases r; rw [er]; exact ⟨_, .bool b, by simp⟩
  | _, _, _, .int i, r => by obtain ⟨t, rfl⟩ := r; rw [er]; exact ⟨_, .int i t, by simp⟩
  | _, _, _, .str x, r => by obtain ⟨t, rfl⟩ := r; rw [er]; exact ⟨_, .str x t, by simp⟩
  | _, _, _, .lst n h ra, r => by
    cases r
    obtain ⟨_, its, k, rv, e⟩ := I.hok _ _ h
    obtain ⟨as, q, hd⟩ := RpAll.reads I ra rv
    rw [er]
    exact ⟨_, .list e rfl rfl q, fun b hb => (List.mem_cons.mp hb).elim (fun z => ⟨_, z ▸ h⟩) (hd b)⟩
  | _, _, _, .tup h ra, r => by
    cases r
    obtain ⟨_, its, rv, o, ho, hc, k, hd⟩ := I.hok _ _ h
    obtain ⟨as, q, hd'⟩ := RpAll.reads I ra rv
    rw [er]
    exact ⟨_, .tuple ho hc hd (by simpa using q), hd'⟩
  | _, _, _, .hrd h _ ra, r => by
    cases r
    obtain ⟨_, _, its, rv, o, ho, hc, k, hd⟩ := I.hok _ _ h
    obtain ⟨as, q, hd'⟩ := RpAll.reads I ra rv
    rw [er_mkH]
    exact ⟨_, .tuple ho hc hd (by simpa using q), hd'⟩
  | _, _, _, .dK (kvs := kvs) (ds := ds) n h ra, r => by
    cases r
    obtain ⟨_, _, vs, rel, o, es, ep, ho, hx, hd, _, hp, _⟩ := dk_of I.hok h
    obtain ⟨as, q, rfl⟩ := reads_keysK (h := s.heap) hp
    have hl := ra.length
    obtain ⟨bs, q2, hd2⟩ := RpAll.reads I ra (KV.vals rel)
    have ek : vs.map (fun p => keyD p.1) = kvs.map (fun p => keyD p.1) := by
      have := congrArg (List.map keyD) (KV.keys rel)
      rw [List.map_map, List.map_map] at this
      exact this.symm
    rw [ek] at q
    rw [← pairs_vals hp] at q2
    rw [show er (.dict ((kvs.map fun p => keyD p.1).zip ds)) = .dict ((kvs.map fun p => keyD p.1).zip (erL ds)) by
      have := er_keys keyD keyD_nl (kvs.map (·.1)) ds
      rw [List.map_map] at this
      exact this]
    have hl2 := erL_len ds
    refine ⟨_, .dict (kvs := (kvs.map (fun p => keyD p.1)).zip (erL ds)) ho hx.1 hd (as := []) (bs := bs) ?_ ?_, fun b hb => ?_⟩
    · rw [map_fst_zip' (by rw [hl2]; simpa using hl)]; exact q
    · rw [map_snd_zip' (by rw [hl2]; simpa using hl)]; exact q2
    · rcases List.mem_cons.mp (by simpa using hb) with z | z
      · exact ⟨_, z ▸ h⟩
      · exact hd2 b z
  | _, _, _, .dT (kvs := kvs) (ds := ds) n _ h ra, r => by
    cases r
    obtain ⟨_, _, xs, rel, o, es, ep, ho, hx, hd, he, _, _⟩ := dt_of I.hok h
    obtain ⟨as, q, rfl⟩ := reads_keysT I.hok rel
    have hl := ra.length
    obtain ⟨bs, q2, hd2⟩ := RpAll.reads I ra (KT.vals rel)
    rw [show er (.dict ((kvs.map fun p => tkeyD p.1).zip ds)) = .dict ((kvs.map fun p => tkeyD p.1).zip (erL ds)) by
      have := er_keys tkeyD tkeyD_nl (kvs.map (·.1)) ds
      rw [List.map_map] at this
      exact this]
    have hl2 := erL_len ds
    refine ⟨_, .dict (kvs := (kvs.map (fun p => tkeyD p.1)).zip (erL ds)) ho hx.1 hd (as := []) (bs := bs) ?_ ?_, fun b hb => ?_⟩
    · rw [map_fst_zip' (by rw [hl2]; simpa using hl), he, List.map_map]; exact q
    · rw [map_snd_zip' (by rw [hl2]; simpa using hl), he, List.map_map]; exact q2
    · rcases List.mem_cons.mp (by simpa using hb) with z | z
      · exact ⟨_, z ▸ h⟩
      · exact hd2 b z
theorem RpAll.reads (I : Inv X pins σ H s) : ∀ {vs : List V} {ds : List D} {us : List Value}, RpAll N H vs ds → Vals vs us → ∃ as, ReadsAll s.heap us (erL ds) as ∧ ∀ a ∈ as, ∃ o, H a = some o
  | _, _, _, .nil, r => by cases r; rw [erL]; exact ⟨_, .nil, by simp⟩
  | _, _, _, .cons r1 rs, r => by
    cases r with
    | cons q qs =>
      obtain ⟨as, h1, k1⟩ := Rp.reads I r1 q
      obtain ⟨bs, h2, k2⟩ := RpAll.reads I rs qs
      rw [erL]
      exact ⟨_, .cons h1 h2, fun b hb => (List.mem_append.mp hb).elim (k1 b) (k2 b)⟩
end
theorem rpB_to {v : V} {d : D} (h : RpB N H v d) : ∃ N', Rp N' H v d := by
  cases h with
  | of r => exact ⟨_, r⟩
  | lst q r => exact ⟨fun _ => False, .lst (fun z => z) q (r.less (fun _ z => z.elim))⟩
  | dK q r => exact ⟨fun _ => False, .dK (fun z => z) q (r.less (fun _ z => z.elim))⟩
  | dT z q r => exact ⟨fun _ => False, .dT (fun z => z) z q (r.less (fun _ z => z.elim))⟩
theorem RpB.reads (I : Inv X pins σ H s) {v : V} {d : D} {u : Value} (h : RpB N H v d) (r : RelV v u) : ∃ as, Reads s.heap u (er d) as ∧ ∀ a ∈ as, ∃ o, H a = some o :=
  let ⟨_, q⟩ := rpB_to h; q.reads I r
end

/-! ### what comes out -/
def isL : D → Bool
  | .list _ => true
  | .dict kvs => nmK kvs
  | _ => false
/-- what is wanted of d, a list or dict new if fr -/
def Fresh (N : Zn) (H H' : Hp) (v : V) (d : D) : Prop := ∃ p, v = .ref p ∧ H p = none ∧ RpB (fun a => N a ∨ a = p) H' (.ref p) d
theorem freshL {N : Zn} {H : Hp} {ds : List D} {vs : List V} (f : Fit N H) (r : RpAll N H vs ds) {p : Addr} (hp : H p = none) : Fresh N H (upd H p (.lst vs)) (.ref p) (.list ds) :=
  ⟨p, rfl, hp, .lst upd_same (r.move (Ext.new hp) f fun a z => z.elim .inl fun z => .inr (z ▸ hp))⟩
def Out (fr : Bool) (N : Zn) (H : Hp) (d : D) (Q : VK) : Prop := ∀ v H', Ext No H H' → Rp N H' v d → (fr = true → isL d = true → Fresh N H H' v d) → Q v H'
theorem Out.old {N : Zn} {H : Hp} {d : D} {Q : VK} {v : V} (o : Out false N H d Q) (r : Rp N H v d) : Q v H := o v H Ext.refl r (fun z => nomatch z)
theorem Out.imm {fr : Bool} {N : Zn} {H : Hp} {d : D} {Q : VK} {v : V} (o : Out fr N H d Q) (r : Rp N H v d) (h : isL d = false) : Q v H := o v H Ext.refl r (fun _ z => by rw [h] at z; cases z)
theorem Out.newL {fr : Bool} {N : Zn} {H : Hp} {ds : List D} {Q : VK} {vs : List V} (o : Out fr N H (.list ds) Q) (f : Fit N H) (r : RpAll N H vs ds) : ∀ p, H p = none → Q (.ref p) (upd H p (.lst vs)) := fun p hp =>
  o _ _ (Ext.new hp) (.lst (f.ne hp) upd_same (r.ext (Ext.new hp) f)) (fun _ _ => freshL f r hp)
theorem Out.newT {fr : Bool} {N : Zn} {H : Hp} {ds : List D} {Q : VK} {vs : List V} (o : Out fr N H (.tuple ds) Q) (f : Fit N H) (r : RpAll N H vs ds) : ∀ p, H p = none → Q (.ref p) (upd H p (.tup vs)) := fun p hp =>
  o _ _ (Ext.new hp) (.tup upd_same (r.ext (Ext.new hp) f)) (fun _ z => nomatch z)

/-- a two-place operation by data -/
def Op2 (X : Cx) (fr : Bool) (f : Value → Value → Sem Value) (sem : D → D → Option D) : Prop :=
  OpR X f (fun x y H Q => ∃ N d e r, Fit N H ∧ RpB N H x d ∧ RpB N H y e ∧ sem d e = some r ∧ Out fr N H r Q)

inductive BOp where | add | sub | mul | fdiv | mod | pow | shl | shr | band | bor | bxor
  deriving DecidableEq, Repr
def bopF : BOp → Operator
  | .add => .Add | .sub => .Sub | .mul => .Mult | .fdiv => .FloorDiv | .mod => .Mod | .pow => .Pow | .shl => .LShift | .shr => .RShift | .band => .BitAnd | .bor => .BitOr | .bxor => .BitXor

def addD : D → D → Option D
  | .int a, .int b => some (.int (a + b))
  | .str a, .str b => if a.length + b.length ≤ sizeLine then some (.str (a ++ b)) else none
  | .list a, .list b => if a.length + b.length ≤ sizeLine then some (.list (a ++ b)) else none
  | .tuple a, .tuple b => if a.length + b.length ≤ sizeLine then some (.tuple (a ++ b)) else none
  | _, _ => none
instance (i j : Int) : Decidable (CMul i j) := by unfold CMul; exact inferInstance
instance (i j : Int) : Decidable (CPow i j) := by unfold CPow; exact inferInstance
instance (i j : Int) : Decidable (CDivN i j) := by unfold CDivN; exact inferInstance
def subD : D → D → Option D
  | .int a, .int b => some (.int (a - b))
  | _, _ => none
def mulD : D → D → Option D
  | .int a, .int b => if CMul a b then some (.int (a * b)) else none
  | .list a, .int k => if -(2 ^ 63) ≤ k ∧ k < 2 ^ 63 ∧ a.length * k.toNat ≤ sizeLine then some (.list (List.replicate k.toNat a).flatten) else none
  | _, _ => none
/-- two ints, a condition -/
def intD (C : Int → Int → Prop) [∀ a b, Decidable (C a b)] (g : Int → Int → Int) : D → D → Option D
  | .int a, .int b => if C a b then some (.int (g a b)) else none
  | _, _ => none
def binD : BOp → D → D → Option D
  | .add => addD
  | .sub => subD
  | .mul => mulD
  | .fdiv => intD CDivN fun a b => a.fdiv b
  | .mod => intD (fun _ b => b ≠ 0) fun a b => a.fmod b
  | .pow => intD CPow fun a b => a ^ b.toNat
  | .shl => intD CPow fun a b => a * 2 ^ b.toNat
  | .shr => intD (fun _ b => 0 ≤ b) fun a b => a / 2 ^ b.toNat
  | .band => intD (fun _ _ => True) Builtin.bitAnd
  | .bor => intD (fun _ _ => True) Builtin.bitOr
  | .bxor => intD (fun _ _ => True) Builtin.bitXor

section
variable {X : Cx}
theorem op2_int {f : Value → Value → Sem Value} {C : Int → Int → Prop} {g : Int → Int → Int} {fr : Bool} (h : OpR X f (rI C fun i j => .int (g i j))) {pins : List (Addr × Obj)} {s : Shared} {σ : St} {H : Hp} {x y : V} {v u : Value} {Q : VK} {N : Zn}
    (I : Inv X pins σ H s) (rx : RelV x v) (ry : RelV y u) {a b : Int} (hx : RpB N H x (.int a)) (hy : RpB N H y (.int b)) (c : C a b) (o : Out fr N H (.int (g a b)) Q) : wpAny (model X.prog X.w) X.A (f v u) (EP X pins σ Q) X.xe s :=
  h pins s σ H x y v u Q I rx ry ⟨a, b, hx.int_of, hy.int_of, c, o.imm (.int _) rfl⟩
theorem op2_int0 {f : Value → Value → Sem Value} {g : Int → Int → Int} {fr : Bool} (h : OpR X f (rI0 fun i j => .int (g i j))) {pins : List (Addr × Obj)} {s : Shared} {σ : St} {H : Hp} {x y : V} {v u : Value} {Q : VK} {N : Zn}
    (I : Inv X pins σ H s) (rx : RelV x v) (ry : RelV y u) {a b : Int} (hx : RpB N H x (.int a)) (hy : RpB N H y (.int b)) (o : Out fr N H (.int (g a b)) Q) : wpAny (model X.prog X.w) X.A (f v u) (EP X pins σ Q) X.xe s :=
  h pins s σ H x y v u Q I rx ry ⟨a, b, hx.int_of, hy.int_of, o.imm (.int _) rfl⟩
theorem op2_intD {f : Value → Value → Sem Value} {C : Int → Int → Prop} [∀ a b, Decidable (C a b)] {g : Int → Int → Int} {fr : Bool} (h : OpR X f (rI C fun i j => .int (g i j))) : Op2 X fr f (intD C g) := by
  intro pins s σ H x y v u Q I rx ry h'
  obtain ⟨N, d, e, r, ft, hx, hy, hs, o⟩ := h'
  unfold intD at hs
  split at hs
  · split at hs
    · cases hs; exact op2_int h I rx ry hx hy (by assumption) o
    · cases hs
  · cases hs
theorem rI_of0 {f : Value → Value → Sem Value} {g : Int → Int → Int} (h : OpR X f (rI0 fun i j => .int (g i j))) : OpR X f (rI (fun _ _ => True) fun i j => .int (g i j)) :=
  fun pins s σ H x y v u Q I rx ry ⟨i, j, e1, e2, _, q⟩ => h pins s σ H x y v u Q I rx ry ⟨i, j, e1, e2, q⟩
theorem op2_add : Op2 X true (binaryOp .Add) addD := by
  intro pins s σ H x y v u Q I rx ry h
  obtain ⟨N, d, e, r, f, hx, hy, hs, o⟩ := h
  unfold addD at hs
  split at hs
  · cases hs; exact op2_int0 op_add I rx ry hx hy o
  · split at hs
    · cases hs
      refine op_add_str pins s σ H x y v u Q I rx ry ⟨_, _, hx.str_of, hy.str_of, by assumption, o.imm (.str _) rfl⟩
    · cases hs
  · split at hs
    · rename_i hl
      cases hs
      obtain ⟨a, xs, rfl, ha, rxs⟩ := hx.list_of
      obtain ⟨b, ys, rfl, hb, rys⟩ := hy.list_of
      exact op_cat pins s σ H _ _ v u Q I rx ry ⟨a, b, xs, ys, rfl, rfl, ha, hb, by rw [rxs.length, rys.length]; exact hl, o.newL f (rxs.append rys)⟩
    · cases hs
  · split at hs
    · rename_i hl
      cases hs
      obtain ⟨a, xs, rfl, ha, rxs⟩ := hx.tup_of
      obtain ⟨b, ys, rfl, hb, rys⟩ := hy.tup_of
      refine op_catA pins s σ H _ _ v u Q I rx ry ⟨a, b, xs, ys, rfl, rfl, SqT.of ha, SqT.of hb, by rw [rxs.length, rys.length]; exact hl, fun e => ?_, fun e1 e2 => ?_, fun e1 e2 => o.newT f (rxs.append rys)⟩
      · subst e; cases rxs; exact o.imm (.tup hb rys) rfl
      · subst e2; cases rys; rw [List.append_nil] at o; exact o.imm (.tup ha rxs) rfl
    · cases hs
  · cases hs
theorem op2_mul : Op2 X true (binaryOp .Mult) mulD := by
  intro pins s σ H x y v u Q I rx ry h
  obtain ⟨N, d, e, r, f, hx, hy, hs, o⟩ := h
  unfold mulD at hs
  split at hs
  · split at hs
    · cases hs; exact op2_int op_mul I rx ry hx hy (by assumption) o
    · cases hs
  · split at hs
    · rename_i h3
      cases hs
      obtain ⟨a, xs, rfl, ha, rxs⟩ := hx.list_of
      refine op_rep pins s σ H _ _ v u Q I rx ry ⟨a, _, xs, rfl, hy.int_of, ha, h3.1, h3.2.1, by rw [rxs.length]; exact h3.2.2, o.newL f (rxs.flatRep _)⟩
    · cases hs
  · cases hs
theorem op2_sub : Op2 X true (binaryOp .Sub) subD := by
  intro pins s σ H x y v u Q I rx ry h
  obtain ⟨N, d, e, r, f, hx, hy, hs, o⟩ := h
  unfold subD at hs
  split at hs
  · cases hs; exact op2_int0 op_sub I rx ry hx hy o
  · cases hs
theorem op2_bin (op : BOp) : Op2 X true (binaryOp (bopF op)) (binD op) := by
  cases op with
  | add => exact op2_add
  | sub => exact op2_sub
  | mul => exact op2_mul
  | fdiv => exact op2_intD op_fdivN
  | mod => exact op2_intD op_modN
  | pow => exact op2_intD op_pow
  | shl => exact op2_intD op_shl
  | shr => exact op2_intD op_shr
  | band => exact op2_intD (rI_of0 op_and)
  | bor => exact op2_intD (rI_of0 op_or)
  | bxor => exact op2_intD (rI_of0 op_xor)
end

/-! ### comparisons -/
inductive COp where | eq | ne | lt | le | gt | ge | is | isn | inn | nin
  deriving DecidableEq, Repr
def copF : COp → CmpOp
  | .eq => .Eq | .ne => .NotEq | .lt => .Lt | .le => .LtE | .gt => .Gt | .ge => .GtE | .is => .Is | .isn => .IsNot | .inn => .In | .nin => .NotIn
/-- a list beside the empty list, a tuple beside the empty tuple: whatever lies within -/
def emptyL : D → D → Bool
  | .list _, .list [] => true
  | .tuple _, .tuple [] => true
  | _, _ => false
def eqOk (d e : D) : Bool := (d.canLay0 && e.canLay0 && decide (min d.depth e.depth ≤ 60)) || emptyL d e
def isN : D → Bool
  | .none => true
  | _ => false
def ltOk (d e : D) : Bool := PySem.W.alike d e && !isN d && decide (min d.depth e.depth ≤ 60) && PySem.W.alike d d && PySem.W.alike e e

def isKey1 : D → Bool
  | .int _ | .str _ => true
  | _ => false
def isKey : D → Bool
  | .tuple ks => ks.all isKey1
  | d => isKey1 d
/-- a dict's value at a key -/
def dget (kvs : List (D × D)) (k : D) : Option D := (kvs.find? fun p => PyData.eqv p.1 k).map (·.2)
/-- keys of one kind -/
def kindOk (kvs : List (D × D)) (k : D) : Bool := kvs.all fun p => match p.1, k with
  | .list _, _ => false
  | .tuple _, .tuple _ => true
  | .tuple _, _ => false
  | _, .tuple _ => false
  | _, _ => true
theorem nmK_of_kind {kvs : List (D × D)} {k : D} (h : kindOk kvs k = true) : nmK kvs = true := by
  unfold nmK
  split
  · simp [kindOk] at h
  · rfl
theorem eqv_nilL (xs : List D) : PyData.eqv (.list (erL xs)) (.list []) = PyData.eqv (.list xs) (.list []) := by
  cases xs <;> simp [erL, PyData.eqv, PyData.eqvAll]
theorem eqv_nilT (xs : List D) : PyData.eqv (.tuple (erL xs)) (.tuple []) = PyData.eqv (.tuple xs) (.tuple []) := by
  cases xs <;> simp [erL, PyData.eqv, PyData.eqvAll]
/-- is d among the items of a marked tuple? -/
def inT (neg : Bool) (d : D) (ds : List D) : Option D := if d.canLay0 && PyData.canLayAll0 ds && decide (min (PyData.depthAll ds) d.depth ≤ 60) then some (.bool (if neg then !ds.any (fun y => PyData.eqv y d) else ds.any fun y => PyData.eqv y d)) else none
def inD (neg : Bool) (d : D) : D → Option D
  | .list ds => if d.canLay0 && PyData.canLayAll0 ds && decide (min (PyData.depthAll ds) d.depth ≤ 60) then some (.bool (if neg then !ds.any (fun y => PyData.eqv y d) else ds.any fun y => PyData.eqv y d)) else inT neg (er d) (erL ds)
  | .tuple ds => if d.canLay0 && PyData.canLayAll0 ds && decide (min (PyData.depthAll ds) d.depth ≤ 60) then some (.bool (if neg then !ds.any (fun y => PyData.eqv y d) else ds.any fun y => PyData.eqv y d)) else inT neg (er d) (erL ds)
  | .dict kvs => if isKey d && kindOk kvs d then some (.bool (if neg then !(dget kvs d).isSome else (dget kvs d).isSome)) else (unH kvs).bind (inT neg d)
  | _ => none
def boolsOf : D → D → Option (Bool × Bool)
  | .bool a, .bool b => some (a, b)
  | _, _ => none
/-- d is e: None, or two bools -/
def isD (neg : Bool) (d e : D) : Option D := if isN e then some (.bool (if neg then !isN d else isN d)) else (boolsOf d e).map fun p => .bool (if neg then !decide (p.1 = p.2) else decide (p.1 = p.2))
/-- data with marks: their marks taken off -/
def eqE (neg : Bool) (d e : D) : Option D := if eqOk (er d) (er e) then some (.bool (if neg then !PyData.eqv (er d) (er e) else PyData.eqv (er d) (er e))) else none
def copD : COp → D → D → Option D
  | .eq => fun d e => if eqOk d e then some (.bool (PyData.eqv d e)) else eqE false d e
  | .ne => fun d e => if eqOk d e then some (.bool (!PyData.eqv d e)) else eqE true d e
  | .lt => fun d e => if ltOk d e then some (.bool (PySem.W.dataLt d e)) else none
  | .gt => fun d e => if ltOk d e then some (.bool (PySem.W.dataLt e d)) else none
  | .le => fun d e => if ltOk d e then some (.bool (!PySem.W.dataLt e d)) else none
  | .ge => fun d e => if ltOk d e then some (.bool (!PySem.W.dataLt d e)) else none
  | .is => isD false
  | .isn => isD true
  | .inn => inD false
  | .nin => inD true
section
variable {X : Cx}
theorem eqOk_of {d e : D} (h : eqOk d e = true) : (d.canLay0 = true ∧ e.canLay0 = true ∧ min d.depth e.depth ≤ 60) ∨ emptyL d e = true := by
  unfold eqOk at h
  simp only [Bool.or_eq_true, Bool.and_eq_true, decide_eq_true_eq] at h
  exact h.elim (fun h => .inl ⟨h.1.1, h.1.2, h.2⟩) .inr
theorem emptyL_of {d e : D} (h : emptyL d e = true) : (∃ xs, d = .list xs ∧ e = .list []) ∨ (∃ xs, d = .tuple xs ∧ e = .tuple []) := by
  unfold emptyL at h
  split at h
  · exact .inl ⟨_, rfl, rfl⟩
  · exact .inr ⟨_, rfl, rfl⟩
  · cases h
theorem eq_er {d e : D} (h : eqOk d e = true) : eqOk (er d) (er e) = true ∧ PyData.eqv (er d) (er e) = PyData.eqv d e := by
  rcases eqOk_of h with ⟨c1, c2, c3⟩ | hE
  · rw [er_lay _ c1, er_lay _ c2]; exact ⟨h, rfl⟩
  · rcases emptyL_of hE with ⟨xs, rfl, rfl⟩ | ⟨xs, rfl, rfl⟩
    · rw [show er (.list []) = .list [] by rw [er, erL], er]
      exact ⟨by simp [eqOk, emptyL], eqv_nilL xs⟩
    · rw [show er (.tuple []) = .tuple [] by rw [er, erL], er]
      exact ⟨by simp [eqOk, emptyL], eqv_nilT xs⟩
theorem ltOk_of {d e : D} (h : ltOk d e = true) : PySem.W.alike d e = true ∧ d ≠ .none ∧ min d.depth e.depth ≤ 60 ∧ er d = d ∧ er e = e := by
  unfold ltOk at h
  simp only [Bool.and_eq_true, decide_eq_true_eq, Bool.not_eq_true'] at h
  exact ⟨h.1.1.1.1, fun z => by rw [z] at h; simp [isN] at h, h.1.1.2, er_alike _ h.1.2, er_alike _ h.2⟩
theorem isN_iff {N : Zn} {H : Hp} {v : V} {d : D} (h : RpB N H v d) : decide (v = .non) = isN d := by
  cases h with
  | of r => cases r <;> simp [isN, mkH]
  | lst _ _ => simp [isN]
  | dK _ _ => simp [isN]
  | dT _ _ _ => simp [isN]

/-! keys -/
theorem keyD_eqv (a b : Key) : PyData.eqv (keyD a) (keyD b) = decide (a = b) := by
  cases a with
  | inl i => cases b with
    | inl j => simp [keyD, PyData.eqv, Bool.beq_eq_decide_eq]
    | inr y => simp [keyD, PyData.eqv]
  | inr x => cases b with
    | inl j => simp [keyD, PyData.eqv]
    | inr y => simp [keyD, PyData.eqv, Bool.beq_eq_decide_eq]
theorem keyDs_eqv : ∀ a b : List Key, PyData.eqvAll (a.map keyD) (b.map keyD) = decide (a = b)
  | [], [] => by simp [PyData.eqvAll]
  | [], _ :: _ => by simp [PyData.eqvAll]
  | _ :: _, [] => by simp [PyData.eqvAll]
  | x :: xs, y :: ys => by
    simp only [List.map_cons, PyData.eqvAll, keyD_eqv, keyDs_eqv xs ys, List.cons.injEq]
    by_cases h : x = y <;> simp [h]
theorem tkeyD_eqv (a b : List Key) : PyData.eqv (tkeyD a) (tkeyD b) = decide (a = b) := by
  unfold tkeyD; simp only [PyData.eqv]; exact keyDs_eqv a b
theorem tk_eqv (a : List Key) (b : Key) : PyData.eqv (tkeyD a) (keyD b) = false := by cases b <;> simp [tkeyD, keyD, PyData.eqv]
theorem kt_eqv (a : Key) (b : List Key) : PyData.eqv (keyD a) (tkeyD b) = false := by cases a <;> simp [tkeyD, keyD, PyData.eqv]
theorem key1_of : ∀ {d : D}, isKey1 d = true → ∃ k, d = keyD k
  | .int i, _ => ⟨.inl i, rfl⟩
  | .str x, _ => ⟨.inr x, rfl⟩
theorem key1s_of : ∀ {ds : List D}, ds.all isKey1 = true → ∃ ks : List Key, ds = ks.map keyD
  | [], _ => ⟨[], rfl⟩
  | d :: ds, h => by
    rw [List.all_cons, Bool.and_eq_true] at h
    obtain ⟨k, rfl⟩ := key1_of h.1
    obtain ⟨ks, rfl⟩ := key1s_of h.2
    exact ⟨k :: ks, rfl⟩
theorem key_cases : ∀ {d : D}, isKey d = true → (∃ k, d = keyD k) ∨ ∃ ks, d = tkeyD ks
  | .int i, _ => .inl ⟨.inl i, rfl⟩
  | .str x, _ => .inl ⟨.inr x, rfl⟩
  | .tuple ds, h => let ⟨ks, e⟩ := key1s_of (show ds.all isKey1 = true from h); .inr ⟨ks, by rw [e]; rfl⟩
theorem Rp.key {N : Zn} {H : Hp} {v : V} {k : Key} (h : RpB N H v (keyD k)) : v = kV k := by
  cases k with
  | inl i => exact h.int_of
  | inr x => exact h.str_of
theorem Rp.keys {N : Zn} {H : Hp} : ∀ {vs : List V} {ks : List Key}, RpAll N H vs (ks.map keyD) → vs = ks.map kV
  | _, [], .nil => rfl
  | _, k :: ks, .cons r t => by rw [Rp.keys t, Rp.key (.of r)]; rfl
theorem Rp.tkey {N : Zn} {H : Hp} {v : V} {ks : List Key} (h : RpB N H v (tkeyD ks)) : ∃ b, v = .ref b ∧ H b = some (.tup (ks.map kV)) := by
  obtain ⟨a, xs, rfl, ha, r⟩ := (show RpB N H v (.tuple (ks.map keyD)) from h).tup_of
  exact ⟨a, rfl, by rw [← Rp.keys r]; exact ha⟩
/-- what stands at a key, by data -/
theorem find_rp {κ : Type} [DecidableEq κ] {N : Zn} {H : Hp} (enc : κ → D) (hq : ∀ a b, PyData.eqv (enc a) (enc b) = decide (a = b)) (k : κ) : ∀ {kvs : List (κ × V)} {ds : List D}, RpAll N H (kvs.map (·.2)) ds →
    (∃ v d, valV kvs k = some v ∧ dget ((kvs.map fun p => enc p.1).zip ds) (enc k) = some d ∧ Rp N H v d) ∨ (valV kvs k = none ∧ dget ((kvs.map fun p => enc p.1).zip ds) (enc k) = none)
  | [], _, .nil => .inr ⟨rfl, rfl⟩
  | (a, v) :: r, _, .cons (d := d) h t => by
    have hc : PyData.eqv (enc a) (enc k) = decide (a = k) := hq a k
    by_cases e : a = k
    · refine .inl ⟨v, d, valV_pos (p := (a, v)) e, ?_, h⟩
      rw [decide_eq_true e] at hc
      simp [dget, List.find?_cons, hc]
    · have ih := find_rp enc hq k t
      have h1 : valV ((a, v) :: r) k = valV r k := valV_neg (p := (a, v)) e
      have h2 : ∀ ds, dget ((((a, v) :: r).map fun p => enc p.1).zip (d :: ds)) (enc k) = dget ((r.map fun p => enc p.1).zip ds) (enc k) := fun ds => by
        simp [dget, List.find?_cons, hc, e]
      rw [h1]
      simp only [h2]
      exact ih
theorem find_off {κ : Type} {enc : κ → D} {k : D} (hq : ∀ a, PyData.eqv (enc a) k = false) : ∀ (kvs : List (κ × V)) (ds : List D), dget ((kvs.map fun p => enc p.1).zip ds) k = none
  | [], _ => rfl
  | _ :: _, [] => rfl
  | (a, v) :: r, d :: ds => by
    have := find_off hq r ds
    simpa [dget, List.find?_cons, hq a] using this
/-- an empty dict is one of either kind -/
theorem Inv.toT {pins : List (Addr × Obj)} {σ : St} {H : Hp} {s : Shared} {a : Addr} (I : Inv X pins σ H s) (h : H a = some (.dK [])) : Inv X pins σ (upd H a (.dT [])) s := by
  obtain ⟨z, y, vs, rel, o, es, ep, ho, hx, hd, hk, hp, hn⟩ := dk_of I.hok h
  cases rel
  have he : es.toList = [] := by generalize es.toList = l at hp; cases hp; rfl
  exact I.write (x := a) (e := a) (h' := s.heap) (t' := s.toks) (by rw [h]; trivial) (.inl rfl) (fun _ _ _ q => q) ⟨o, ho⟩ ⟨z, y, [], .nil, o, es, ep, ho, hx, hd, by rw [he]; rfl, by simp⟩
theorem Inv.toK {pins : List (Addr × Obj)} {σ : St} {H : Hp} {s : Shared} {a : Addr} (I : Inv X pins σ H s) (h : H a = some (.dT [])) : Inv X pins σ (upd H a (.dK [])) s := by
  obtain ⟨z, y, xs, rel, o, es, ep, ho, hx, hd, he, _, hn⟩ := dt_of I.hok h
  cases rel
  refine I.write (x := a) (e := a) (h' := s.heap) (t' := s.toks) (by rw [h]; trivial) (.inl rfl) (fun _ _ _ q => q) ⟨o, ho⟩ ⟨z, y, [], .nil, o, es, ep, ho, hx, hd, fun e q => ?_, ?_, by simp⟩
  · have : e ∈ es.toList := by simpa using q
    rw [he] at this; simp at this
  · rw [he]; exact .nil
theorem upd_back {H : Hp} {a : Addr} {o u : HO} (h : H a = some o) : upd (upd H a u) a o = H := by
  rw [upd_upd]; funext b; unfold upd; split
  · rename_i e; rw [e, h]
  · rfl
end
end
/-! PDc: comparisons, subscripts, slices, truth. -/
section
open PySem L2
section
variable {X : Cx}
theorem kindOk_K {kvs : List (Key × V)} {ds : List D} (hl : kvs.length = ds.length) {ks : List Key} (h : kindOk ((kvs.map (fun p => keyD p.1)).zip ds) (tkeyD ks) = true) : kvs = [] := by
  cases kvs with
  | nil => rfl
  | cons p r => cases ds with
    | nil => simp at hl
    | cons d ds =>
      simp only [kindOk, List.map_cons, List.zip_cons_cons, List.all_cons, Bool.and_eq_true] at h
      rcases p with ⟨i | x, v⟩ <;> simp [keyD, tkeyD] at h
theorem kindOk_T {kvs : List (List Key × V)} {ds : List D} (hl : kvs.length = ds.length) {k : Key} (h : kindOk ((kvs.map (fun p => tkeyD p.1)).zip ds) (keyD k) = true) : kvs = [] := by
  cases kvs with
  | nil => rfl
  | cons p r => cases ds with
    | nil => simp at hl
    | cons d ds =>
      simp only [kindOk, List.map_cons, List.zip_cons_cons, List.all_cons, Bool.and_eq_true] at h
      rcases k with i | x <;> simp [keyD, tkeyD] at h
/-- the dict at a, asked at a key: what is read, under a heap that is the same but for an empty dict's kind -/
theorem dict_at {pins : List (Addr × Obj)} {σ : St} {H : Hp} {s : Shared} {N : Zn} {x y : V} {d : D} {kvs : List (D × D)} (I : Inv X pins σ H s) (hd : RpB N H x (.dict kvs)) (hk : RpB N H y d) (k1 : isKey d = true) (k2 : kindOk kvs d = true) :
    ∃ a H2 o, x = .ref a ∧ Inv X pins σ H2 s ∧ DGet H2 a y o ∧ (∀ s', Inv X pins σ H2 s' → Inv X pins σ H s') ∧
      ((∃ v e, o = some v ∧ dget kvs d = some e ∧ Rp N H v e) ∨ (o = none ∧ dget kvs d = none)) := by
  obtain ⟨a, rfl, ⟨ks, es, ha, r, rfl⟩ | ⟨ks, es, hne, ha, r, rfl⟩⟩ := hd.dict_of (nmK_of_kind k2)
  · have hl : ks.length = es.length := by simpa using r.length
    rcases key_cases k1 with ⟨k, rfl⟩ | ⟨k, rfl⟩
    · refine ⟨a, H, valV ks k, rfl, I, by rw [Rp.key hk]; exact DGet.k ha, fun _ q => q, ?_⟩
      rcases find_rp keyD keyD_eqv k r with ⟨v, e, h1, h2, h3⟩ | ⟨h1, h2⟩
      · exact .inl ⟨v, e, h1, h2, h3⟩
      · exact .inr ⟨h1, h2⟩
    · obtain rfl := kindOk_K hl k2
      obtain ⟨b, rfl, hb⟩ := Rp.tkey hk
      have hne : b ≠ a := ne_of hb ha (by intro z; cases z)
      refine ⟨a, upd H a (.dT []), none, rfl, Inv.toT I ha, DGet.t (kvs := []) (k := k) upd_same (by rw [upd_ne hne]; exact hb), fun s' q => ?_, .inr ⟨rfl, by simp [dget]⟩⟩
      have := Inv.toK q upd_same
      rwa [upd_back ha] at this
  · have hl : ks.length = es.length := by simpa using r.length
    rcases key_cases k1 with ⟨k, rfl⟩ | ⟨k, rfl⟩
    · exact absurd (kindOk_T hl k2) hne
    · obtain ⟨b, rfl, hb⟩ := Rp.tkey hk
      refine ⟨a, H, valV ks k, rfl, I, DGet.t ha hb, fun _ q => q, ?_⟩
      rcases find_rp tkeyD tkeyD_eqv k r with ⟨v, e, h1, h2, h3⟩ | ⟨h1, h2⟩
      · exact .inl ⟨v, e, h1, h2, h3⟩
      · exact .inr ⟨h1, h2⟩

theorem eqvAll_nil (xs : List D) : PyData.eqvAll xs [] = xs.isEmpty := by
  cases xs <;> simp [PyData.eqvAll]
open SeqAt MeetsSeq in
theorem rcAt_nil {xs : List D} {A : Around} {s : Shared} {a b : Value} {as bs : List Addr} (ra : Reads s.heap a (.list xs) as) (rb : Reads s.heap b (.list []) bs) (hu : A.units < cLine) : RcAt A s a b (PyData.eqv (.list xs) (.list [])) := by
  cases ra with
  | @list l o vs n _ as₁ h1 h2 h3 h4 =>
    cases rb with
    | @list l' o' vs' n' ys bs₁ k1 k2 k3 k4 =>
      have hl : s.heap.IsList l vs := ⟨_, h1, h2, _, h3⟩
      have hl' : s.heap.IsList l' vs' := ⟨_, k1, k2, _, k3⟩
      have n1 : vs.size = xs.length := by simpa using ReadsAll.length _ _ _ h4
      have n2 : vs'.size = 0 := by simpa using ReadsAll.length _ _ _ k4
      have e0 : PyData.eqv (.list xs) (.list []) = xs.isEmpty := by simp only [PyData.eqv]; exact eqvAll_nil xs
      rw [e0]
      by_cases hsz : vs.size = vs'.size
      · have := RcAt.lists (A := A) (s := s) (e := fun _ => true) hl hl' hsz hu (fun j j1 j2 => by omega)
        have ex : xs = [] := List.eq_nil_of_length_eq_zero (by omega)
        rw [hsz, n2] at this
        rw [ex]
        exact this
      · have ex : xs.isEmpty = false := by
          cases xs with
          | nil => exact absurd (by rw [n1, n2]; rfl) hsz
          | cons _ _ => rfl
        rw [ex]
        exact RcAt.lists_lengths hl hl' (by simpa using hsz) hu
open SeqAt MeetsSeq in
theorem rcNe_nil {xs : List D} {A : Around} {s : Shared} {a b : Value} {as bs : List Addr} (ra : Reads s.heap a (.list xs) as) (rb : Reads s.heap b (.list []) bs) (hu : A.units < cLine) : RcNeAt A s a b (!PyData.eqv (.list xs) (.list [])) := by
  cases ra with
  | @list l o vs n _ as₁ h1 h2 h3 h4 =>
    cases rb with
    | @list l' o' vs' n' ys bs₁ k1 k2 k3 k4 =>
      have hl : s.heap.IsList l vs := ⟨_, h1, h2, _, h3⟩
      have hl' : s.heap.IsList l' vs' := ⟨_, k1, k2, _, k3⟩
      have n1 : vs.size = xs.length := by simpa using ReadsAll.length _ _ _ h4
      have n2 : vs'.size = 0 := by simpa using ReadsAll.length _ _ _ k4
      have e0 : PyData.eqv (.list xs) (.list []) = xs.isEmpty := by simp only [PyData.eqv]; exact eqvAll_nil xs
      rw [e0]
      by_cases hsz : vs.size = vs'.size
      · have := RcNeAt.lists (A := A) (s := s) (e := fun _ => true) hl hl' hsz hu (fun j j1 j2 => by omega)
        have ex : xs = [] := List.eq_nil_of_length_eq_zero (by omega)
        rw [hsz, n2] at this
        rw [ex]
        exact this
      · have ex : xs.isEmpty = false := by
          cases xs with
          | nil => exact absurd (by rw [n1, n2]; rfl) hsz
          | cons _ _ => rfl
        rw [ex]
        exact RcNeAt.lists_lengths hl hl' (by simpa using hsz) hu
open SeqAt MeetsSeq in
theorem rcAt_nilT {xs : List D} {A : Around} {s : Shared} {a b : Value} {as bs : List Addr} (ra : Reads s.heap a (.tuple xs) as) (rb : Reads s.heap b (.tuple []) bs) (hu : A.units < cLine) : RcAt A s a b (PyData.eqv (.tuple xs) (.tuple [])) := by
  cases ra with
  | @tuple l o vs n _ as₁ h1 h2 h3 h4 =>
    cases rb with
    | @tuple l' o' vs' n' ys bs₁ k1 k2 k3 k4 =>
      have hl : s.heap.IsTuple l vs := ⟨_, h1, h2, _, h3⟩
      have hl' : s.heap.IsTuple l' vs' := ⟨_, k1, k2, _, k3⟩
      have n1 : vs.size = xs.length := by simpa using ReadsAll.length _ _ _ h4
      have n2 : vs'.size = ([] : List D).length := by simpa using ReadsAll.length _ _ _ k4
      show RcAt A s (.ref l) (.ref l') (PyData.eqvAll xs [])
      rw [← eqvAll_eq xs [], ← n1, ← n2]
      exact RcAt.tuples hl hl' hu (fun j j1 j2 => by rw [n2] at j2; exact absurd j2 (Nat.not_lt_zero _))
open SeqAt MeetsSeq in
theorem rcNe_nilT {xs : List D} {A : Around} {s : Shared} {a b : Value} {as bs : List Addr} (ra : Reads s.heap a (.tuple xs) as) (rb : Reads s.heap b (.tuple []) bs) (hu : A.units < cLine) : RcNeAt A s a b (!PyData.eqv (.tuple xs) (.tuple [])) := by
  cases ra with
  | @tuple l o vs n _ as₁ h1 h2 h3 h4 =>
    cases rb with
    | @tuple l' o' vs' n' ys bs₁ k1 k2 k3 k4 =>
      have hl : s.heap.IsTuple l vs := ⟨_, h1, h2, _, h3⟩
      have hl' : s.heap.IsTuple l' vs' := ⟨_, k1, k2, _, k3⟩
      have n1 : vs.size = xs.length := by simpa using ReadsAll.length _ _ _ h4
      have n2 : vs'.size = ([] : List D).length := by simpa using ReadsAll.length _ _ _ k4
      show RcNeAt A s (.ref l) (.ref l') (!PyData.eqvAll xs [])
      rw [← eqvAll_eq xs [], ← n1, ← n2]
      exact RcNeAt.tuples hl hl' hu (fun j j1 j2 => by rw [n2] at j2; exact absurd j2 (Nat.not_lt_zero _))
theorem op2_eq (hu : X.A.units + 64 < cLine) (ne : Bool) : Op2 X false (compareOp (if ne then .NotEq else .Eq)) (fun d e => if eqOk d e then some (.bool (if ne then !PyData.eqv d e else PyData.eqv d e)) else eqE ne d e) := by
  intro pins s σ H x y v u Q I rx ry h
  obtain ⟨N, d, e, r, f, hx, hy, hs, o⟩ := h
  have hs : eqE ne d e = some r := by
    by_cases hok : eqOk d e = true
    · obtain ⟨h1, h2⟩ := eq_er hok
      unfold eqE
      rw [if_pos h1, h2]
      simpa [hok] using hs
    · simpa [hok] using hs
  unfold eqE at hs
  obtain ⟨as, r1, _⟩ := hx.reads I rx
  obtain ⟨bs, r2, _⟩ := hy.reads I ry
  generalize er d = d' at hs r1
  generalize er e = e' at hs r2
  by_cases hok : eqOk d' e' = true
  · rcases eqOk_of hok with ⟨c1, c2, c3⟩ | hE
    · cases ne with
      | false => simp only [hok, if_true, Bool.false_eq_true, if_false] at hs; cases hs; exact SeqAt.compareEq_reads r1 r2 c1 c2 (by omega) ⟨.bl _, H, I, rfl, o.imm (.bl _) rfl⟩
      | true => simp only [hok, if_true] at hs; cases hs; exact SeqAt.compareNe_reads r1 r2 c1 c2 (by omega) ⟨.bl _, H, I, rfl, o.imm (.bl _) rfl⟩
    · rcases emptyL_of hE with ⟨xs, rfl, rfl⟩ | ⟨xs, rfl, rfl⟩
      · cases ne with
        | false => simp only [hok, if_true, Bool.false_eq_true, if_false] at hs; cases hs; exact rcAt_nil r1 r2 (by omega) _ _ _ _ ⟨.bl _, H, I, rfl, o.imm (.bl _) rfl⟩
        | true => simp only [hok, if_true] at hs; cases hs; exact rcNe_nil r1 r2 (by omega) _ _ _ _ ⟨.bl _, H, I, rfl, o.imm (.bl _) rfl⟩
      · cases ne with
        | false => simp only [hok, if_true, Bool.false_eq_true, if_false] at hs; cases hs; exact rcAt_nilT r1 r2 (by omega) _ _ _ _ ⟨.bl _, H, I, rfl, o.imm (.bl _) rfl⟩
        | true => simp only [hok, if_true] at hs; cases hs; exact rcNe_nilT r1 r2 (by omega) _ _ _ _ ⟨.bl _, H, I, rfl, o.imm (.bl _) rfl⟩
  · simp only [hok] at hs; cases hs
theorem op2_lt (hu : X.A.units + 64 < cLine) (c : COp) (hc : c = .lt ∨ c = .gt ∨ c = .le ∨ c = .ge) : Op2 X false (compareOp (copF c)) (copD c) := by
  intro pins s σ H x y v u Q I rx ry h
  obtain ⟨N, d, e, r, f, hx, hy, hs, o⟩ := h
  have hok : ltOk d e = true := by
    rcases hc with rfl | rfl | rfl | rfl <;> (simp only [copD] at hs; split at hs <;> first | assumption | cases hs)
  obtain ⟨c1, c2, c3, e1, e2⟩ := ltOk_of hok
  obtain ⟨as, r1, _⟩ := hx.reads I rx
  obtain ⟨bs, r2, _⟩ := hy.reads I ry
  rw [e1] at r1
  rw [e2] at r2
  rcases hc with rfl | rfl | rfl | rfl <;> (simp only [copD, hok, if_true] at hs; cases hs)
  · exact PySem.W.lt_data r1 r2 c1 c2 (by omega) ⟨.bl _, H, I, rfl, o.imm (.bl _) rfl⟩
  · exact PySem.W.gt_data r1 r2 c1 c2 (by omega) ⟨.bl _, H, I, rfl, o.imm (.bl _) rfl⟩
  · exact PySem.W.le_data r1 r2 c1 c2 (by omega) ⟨.bl _, H, I, rfl, o.imm (.bl _) rfl⟩
  · exact PySem.W.ge_data r1 r2 c1 c2 (by omega) ⟨.bl _, H, I, rfl, o.imm (.bl _) rfl⟩
theorem op2_is (n : Bool) : Op2 X false (compareOp (if n then .IsNot else .Is)) (isD n) := by
  intro pins s σ H x y v u Q I rx ry h
  obtain ⟨N, d, e, r, f, hx, hy, hs, o⟩ := h
  unfold isD at hs
  by_cases he : isN e = true
  · have hy' : y = .non := by
      cases e <;> simp [isN] at he
      exact hy.non_of
    subst hy'
    have e1 := isN_iff hx
    cases n with
    | false => simp only [he, if_true, Bool.false_eq_true, if_false] at hs; cases hs; exact op_isN pins s σ H x _ v u Q I rx ry ⟨rfl, by rw [e1]; exact o.imm (.bl _) rfl⟩
    | true => simp only [he, if_true] at hs; cases hs; exact op_notN pins s σ H x _ v u Q I rx ry ⟨rfl, by rw [e1]; exact o.imm (.bl _) rfl⟩
  · simp only [he] at hs
    obtain ⟨p, hp, rfl⟩ := Option.map_eq_some_iff.mp hs
    unfold boolsOf at hp
    split at hp <;> cases hp
    cases hx.bl_of
    cases hy.bl_of
    cases n with
    | false => exact op_isBl pins s σ H _ _ v u Q I rx ry ⟨_, _, rfl, rfl, o.imm (.bl _) rfl⟩
    | true => exact op_notBl pins s σ H _ _ v u Q I rx ry ⟨_, _, rfl, rfl, o.imm (.bl _) rfl⟩
theorem inD_lt {neg : Bool} {d r : D} {ds : List D} (h : (if (d.canLay0 && PyData.canLayAll0 ds && decide (min (PyData.depthAll ds) d.depth ≤ 60)) = true then some (.bool (if neg then !ds.any (fun y => PyData.eqv y d) else ds.any fun y => PyData.eqv y d)) else inT neg (er d) (erL ds)) = some r) : inT neg (er d) (erL ds) = some r := by
  split at h
  · rename_i hc
    unfold inT
    have hd := hc
    simp only [Bool.and_eq_true] at hd
    rw [er_lay _ hd.1.1, erL_lay _ hd.1.2, if_pos hc]
    exact h
  · exact h
theorem inT_of {neg : Bool} {d r : D} {ds : List D} (h : inT neg d ds = some r) : (d.canLay0 = true ∧ PyData.canLayAll0 ds = true ∧ min (PyData.depthAll ds) d.depth ≤ 60) ∧ r = .bool (if neg then !ds.any (fun y => PyData.eqv y d) else ds.any fun y => PyData.eqv y d) := by
  unfold inT at h
  split at h
  · rename_i hc
    simp only [Bool.and_eq_true, decide_eq_true_eq] at hc
    cases h
    exact ⟨⟨hc.1.1, hc.1.2, hc.2⟩, rfl⟩
  · cases h
theorem op2_in (hu : X.A.units + 64 < cLine) (n : Bool) : Op2 X false (compareOp (if n then .NotIn else .In)) (inD n) := by
  intro pins s σ H x y v u Q I rx ry h
  obtain ⟨N, d, e, r, f, hx, hy, hs, o⟩ := h
  obtain ⟨as, r1, _⟩ := hx.reads I rx
  unfold inD at hs
  split at hs
  · obtain ⟨⟨c1, c2, c3⟩, rfl⟩ := inT_of (inD_lt hs)
    obtain ⟨bs, r2, _⟩ := hy.reads I ry
    rw [er] at r2
    cases n with
    | false => exact SeqAt.in_list_reads r2 r1 c2 c1 (by omega) ⟨.bl _, H, I, rfl, o.imm (.bl _) rfl⟩
    | true => exact SeqAt.notIn_list_reads r2 r1 c2 c1 (by omega) ⟨.bl _, H, I, rfl, o.imm (.bl _) rfl⟩
  · obtain ⟨⟨c1, c2, c3⟩, rfl⟩ := inT_of (inD_lt hs)
    obtain ⟨bs, r2, _⟩ := hy.reads I ry
    rw [er] at r2
    cases n with
    | false => exact SeqAt.in_tuple_reads r2 r1 c2 c1 (by omega) ⟨.bl _, H, I, rfl, o.imm (.bl _) rfl⟩
    | true => exact SeqAt.notIn_tuple_reads r2 r1 c2 c1 (by omega) ⟨.bl _, H, I, rfl, o.imm (.bl _) rfl⟩
  · rename_i kvs
    split at hs
    · rename_i hc
      rw [Bool.and_eq_true] at hc
      cases hs
      obtain ⟨a, H2, ov, rfl, I2, g, back, hv⟩ := dict_at I hy hx hc.1 hc.2
      cases ry
      have eo : ov.isSome = (dget kvs d).isSome := by
        rcases hv with ⟨w, e, h1, h2, _⟩ | ⟨h1, h2⟩ <;> rw [h1, h2] <;> rfl
      cases n with
      | false => exact d_in (by omega) I2 g rx fun s' I' => ⟨.bl _, H, back s' I', by rw [eo]; rfl, o.imm (.bl _) rfl⟩
      | true => exact d_notIn (by omega) I2 g rx fun s' I' => ⟨.bl _, H, back s' I', by rw [eo]; rfl, o.imm (.bl _) rfl⟩
    · obtain ⟨ds, e1, e2⟩ := Option.bind_eq_some_iff.mp hs
      obtain ⟨⟨c1, c2, c3⟩, rfl⟩ := inT_of e2
      rw [unH_of e1] at hy
      obtain ⟨bs, r2, _⟩ := hy.reads I ry
      rw [er_lay _ c1] at r1
      rw [er_mkH, erL_lay _ c2] at r2
      cases n with
      | false => exact SeqAt.in_tuple_reads r2 r1 c2 c1 (by omega) ⟨.bl _, H, I, rfl, o.imm (.bl _) rfl⟩
      | true => exact SeqAt.notIn_tuple_reads r2 r1 c2 c1 (by omega) ⟨.bl _, H, I, rfl, o.imm (.bl _) rfl⟩
  · cases hs
theorem op2_cop (hu : X.A.units + 64 < cLine) (c : COp) : Op2 X false (compareOp (copF c)) (copD c) := by
  cases c with
  | eq => exact op2_eq hu false
  | ne => exact op2_eq hu true
  | lt => exact op2_lt hu .lt (by simp)
  | gt => exact op2_lt hu .gt (by simp)
  | le => exact op2_lt hu .le (by simp)
  | ge => exact op2_lt hu .ge (by simp)
  | is => exact op2_is false
  | isn => exact op2_is true
  | inn => exact op2_in hu false
  | nin => exact op2_in hu true
end
end
/-! PDd: the compact language and what it means (weakest preconditions over data). -/
section
open PySem L2

abbrev W (α : Type) := (α → Prop) → Prop
def lift {α : Type} (o : Option α) : W α := fun Q => ∃ d, o = some d ∧ Q d

/-- what a slot holds: shared data, data of one's own list or dict, the source of draws -/
inductive B where
  | sh (d : D) | own (d : D) | src
abbrev Nv := List (Option B)
def look (ρ : Nv) (i : Nat) : Option D := match ρ[i]? with
  | some (some (.sh d)) => some d
  | _ => none
def lookB (ρ : Nv) (i : Nat) : Option D := match ρ[i]? with
  | some (some (.sh d)) => some d
  | some (some (.own d)) => some d
  | _ => none
def lookA (ρ : Nv) (i : Nat) : Option B := match ρ[i]? with
  | some (some (.sh d)) => some (.sh d)
  | some (some .src) => some .src
  | _ => none

inductive Prim where
  | len | tuple | tupleH | list | sorted | sum | max | min | abs | all | any | int | repr | str | index | get | dictOf | keys | values | items | count | bool | join | lists
  deriving DecidableEq, Repr
/-- classes asked by isinstance -/
inductive Ty where | int | bool | str | list | tuple | dict
  deriving DecidableEq, Repr
inductive G where
  | v (i : Nat)
  | tup (gs : List G)

mutual
inductive E where
  | var (i : Nat)
  | cst (d : D)
  | bin (op : BOp) (a b : E)
  | neg (a : E)
  | not (a : E)
  | and (a b : E)
  | or (a b : E)
  | cmp (op : COp) (a b : E)
  | chain (o1 o2 : COp) (a b c : E)
  | ife (c : T) (a b : E)
  | tup (es : Es)
  | tupH (es : Es)
  | lst (es : Es)
  | dnew
  | idx (a i : E)
  | slc (a : E) (lo hi : Eo)
  | rev (a : E)
  | rev0 (a : E)
  | call (f : Nat) (as : Es)
  | prim (p : Prim) (as : Es)
  | isi (a : E) (ts : List Ty)
  | lc (vs : List Nat) (g : G) (it : It) (c : To) (elt : E)
  | lc2 (vs : List Nat) (g : G) (it : It) (c : To) (g1 : G) (it1 : It) (c1 : To) (elt : E)
  | dc (vs : List Nat) (g : G) (it : It) (c : To) (k x : E)
  | srt (a : E) (i : Nat) (k : E)
  | rg (tup : Bool) (lo : Eo) (hi : E)
  | meth (p : Prim) (a : E) (as : Es)
  | disp (tk : Bool) (ps : Ps)
  | dead
  | sset (a : E)
  | repl (is : List Nat)
  | lck (vs : List Nat) (g : G) (i : Nat) (c : To) (elt : E)
inductive Ps where
  | nil | cons (k v : E) (r : Ps)
inductive T where
  | and (a b : T) | or (a b : T) | not (a : T) | e (a : E)
inductive To where
  | no | yes (c : T)
inductive Es where
  | nil | cons (e : E) (r : Es) | star (e : E) (r : Es)
inductive Eo where
  | no | yes (e : E)
inductive It where
  | val (e : E) | rng (lo : Eo) (hi : E) | rng3 (lo hi st : E) | enum (e : E) | zip (a b : E) | items (e : E) | values (e : E) | revd (e : E)
end

/-! ### what operations give -/
def truD : D → Option Bool
  | .none => some false
  | .bool b => some b
  | .int i => some (i != 0)
  | .str y => if y.length ≤ sizeLine then some ((y.length : Int) != 0) else none
  | .list xs => some (!xs.isEmpty)
  | .tuple xs => some (!xs.isEmpty)
  | .dict xs => if kindOk xs (.int 0) then some (!xs.isEmpty) else none
def idxD : D → D → Option D
  | .list xs, .int i => atI xs i
  | .tuple xs, .int i => atI xs i
  | .str z, .int i => if z.length ≤ sizeLine then (atI z.cps.toList i).map fun c => .str ⟨#[c]⟩ else none
  | .dict kvs, k => if isKey k && kindOk kvs k then dget kvs k else (unH kvs).bind fun xs => match k with
    | .int i => atI xs i
    | _ => none
  | _, _ => none
def cutL {α : Type} (xs : List α) (lo hi : Option Int) : List α := (xs.drop (HT.sIx xs.length 0 lo)).take (HT.sIx xs.length xs.length hi - HT.sIx xs.length 0 lo)
def slcD (d : D) (lo hi : Option Int) : Option D := match d with
  | .list xs => some (.list (cutL xs lo hi))
  | .tuple xs => some (.tuple (cutL xs lo hi))
  | .str z => if z.length ≤ sizeLine then some (.str (cutS z lo hi)) else none
  | _ => none
def revD : D → Option D
  | .list xs => some (.list xs.reverse)
  | .tuple xs => some (.tuple xs.reverse)
  | _ => none
def rev0D : D → Option D
  | .tuple xs => some (.tuple (xs.drop 1).reverse)
  | _ => none
def negD : D → Option D
  | .int i => some (.int (-i))
  | _ => none
def isiD (d : D) (ts : List Ty) : Bool := ts.any fun t => match t, d with
  | .int, .int _ => true
  | .int, .bool _ => true
  | .bool, .bool _ => true
  | .str, .str _ => true
  | .list, .list _ => true
  | .tuple, .tuple _ => true
  | .dict, .dict kvs => nmK kvs
  | .tuple, .dict kvs => !nmK kvs
  | _, _ => false
/-- the ints lo .. hi - 1 -/
def rangeI (lo hi : Int) : List D := (List.range (hi - lo).toNat).map fun i => .int (lo + (i : Nat))
instance (a b : Int) : Decidable (RgOk a b) := by unfold RgOk; exact inferInstance
def rngD (lo hi : D) : Option (List D) := match lo, hi with
  | .int a, .int b => if RgOk a b then some (rangeI a b) else none
  | _, _ => none
/-- the items of a list or tuple -/
def ltD : D → Option (List D)
  | .list xs => some xs
  | .tuple xs => some xs
  | .dict kvs => unH kvs
  | _ => none
def seqD : D → Option (List D)
  | .list xs => some xs
  | .tuple xs => some xs
  | .dict kvs => if nmK kvs then some (kvs.map (·.1)) else unH kvs
  | _ => none
def intsD : List D → Option (List Int)
  | [] => some []
  | .int i :: r => (intsD r).map (i :: ·)
  | _ => none
def boolsD : List D → Option (List Bool)
  | [] => some []
  | .bool i :: r => (boolsD r).map (i :: ·)
  | _ => none
def allAlike (ds : List D) : Bool := ds.all fun d => ds.all fun e => PySem.W.alike d e
def isTup1 : D → Bool
  | .tuple _ => true
  | _ => false
def isTupS : D → Bool
  | .tuple (_ :: _) => true
  | _ => false
def noTupN : D → Bool
  | .tuple _ => false
  | .none => false
  | _ => true
def sortOk (ds : List D) : Bool := allAlike ds && (ds.all isTup1 || ds.all noTupN) && ds.all fun d => decide (d.depth ≤ 60)
/-- none of the tuples is empty -/
def sortOk1 (ds : List D) : Bool := allAlike ds && (ds.all isTupS || ds.all noTupN) && ds.all fun d => decide (d.depth ≤ 60)
def sortD (ds : List D) : List D := ds.mergeSort (PySem.W.dataLe false id)
def pairT (x y : D) : D := .tuple [x, y]
/-- zip of two lists, of two tuples -/
def zipD : D → D → Option (List D)
  | .list xs, .list ys => some (List.zipWith pairT xs ys)
  | .tuple xs, .tuple ys => some (List.zipWith pairT xs ys)
  | _, _ => none
def enumD (ds : List D) : List D := ds.zipIdx.map fun p => .tuple [.int p.2, p.1]
instance (i j c : Int) : Decidable (Builtin.Range.small i j c = true) := inferInstance
def rng3D : D → D → D → Option (List D)
  | .int a, .int b, .int c => if c ≠ 0 ∧ c.natAbs < 1073741824 ∧ Builtin.Range.small a b c = true ∧ Builtin.Range.rangeSize a b c = ((Builtin.Range.rangeSize a b c).toNat : Int) ∧ (Builtin.Range.rangeSize a b c).toNat ≤ sizeLine then some ((List.range (Builtin.Range.rangeSize a b c).toNat).map fun i : Nat => .int (a + (i : Int) * c)) else none
  | _, _, _ => none
def itemsT (kvs : List (D × D)) : List D := kvs.map fun p => .tuple [p.1, p.2]

/-! ### slots -/
mutual
def asg : G → D → Nv → Option Nv
  | .v i, d, ρ => some (ρ.set i (some (.sh d)))
  | .tup gs, .tuple ds, ρ => asgs gs ds ρ
  | .tup gs, .list ds, ρ => asgs gs ds ρ
  | .tup _, _, _ => none
def asgs : List G → List D → Nv → Option Nv
  | [], [], ρ => some ρ
  | g :: gs, d :: ds, ρ => (asg g d ρ).bind (asgs gs ds)
  | _, _, _ => none
end
def wipeN (ρ : Nv) : List Nat → Nv
  | [] => ρ
  | i :: r => (wipeN ρ r).set i none

/-- a comprehension's items, one by one -/
def lcW : List D → (D → W (Option D)) → W (List D)
  | [], _, Q => Q []
  | d :: ds, st, Q => st d fun o => lcW ds st fun r => Q (o.toList ++ r)

/-- a dict takes a key -/
def setK (kvs : List (D × D)) (k x : D) : Option (List (D × D)) := if isKey k && kindOk kvs k && decide (kvs.length < sizeLine) then some (if kvs.any (fun p => PyData.eqv p.1 k) then kvs.map (fun p => if PyData.eqv p.1 k then (p.1, x) else p) else kvs ++ [(k, x)]) else none
/-- a dict comprehension's items, one by one -/
def dcW (st : D → W (Option (D × D))) : List D → List (D × D) → W (List (D × D))
  | [], acc, Q => Q acc
  | d :: ds, acc, Q => st d fun o => match o with
    | none => dcW st ds acc Q
    | some p => lift (setK acc p.1 p.2) fun acc' => dcW st ds acc' Q
def bor (e : E) (ρ : Nv) (r : W D) : W D := match e with
  | .var i => lift (lookB ρ i)
  | _ => r
def arg (e : E) (ρ : Nv) (r : W D) : W B := match e with
  | .var i => lift (lookA ρ i)
  | _ => fun Q => r fun d => Q (.sh d)
def lookBs (ρ : Nv) : List Nat → Option (List D)
  | [] => some []
  | i :: r => match lookB ρ i, lookBs ρ r with
    | some d, some ds => some (d :: ds)
    | _, _ => none
/-- slots that hold nothing of one's own -/
def free (ρ : Nv) (vs : List Nat) : Bool := vs.all fun i => match ρ[i]? with
  | some (some (.own _)) => false
  | _ => true
abbrev Calls := Nat → List B → W D

/-- what repr shows -/
def showOk (d : D) : Bool := d.showable && decide (d.depth ≤ 60) && decide (d.shown.length ≤ sizeLine)
def pairsD : List D → Option (List (D × D))
  | [] => some []
  | .tuple [k, x] :: r => (pairsD r).map ((k, x) :: ·)
  | _ => none
def dput (kvs : List (D × D)) (k x : D) : List (D × D) :=
  if kvs.any (fun p => PyData.eqv p.1 k) then kvs.map (fun p => if PyData.eqv p.1 k then (p.1, x) else p) else kvs ++ [(k, x)]
theorem nmK_head {a b b' : D} {r r' : List (D × D)} : nmK ((a, b) :: r) = nmK ((a, b') :: r') := by cases a <;> rfl
theorem nmK_dput {kvs : List (D × D)} {k x : D} (hk : isKey k = true) (h : nmK kvs = true) : nmK (dput kvs k x) = true := by
  unfold dput
  cases kvs with
  | nil =>
    split
    · rfl
    · cases k <;> first | rfl | (cases hk)
  | cons p r =>
    obtain ⟨a, b⟩ := p
    split
    · rw [List.map_cons]
      split
      · rw [nmK_head (b' := b) (r' := r)]; exact h
      · rw [nmK_head (b' := b) (r' := r)]; exact h
    · rw [List.cons_append, nmK_head (b' := b) (r' := r)]; exact h
def dputs (kvs ps : List (D × D)) : List (D × D) := ps.foldl (fun acc p => dput acc p.1 p.2) kvs
theorem nmK_dputs : ∀ {ps kvs : List (D × D)}, (∀ p ∈ ps, isKey p.1 = true) → nmK kvs = true → nmK (dputs kvs ps) = true
  | [], _, _, h => h
  | p :: ps, kvs, hk, h => nmK_dputs (ps := ps) (kvs := dput kvs p.1 p.2) (fun q hq => hk q (List.mem_cons_of_mem _ hq)) (nmK_dput (hk p (List.mem_cons_self ..)) h)
def isTk : D → Bool
  | .tuple ks => ks.all isKey1
  | _ => false
/-- put into a rising row, once -/
def insU (x : Int) : List Int → List Int
  | [] => [x]
  | y :: r => if x < y then x :: y :: r else if x = y then y :: r else y :: insU x r
def sortU (xs : List Int) : List Int := xs.foldr insU []
/-- sorted(set(t)), t a tuple of ints -/
def ssetD : D → Option D
  | .list ds => match intsD ds with
    | some ns => if ns.length < 64 then some (.list ((sortU ns).map .int)) else none
    | none => none
  | .tuple ds => match intsD ds with
    | some ns => if ns.length < 64 then some (.list ((sortU ns).map .int)) else none
    | none => none
  | _ => none
/-- the first place of d -/
def indexD (xs : List D) (d : D) : Option D := if d.canLay0 && PyData.canLayAll0 xs && decide (min (PyData.depthAll xs) d.depth ≤ 60) && xs.any (fun y => PyData.eqv y d) then some (.int (xs.findIdx fun y => PyData.eqv y d)) else none
/-- may the method be asked of it? -/
def mOk : Prim → D → Bool
  | .index, .list _ => true
  | .index, .dict kvs => (unH kvs).isSome

  | _, _ => false
/-- a displayed dict: keys of one kind -/
def dispD (tk : Bool) (ps : List (D × D)) : Option D := if decide (ps.length ≤ 15) && ps.all (fun p => if tk then isTk p.1 else isKey1 p.1) && !ps.isEmpty then some (.dict (dputs [] ps)) else none
/-- the least or the greatest of some ints -/
def mmD (f : Int → Int → Int) (xs : List D) : Option D := match intsD xs with
  | some (n :: ns) => some (.int (ns.foldl f n))
  | _ => none
/-! sorted by a key -/
def lenD : D → Int
  | .tuple xs => xs.length
  | _ => 0
def isIntD : D → Bool
  | .int _ => true
  | _ => false
def isTupI : D → Bool
  | .tuple xs => xs.all isIntD
  | _ => false
/-- the key: how many (false); how many, and itself (true) -/
def keyF : Bool → D → D
  | false, d => .int (lenD d)
  | true, d => .tuple [.int (lenD d), d]
def srtOk (b : Bool) (ds : List D) : Bool := sortOk1 (ds.map (keyF b)) && ds.all isTupI
def srtBy (b : Bool) (ds : List D) : List D := ds.mergeSort (PySem.W.dataLe false (keyF b))
/-- what built-ins give -/
def primD : Prim → List D → Option D
  | .len, [.list xs] => some (.int xs.length)
  | .len, [.tuple xs] => some (.int xs.length)
  | .len, [.dict xs] => if nmK xs then some (.int xs.length) else (unH xs).map fun ys => .int ys.length
  | .len, [.str z] => if z.length ≤ sizeLine then some (.int z.length) else none
  | .tuple, [.list xs] => some (.tuple xs)
  | .tuple, [.tuple xs] => some (.tuple xs)
  | .list, [.list xs] => some (.list xs)
  | .list, [.tuple xs] => some (.list xs)
  | .list, [.dict kvs] => if nmK kvs then some (.list (kvs.map (·.1))) else (unH kvs).map fun ys => .list ys
  | .sorted, [.list xs] => if sortOk xs then some (.list (sortD xs)) else none
  | .sorted, [.tuple xs] => if sortOk xs then some (.list (sortD xs)) else none
  | .sorted, [.dict kvs] => if nmK kvs && sortOk (kvs.map (·.1)) then some (.list (sortD (kvs.map (·.1)))) else none
  | .sum, [.list xs] => (intsD xs).map fun ns => .int ns.sum
  | .all, [.list xs] => (boolsD xs).map fun bs => .bool (bs.all id)
  | .any, [.list xs] => (boolsD xs).map fun bs => .bool (bs.any id)
  | .abs, [.int i] => some (.int (if i < 0 then -i else i))
  | .int, [.int i] => some (.int i)
  | .int, [.bool b] => some (.int (if b then 1 else 0))
  | .max, [.int i, .int j] => some (.int (if j > i then j else i))
  | .min, [.int i, .int j] => some (.int (if j < i then j else i))
  | .max, [.list xs] => mmD max xs
  | .max, [.tuple xs] => mmD max xs
  | .min, [.list xs] => mmD min xs
  | .min, [.tuple xs] => mmD min xs
  | .dictOf, [.list xs] => (pairsD xs).bind fun ps => if ps.all (fun p => isKey1 p.1) || ps.all (fun p => isTk p.1) then some (.dict (dputs [] ps)) else none
  | .repr, [d] => if showOk d then some (.str d.shown) else if showOk (er d) then some (.str (er d).shown) else none
  | .index, [.list xs, d] => indexD xs d
  | .index, [.tuple xs, d] => indexD xs d
  | .index, [.dict kvs, d] => (unH kvs).bind fun xs => indexD xs d
  | .tupleH, [.list xs] => some (mkH xs)
  | _, _ => none

mutual
def ev (C : Calls) : E → Nv → W D
  | .var i, ρ => lift (look ρ i)
  | .cst d, _ => fun Q => Q d
  | .bin op a b, ρ => fun Q => bor a ρ (ev C a ρ) fun x => bor b ρ (ev C b ρ) fun y => lift (binD op x y) Q
  | .neg a, ρ => fun Q => bor a ρ (ev C a ρ) fun x => lift (negD x) Q
  | .not a, ρ => fun Q => bor a ρ (ev C a ρ) fun x => lift (truD x) fun b => Q (.bool (!b))
  | .and a b, ρ => fun Q => ev C a ρ fun x => lift (truD x) fun t => if t = true then ev C b ρ Q else Q x
  | .or a b, ρ => fun Q => ev C a ρ fun x => lift (truD x) fun t => if t = true then Q x else ev C b ρ Q
  | .cmp op a b, ρ => fun Q => bor a ρ (ev C a ρ) fun x => bor b ρ (ev C b ρ) fun y => lift (copD op x y) Q
  | .chain o1 o2 a b c, ρ => fun Q => bor a ρ (ev C a ρ) fun x => bor b ρ (ev C b ρ) fun y => lift (copD o1 x y) fun z => lift (truD z) fun t =>
      if t = true then bor c ρ (ev C c ρ) fun z => lift (copD o2 y z) Q else Q (.bool false)
  | .ife c a b, ρ => fun Q => tst C c ρ fun t => if t = true then ev C a ρ Q else ev C b ρ Q
  | .tup es, ρ => fun Q => evs C es ρ fun ds => ds.length ≤ sizeLine ∧ Q (.tuple ds)
  | .tupH es, ρ => fun Q => evs C es ρ fun ds => ds.length ≤ sizeLine ∧ Q (mkH ds)
  | .lst es, ρ => fun Q => evs C es ρ fun ds => ds.length ≤ sizeLine ∧ Q (.list ds)
  | .dnew, _ => fun Q => Q (.dict [])
  | .idx a i, ρ => fun Q => bor a ρ (ev C a ρ) fun x => ev C i ρ fun y => lift (idxD x y) Q
  | .slc a lo hi, ρ => fun Q => bor a ρ (ev C a ρ) fun x => evo C lo ρ fun l => evo C hi ρ fun h => lift (slcD x l h) Q
  | .rev a, ρ => fun Q => bor a ρ (ev C a ρ) fun x => lift (revD x) Q
  | .rev0 a, ρ => fun Q => bor a ρ (ev C a ρ) fun x => lift (rev0D x) Q
  | .call f as, ρ => fun Q => eva C as ρ fun bs => C f bs Q
  | .prim p as, ρ => fun Q => evb C as ρ fun ds => lift (primD p ds) Q
  | .isi a ts, ρ => fun Q => bor a ρ (ev C a ρ) fun x => Q (.bool (isiD x ts))
  | .lc vs g it c elt, ρ => fun Q => free ρ vs = true ∧ evi C true it ρ fun ds => lcW ds (fun d K => lift (asg g d (wipeN ρ vs)) fun ρ' => evc C c ρ' fun t => if t = true then ev C elt ρ' (fun y => K (some y)) else K none) fun r => Q (.list r)
  | .lc2 .., _ => fun _ => False
  | .dead, _ => fun _ => False
  | .repl is, ρ => fun Q => ∃ ds, lookBs ρ is = some ds ∧ ds.length ≤ sizeLine ∧ lift (primD .repr [.list ds]) Q
  | .sset a, ρ => fun Q => bor a ρ (ev C a ρ) fun x => lift (ssetD x) Q
  | .lck vs g i c elt, ρ => fun Q => ∃ kvs, ρ[i]? = some (some (.own (.dict kvs))) ∧ kvs.length ≤ sizeLine ∧ free (ρ.set i none) vs = true ∧ lcW (kvs.map (·.1)) (fun d K => lift (asg g d (wipeN (ρ.set i none) vs)) fun ρ' => evc C c ρ' fun t => if t = true then ev C elt ρ' (fun y => K (some y)) else K none) fun r => Q (.list r)
  | .dc vs g it c k x, ρ => fun Q => free ρ vs = true ∧ evi C true it ρ fun ds => dcW (fun d K => lift (asg g d (wipeN ρ vs)) fun ρ' => evc C c ρ' fun t => if t = true then ev C k ρ' (fun y => ev C x ρ' fun z => K (some (y, z))) else K none) ds [] fun r => Q (.dict r)
  | .srt a w _, ρ => fun Q => bor a ρ (ev C a ρ) fun d => ∃ ds, seqD d = some ds ∧ srtOk (w == 1) ds = true ∧ Q (.list (srtBy (w == 1) ds))
  | .meth p a as, ρ => fun Q => bor a ρ (ev C a ρ) fun x => mOk p x = true ∧ evb C as ρ fun ds => lift (primD p (x :: ds)) Q
  | .disp tk ps, ρ => fun Q => evp C ps ρ fun qs => lift (dispD tk qs) Q
  | .rg tup lo hi, ρ => fun Q => evo C lo ρ fun l => ev C hi ρ fun h => lift (rngD (.int (l.getD 0)) h) fun ds => Q (if tup then .tuple ds else .list ds)
def evp (C : Calls) : Ps → Nv → W (List (D × D))
  | .nil, _ => fun Q => Q []
  | .cons k v r, ρ => fun Q => ev C k ρ fun x => ev C v ρ fun y => evp C r ρ fun qs => Q ((x, y) :: qs)
def tst (C : Calls) : T → Nv → W Bool
  | .and a b, ρ => fun Q => tst C a ρ fun c => if c = true then tst C b ρ Q else Q false
  | .or a b, ρ => fun Q => tst C a ρ fun c => if c = true then Q true else tst C b ρ Q
  | .not a, ρ => fun Q => tst C a ρ fun c => Q (!c)
  | .e a, ρ => fun Q => bor a ρ (ev C a ρ) fun x => lift (truD x) Q
def evs (C : Calls) : Es → Nv → W (List D)
  | .nil, _ => fun Q => Q []
  | .cons e r, ρ => fun Q => ev C e ρ fun x => evs C r ρ fun xs => Q (x :: xs)
  | .star e r, ρ => fun Q => bor e ρ (ev C e ρ) fun x => lift (ltD x) fun ys => evs C r ρ fun xs => Q (ys ++ xs)
def evb (C : Calls) : Es → Nv → W (List D)
  | .nil, _ => fun Q => Q []
  | .cons e r, ρ => fun Q => bor e ρ (ev C e ρ) fun x => evb C r ρ fun xs => Q (x :: xs)
  | .star .., _ => fun _ => False
def eva (C : Calls) : Es → Nv → W (List B)
  | .nil, _ => fun Q => Q []
  | .cons e r, ρ => fun Q => arg e ρ (ev C e ρ) fun x => eva C r ρ fun xs => Q (x :: xs)
  | .star .., _ => fun _ => False
def evo (C : Calls) : Eo → Nv → W (Option Int)
  | .no, _ => fun Q => Q none
  | .yes e, ρ => fun Q => ev C e ρ fun x => ∃ i, x = .int i ∧ Q (some i)
def evc (C : Calls) : To → Nv → W Bool
  | .no, _ => fun Q => Q true
  | .yes e, ρ => fun Q => tst C e ρ Q
def evi (C : Calls) (b : Bool) : It → Nv → W (List D)
  | .val e, ρ => fun Q => (if b = true then bor e ρ (ev C e ρ) else ev C e ρ) fun x => lift (ltD x) Q
  | .rng lo hi, ρ => fun Q => evo C lo ρ fun l => ev C hi ρ fun h => lift (rngD (.int (l.getD 0)) h) Q
  | .zip e f, ρ => fun Q => (if b = true then bor e ρ (ev C e ρ) else ev C e ρ) fun x => (if b = true then bor f ρ (ev C f ρ) else ev C f ρ) fun y => lift (zipD x y) Q
  | .enum e, ρ => fun Q => (if b = true then bor e ρ (ev C e ρ) else ev C e ρ) fun x => lift (ltD x) fun ds => Q (enumD ds)
  | .rng3 lo hi st, ρ => fun Q => ev C lo ρ fun l => ev C hi ρ fun h => ev C st ρ fun s => lift (rng3D l h s) Q
  | _, _ => fun _ => False
end
end
/-! PDe: slots and heap; readings of expressions. -/
section
open PySem L2

/-- the source's dict at c, its cells at l -/
def srcKV (l : Addr) (left mixed turn : Int) : List (Key × V) := [(.inr "cells", .ref l), (.inr "left", .int left), (.inr "mixed", .int mixed), (.inr "turn", .int turn)]
structure SrcH (c l : Addr) (xs : List Int) (left mixed turn : Int) (H : Hp) : Prop where
  d : H c = some (.dK (srcKV l left mixed turn))
  l : H l = some (.lst (xs.map V.int))
def SrcI (c l : Addr) (H : Hp) : Prop := ∃ xs left mixed turn, SrcH c l xs left mixed turn H
/-- the tables of code objects that lambdas change: where they lie, their lambdas' name -/
class Tb where
  T : List (Addr × Str)
instance (priority := low) Tb.none : Tb := ⟨[]⟩
variable [Tb]
/-- the source of draws: its value, the places that its draws change, what holds of it -/
structure Src where
  v : V
  dom : Zn
  inv : Hp → Prop
  fit : ∀ H, inv H → Fit dom H
  stab : ∀ H H', inv H → (∀ a, dom a → H' a = H a) → (∀ a f, H a = some (.ext f) → H' a = some (.ext f)) → inv H'
  shape : ∃ c l, c ≠ l ∧ v = .ref c ∧ (∀ a, dom a ↔ (a = c ∨ a = l) ∨ ∃ p ∈ Tb.T, a = p.1) ∧ ∀ H, inv H ↔ SrcI c l H ∧ LamX.Tabs Tb.T H
theorem Src.ext (S : Src) {H H' : Hp} (i : S.inv H) (e : Ext No H H') : S.inv H' := S.stab H H' i (fun a ha => by
  obtain ⟨o, q, _⟩ := (S.fit H i).dom a ha
  rw [q, e a o q fun z => z]) fun a f q => e a _ q fun z => z
theorem Src.upd (S : Src) {H : Hp} {p : Addr} {o : HO} (i : S.inv H) (n : ¬ S.dom p) (m : ∀ f, H p ≠ some (.ext f)) : S.inv (L2.upd H p o) :=
  S.stab _ _ i (fun a ha => upd_ne fun z => n (z ▸ ha)) fun a f e => by
    have ne : a ≠ p := fun z => m f (by rw [← z]; exact e)
    rw [L2.upd_ne ne]; exact e
theorem Ext.any {H H' : Hp} (N : Zn) (e : Ext No H H') : Ext N H H' := fun a o q _ => e a o q fun z => z

theorem RpB.noExt {N : Zn} {H : Hp} {a : Addr} {d : D} (h : RpB N H (.ref a) d) : ∀ f, H a ≠ some (.ext f) := fun f z => by
  cases h with
  | of r => cases r with
    | lst _ q _ => rw [q] at z; cases z
    | tup q _ => rw [q] at z; cases z
    | hrd q _ _ => rw [q] at z; cases z
    | dK _ q _ => rw [q] at z; cases z
    | dT _ _ q _ => rw [q] at z; cases z
  | lst q _ => rw [q] at z; cases z
  | dK q _ => rw [q] at z; cases z
  | dT _ q _ => rw [q] at z; cases z

def OwnAt (ρ : Nv) (σ : L2.St) (a : Addr) : Prop := ∃ (i : Nat) (d : D), ρ[i]? = some (some (.own d)) ∧ σ[i]? = some (some (.ref a))
def Nn (P : Zn) (ρ : Nv) (σ : L2.St) : Zn := fun a => P a ∨ OwnAt ρ σ a

structure Rel (S : Src) (P : Zn) (ρ : Nv) (σ : L2.St) (H : Hp) : Prop where
  len : ρ.length = σ.length
  sub : ∀ a, S.dom a → P a
  fitP : Fit P H
  inv : S.inv H
  sh : ∀ (i : Nat) (d : D), ρ[i]? = some (some (.sh d)) → ∃ v, σ[i]? = some (some v) ∧ Rp (Nn P ρ σ) H v d
  own : ∀ (i : Nat) (d : D), ρ[i]? = some (some (.own d)) → ∃ a, σ[i]? = some (some (.ref a)) ∧ isL d = true ∧ RpB (Nn P ρ σ) H (.ref a) d ∧ ¬ P a
  dis : ∀ (i j : Nat) (d e : D) (a : Addr), ρ[i]? = some (some (.own d)) → ρ[j]? = some (some (.own e)) → σ[i]? = some (some (.ref a)) → σ[j]? = some (some (.ref a)) → i = j
  src : ∀ (i : Nat), ρ[i]? = some (some .src) → σ[i]? = some (some S.v)

theorem RpB.list_at {N : Zn} {H : Hp} {a : Addr} {d : D} (h : RpB N H (.ref a) d) (l : isL d = true) : ∃ o, H a = some o ∧ Mut (some o) := by
  cases h with
  | of r => cases r with
    | lst _ q _ => exact ⟨_, q, trivial⟩
    | tup _ _ => simp [isL] at l
    | hrd _ _ _ => simp [isL, mkH, nmK] at l
    | dK _ q _ => exact ⟨_, q, trivial⟩
    | dT _ _ q _ => exact ⟨_, q, trivial⟩
  | lst q _ => exact ⟨_, q, trivial⟩
  | dK q _ => exact ⟨_, q, trivial⟩
  | dT _ q _ => exact ⟨_, q, trivial⟩

section
variable {S : Src} {P : Zn} {ρ : Nv} {σ : L2.St} {H H' : Hp}
theorem Rel.fit (R : Rel S P ρ σ H) : Fit (Nn P ρ σ) H := ⟨fun a h => by
  rcases h with h | ⟨i, d, h1, h2⟩
  · exact R.fitP.dom a h
  · obtain ⟨b, e, l, r, _⟩ := R.own i d h1
    rw [h2] at e; cases e
    obtain ⟨o, q, m⟩ := r.list_at l
    exact ⟨o, q, .of m⟩⟩
theorem Rel.domN (R : Rel S P ρ σ H) : ∀ a, S.dom a → Nn P ρ σ a := fun a h => .inl (R.sub a h)
/-- a value whose top no draw changes -/
def RpS (S : Src) (N : Zn) (H : Hp) (v : V) (d : D) : Prop := RpB N H v d ∧ ∀ a, v = .ref a → ¬ S.dom a
theorem RpB.extA {N : Zn} {v : V} {d : D} (h : RpB N H v d) (f : Fit N H) (e : Ext N H H') (t : ∀ a o, v = .ref a → H a = some o → H' a = some o) : RpB N H' v d := by
  cases h with
  | of r => exact .of (r.ext e f)
  | lst q r => exact .lst (t _ _ rfl q) (r.ext e f)
  | dK q r => exact .dK (t _ _ rfl q) (r.ext e f)
  | dT z q r => exact .dT z (t _ _ rfl q) (r.ext e f)
theorem RpS.ext {N : Zn} {v : V} {d : D} (h : RpS S N H v d) (f : Fit N H) (hs : ∀ a, S.dom a → N a) (e : Ext S.dom H H') : RpS S N H' v d :=
  ⟨h.1.extA f (e.mono hs) fun a o ev q => e a o q (h.2 a ev), h.2⟩
theorem Rp.toS {N : Zn} {v : V} {d : D} (h : Rp N H v d) (f : Fit N H) (hs : ∀ a, S.dom a → N a) : RpS S N H v d :=
  ⟨.of h, fun a e z => by
    subst e
    have nz := hs a z
    cases h with
    | lst n _ _ => exact n nz
    | tup q _ =>
      obtain ⟨o, q', m⟩ := f.dom a nz
      rw [q] at q'; cases q'; exact m
    | hrd q _ _ =>
      obtain ⟨o, q', m⟩ := f.dom a nz
      rw [q] at q'; cases q'; exact m
    | dK n _ _ => exact n nz
    | dT n _ _ _ => exact n nz⟩
theorem Rel.ext (R : Rel S P ρ σ H) (e : Ext S.dom H H') (i : S.inv H') : Rel S P ρ σ H' where
  len := R.len
  sub := R.sub
  fitP := ⟨fun a h => by
    by_cases z : S.dom a
    · exact (S.fit H' i).dom a z
    · obtain ⟨o, q, m⟩ := R.fitP.dom a h
      exact ⟨o, e a o q z, m⟩⟩
  inv := i
  sh := fun i d h => by
    obtain ⟨v, q, r⟩ := R.sh i d h
    exact ⟨v, q, r.ext (e.mono R.domN) R.fit⟩
  own := fun i d h => by
    obtain ⟨a, q, l, r, n⟩ := R.own i d h
    exact ⟨a, q, l, r.extA R.fit (e.mono R.domN) (fun b o eb hb => by cases eb; exact e _ o hb fun z => n (R.sub _ z)), n⟩
  dis := R.dis
  src := R.src
theorem Rel.ext0 (R : Rel S P ρ σ H) (e : Ext No H H') : Rel S P ρ σ H' := R.ext (e.any _) (S.ext R.inv e)

/-- what is wanted behind an expression -/
def Fin (S : Src) (N : Zn) (H : Hp) (fr : Bool) (Q0 : D → Prop) (Q : VK) : Prop :=
  ∀ d, Q0 d → ∀ v H', Ext S.dom H H' → S.inv H' → Rp N H' v d → (fr = true → isL d = true → Fresh N H H' v d) → Q v H'
def FinB (S : Src) (N : Zn) (H : Hp) (Q0 : D → Prop) (Q : VK) : Prop :=
  ∀ d, Q0 d → ∀ v H', Ext S.dom H H' → S.inv H' → RpS S N H' v d → Q v H'
def frE : E → Bool
  | .bin _ _ _ => true
  | .lst _ => true
  | .dnew => true
  | .prim p _ => match p with
    | .list => true | .sorted => true | .dictOf => true | .keys => true | .values => true | .items => true | .lists => true
    | _ => false
  | .lc .. => true
  | .lc2 .. => true
  | .dc .. => true
  | .srt .. => true
  | .rg t _ _ => !t
  | .rev _ => true
  | .slc .. => true
  | .disp _ _ => true
  | .sset _ => true
  | .lck .. => true
  | _ => false
def tE (C : Calls) (e : E) : TE := fun σ H Q => ∃ S P ρ Q0, Rel S P ρ σ H ∧ ev C e ρ Q0 ∧ Fin S (Nn P ρ σ) H (frE e) Q0 Q
def tBo (C : Calls) (e : E) : TE := fun σ H Q => ∃ S P ρ Q0, Rel S P ρ σ H ∧ bor e ρ (ev C e ρ) Q0 ∧ FinB S (Nn P ρ σ) H Q0 Q
def tT (C : Calls) (c : T) : TT := fun σ H Q => ∃ S P ρ Q0, Rel S P ρ σ H ∧ tst C c ρ Q0 ∧ ∀ b, Q0 b → ∀ H', Ext S.dom H H' → S.inv H' → Q b H'
inductive RpBs (S : Src) (N : Zn) (H : Hp) : List V → List D → Prop
  | nil : RpBs S N H [] []
  | cons {v vs d ds} : RpS S N H v d → RpBs S N H vs ds → RpBs S N H (v :: vs) (d :: ds)
/-- values of a display -/
def tEs (C : Calls) (es : Es) : TA := fun σ H Q => ∃ S P ρ Q0, Rel S P ρ σ H ∧ evs C es ρ Q0 ∧ ∀ ds, Q0 ds → ∀ vs H', Ext S.dom H H' → S.inv H' → RpAll (Nn P ρ σ) H' vs ds → Q vs H'
/-- arguments that are looked at -/
def tEb (C : Calls) (es : Es) : TA := fun σ H Q => ∃ S P ρ Q0, Rel S P ρ σ H ∧ evb C es ρ Q0 ∧ ∀ ds, Q0 ds → ∀ vs H', Ext S.dom H H' → S.inv H' → RpBs S (Nn P ρ σ) H' vs ds → Q vs H'
/-- arguments that are handed on -/
inductive RpAs (S : Src) (N : Zn) (H : Hp) : List V → List B → Prop
  | nil : RpAs S N H [] []
  | sh {v vs d ds} : Rp N H v d → RpAs S N H vs ds → RpAs S N H (v :: vs) (.sh d :: ds)
  | src {vs ds} : RpAs S N H vs ds → RpAs S N H (S.v :: vs) (.src :: ds)
def tEa (C : Calls) (es : Es) : TA := fun σ H Q => ∃ S P ρ Q0, Rel S P ρ σ H ∧ eva C es ρ Q0 ∧ ∀ bs, Q0 bs → ∀ vs H', Ext S.dom H H' → S.inv H' → RpAs S (Nn P ρ σ) H' vs bs → Q vs H'
def tEo (C : Calls) (e : Eo) : TO := fun σ H Q => ∃ S P ρ Q0, Rel S P ρ σ H ∧ evo C e ρ Q0 ∧ ∀ o, Q0 o → ∀ H', Ext S.dom H H' → S.inv H' → Q o H'
theorem RpBs.ext {N : Zn} (f : Fit N H) (hs : ∀ a, S.dom a → N a) (e : Ext S.dom H H') : ∀ {vs : List V} {ds : List D}, RpBs S N H vs ds → RpBs S N H' vs ds
  | _, _, .nil => .nil
  | _, _, .cons r t => .cons (r.ext f hs e) (RpBs.ext f hs e t)
theorem RpAs.ext {N : Zn} (f : Fit N H) (e : Ext N H H') : ∀ {vs : List V} {ds : List B}, RpAs S N H vs ds → RpAs S N H' vs ds
  | _, _, .nil => .nil
  | _, _, .sh r t => .sh (r.ext e f) (RpAs.ext f e t)
  | _, _, .src t => .src (RpAs.ext f e t)
theorem RpAs.length {N : Zn} : ∀ {vs : List V} {ds : List B}, RpAs S N H vs ds → vs.length = ds.length
  | _, _, .nil => rfl
  | _, _, .sh _ t => by simp [RpAs.length t]
  | _, _, .src t => by simp [RpAs.length t]
end

theorem PE.weak {X : Cx} {x : PySem.Expr} {t t' : TE} (h : PE X x t) (w : ∀ σ H Q, t' σ H Q → t σ H Q) : PE X x t' := ⟨fun pins s σ H Q I q => h.run pins s σ H Q I (w σ H Q q)⟩
theorem PT.weak {X : Cx} {x : PySem.Expr} {t t' : TT} (h : PT X x t) (w : ∀ σ H Q, t' σ H Q → t σ H Q) : PT X x t' := ⟨fun pins s σ H Q I q => h.run pins s σ H Q I (w σ H Q q)⟩
theorem PA.weak {X : Cx} {x : List PySem.Expr} {t t' : TA} (h : PA X x t) (w : ∀ σ H Q, t' σ H Q → t σ H Q) : PA X x t' := ⟨fun p pins s σ H Q I q => h.run p pins s σ H Q I (w σ H Q q)⟩

/-! ### the readings put together -/
section
variable {C : Calls} {σ : L2.St} {H : Hp} {Q : VK}
/-- two operands, looked at -/
theorem w_op2s {a b : E} {sem : D → D → Option D} {fr : Bool} (h : ∃ S P ρ Q0, Rel S P ρ σ H ∧ (bor a ρ (ev C a ρ) fun x => bor b ρ (ev C b ρ) fun y => lift (sem x y) Q0) ∧ ∀ r, Q0 r → (∃ d e, sem d e = some r) → ∀ v H', Ext S.dom H H' → S.inv H' → Rp (Nn P ρ σ) H' v r → (fr = true → isL r = true → Fresh (Nn P ρ σ) H H' v r) → Q v H') :
    tOp (fun x y H Q => ∃ N d e r, Fit N H ∧ RpB N H x d ∧ RpB N H y e ∧ sem d e = some r ∧ Out fr N H r Q) (tBo C a) (tBo C b) σ H Q := by
  obtain ⟨S, P, ρ, Q0, R, h, q⟩ := h
  refine ⟨S, P, ρ, _, R, h, fun d hd v H1 e1 i1 r1 => ?_⟩
  have R1 := R.ext e1 i1
  refine ⟨S, P, ρ, _, R1, hd, fun d2 hd2 v2 H2 e2 i2 r2 => ?_⟩
  have R2 := R1.ext e2 i2
  obtain ⟨r, er, hq⟩ := hd2
  refine ⟨_, d, d2, r, R2.fit, (r1.ext R1.fit R1.domN e2).1, r2.1, er, fun v' H' e' rp fs => ?_⟩
  refine q r hq ⟨_, _, er⟩ v' H' ((e1.trans e2).trans (e'.any _)) (S.ext i2 e') rp fun f l => ?_
  obtain ⟨p, ep, np, rb⟩ := fs f l
  refine ⟨p, ep, ?_, rb⟩
  cases hp : H p with
  | none => rfl
  | some o =>
    by_cases z : S.dom p
    · obtain ⟨o', q', _⟩ := (S.fit H2 i2).dom p z
      rw [np] at q'; cases q'
    · have := (e1.trans e2) p o hp z
      rw [np] at this; cases this
/-- two operands, looked at -/
theorem w_op2 {a b : E} {sem : D → D → Option D} {fr : Bool} (h : ∃ S P ρ Q0, Rel S P ρ σ H ∧ (bor a ρ (ev C a ρ) fun x => bor b ρ (ev C b ρ) fun y => lift (sem x y) Q0) ∧ Fin S (Nn P ρ σ) H fr Q0 Q) :
    tOp (fun x y H Q => ∃ N d e r, Fit N H ∧ RpB N H x d ∧ RpB N H y e ∧ sem d e = some r ∧ Out fr N H r Q) (tBo C a) (tBo C b) σ H Q := by
  obtain ⟨S, P, ρ, Q0, R, h, q⟩ := h
  exact w_op2s ⟨S, P, ρ, Q0, R, h, fun r hr _ => q r hr⟩
end
end
/-! PDx: defs called where no guard stands (so that repr may be asked within). -/
section
open PySem L2 PySem.Spec PyProof.Rows
variable [Tb]

/-- the def at f keeps sp, wherever no guard stands -/
structure FnG (P : Program) (w : World) (K : PySem.W.Frag) (mg : Str → Option Value) (base : Heap) (k : Nat) (f : Addr) (fd : FuncData) (ps : List Str) (sp : Sp) : Prop where
  len : ∀ vs H Q E, sp vs H Q E → vs.length = ps.length
  run : ∀ (A : Around) (outer : List PySem.Env) (s : Shared) (H : Hp) (args : Args) (us : List Value) (vs : List V) (Q : VK),
    Room k A → A.guards = some [] → Env0 P w K mg base A outer s H → BindsTo s fd args (ps.zip us) → Vals vs us → sp vs H Q E0 →
    codeAny (model P w) A (.call (.ref f) args) (CR CX0 outer P w H s Q E0) s
section
variable {P : Program} {w : World} {K : PySem.W.Frag} {mg : Str → Option Value} {base : Heap} {k : Nat} {f : Addr} {fd : FuncData} {ps : List Str} {sp sp' : Sp}
theorem FnG.of (F : FnOk P w K mg base CX0 k f fd ps sp) : FnG P w K mg base k f fd ps sp :=
  ⟨F.len, fun A outer s H args us vs Q hr _ e hb hv hs => F.run A outer s H args us vs Q E0 hr e hb hv hs⟩
theorem FnG.imp (F : FnG P w K mg base k f fd ps sp) (h : ∀ vs H Q, sp' vs H Q E0 → sp vs H Q E0) (hl : ∀ vs H Q E, sp' vs H Q E → vs.length = ps.length) : FnG P w K mg base k f fd ps sp' :=
  ⟨hl, fun A outer s H args us vs Q hr hg e hb hv hs => F.run A outer s H args us vs Q hr hg e hb hv (h _ _ _ hs)⟩
theorem FnG.mono {j : Nat} (F : FnG P w K mg base j f fd ps sp) (h : j ≤ k) : FnG P w K mg base k f fd ps sp :=
  ⟨F.len, fun A outer s H args us vs Q hr => F.run A outer s H args us vs Q (hr.mono h)⟩
/-- a def of the text by its body -/
theorem Fun.okG {x qual : Str} {st : Stmt} {N : List Str} (F : Fun K x qual st f fd) (S : FnScope N ps (defScope st)) (len : ∀ vs H Q E, sp vs H Q E → vs.length = ps.length)
    (body : ∀ (cdv : Value) (A : Around) (outer : List PySem.Env) (s : Shared) (H : Hp) (vs : List V) (Q : VK), fd.code = cdv → Room k (A.deeper (envOfC qual (defScope st) s.heap.objs.size f cdv)) → A.guards = some [] → sp vs H Q E0 →
      ∃ t, PSs (cxOf CX0 P w K mg base N qual (defScope st) f cdv A outer s H E0).nox (defBody st) t ∧ t { nx := fun _ H' => Q .non H', rt := Q } (start N vs) H) : FnG P w K mg base (k + 1) f fd ps sp := by
  obtain ⟨oc, od, kV, doc, pm, an, cdv, ct, osl, e, lk, hcd⟩ := F.ex
  subst e
  refine ⟨len, fun A outer s H args us vs Q hr hg e0 hb rv hsp => ?_⟩
  have n1 := len _ _ _ _ hsp
  have hin : ∀ b o, base.get? b = some o → s.heap.get? b = some o := fun b o q => (e0.bs b o q).1
  have kin : K.In s.heap := e0.mod.kin.keeps hin
  have nolim : s.heap.NoLimit := e0.mod.nolimit.keeps hin
  have kinds : ∀ y ∈ ps.zip us, (defScope st).names.lookup y.1 = some .local ∨ ((defScope st).names.lookup y.1 = some .cell ∧ ((cellsFrom (s.heap.objs.size + 1) (defScope st).names []).lookup y.1).isSome = true) := by
    rintro ⟨n, v⟩ hy
    have hn := (List.of_mem_zip hy).1
    rcases S.par n hn with q | q
    · exact Or.inl q
    · exact Or.inr ⟨q, PySem.W.cellsFrom_some _ _ _ (Or.inl q)⟩
  refine codeAny_call_function hr.depth (kin _ _ lk) rfl S.co S.gen rfl (PySem.W.codeRec_of kin hcd) (hb _ _ _ _ ?_)
  refine wpAny_newFunctionEnv_cells S.kind kinds fun env he s1 inst => ?_
  subst he
  refine ⟨nolim.keeps inst.toInCall.keep, codeAny_func ?_⟩
  obtain ⟨t, ht, ends⟩ := body cdv A outer s H vs Q rfl (hr.deeper _) hg hsp
  have start_ok : Inv (cxOf CX0 P w K mg base N qual (defScope st) f cdv A outer s H E0) [] (start N vs) H s1 := inv_start S hr.hd e0 n1 rv inst
  refine wpAny_mono (ht.nox.run [] s1 (start N vs) H _ start_ok ends) (fun fl s2 out => ?_) fun e s2 out => out
  cases fl with
  | ret u =>
    obtain ⟨v, σ2, H2, J, rv2, q⟩ := out
    exact ⟨v, H2, J.os, J.bare, J.base, J.hok, rv2, q⟩
  | next =>
    obtain ⟨σ2, H2, J, q⟩ := out
    exact ⟨V.non, H2, J.os, J.bare, J.base, J.hok, rfl, q⟩
  | brk => obtain ⟨_, _, _, q⟩ := out; cases q
  | cont => obtain ⟨_, _, _, q⟩ := out; cases q
end
section
variable {X : Cx} {k : Nat} {f : Addr} {fd : FuncData} {ps : List Str} {sp : Sp} {x : Str} {p pos : Pos} {e : PySem.Expr} {es : List PySem.Expr} {t : TA}
theorem run_g {pins : List (Addr × Obj)} {σ : L2.St} {H : Hp} {s : Shared} {Q : VK} {us : List Value} {vs : List V} (F : FnG X.prog X.w X.K X.mg X.base k f fd ps sp) (hr : Room k X.A) (hg : X.A.guards = some []) (hb : Binds X.K fd ps [])
    (I : Inv X pins σ H s) (r : Vals vs us) (h : sp vs H Q E0) : wpAny (model X.prog X.w) X.A (call (.ref f) us) (EP X pins σ Q) X.xe s := by
  have hl : (us ++ []).length = ps.length := by
    rw [List.append_nil, ← r.length]
    exact F.len _ _ _ _ h
  have hbind := hb s us I.kIn hl
  rw [List.append_nil] at hbind
  refine wpAny_call (codeAny_mono (F.run X.A X.stack s H ⟨us, []⟩ us vs Q hr hg I.env0 hbind r h) fun res s2 out => ?_)
  cases res with
  | error e => exact False.elim out
  | ok fl => cases fl with
    | ret u => exact I.after out
    | next => exact False.elim out
    | brk => exact False.elim out
    | cont => exact False.elim out
theorem pe_callG (F : FnG X.prog X.w X.K X.mg X.base k f fd ps sp) (hr : Room k X.A) (hgd : X.A.guards = some []) (hg : Gl X x) (hm : X.mg x = some (.ref f)) (hk : PySem.W.keepIn X.K (.ref f) = true) (hb : Binds X.K fd ps [])
    (ha : PA X (e :: es) t) (hdb : (x == ("__debug__" : Str)) = false) (he : starEach (e :: es) X.env = (false, eval e X.env) :: starEach es X.env) (hpl : (backTo pos (starEach es X.env)).any (·.1) = false) :
    PE X (.Call (.Name x p) (e :: es) [] pos) (fun σ H Q => t σ H fun vs H1 => sp vs H1 Q E0) := by
  constructor
  intro pins s σ H Q I h
  refine wpAny_Call_Name_kw (ld_glob I hg hm ?_ hdb)
  refine PySem.W.callWith_K (h₀ := X.base) I.ok.mod.kin hk (thn (ha.run pos pins s σ H _ I h) ?_) he hpl
  rintro us s1 ⟨vs, H1, I1, r, q⟩
  exact ⟨I1.kIn, run_g F hr hgd hb I1 r q⟩
end
end
/-! PDf: is a compact body the body as written? -/
section
open PySem L2
variable [Tb]

def visB (sc : Scope) (x : Str) : Bool := match sc.names.lookup x with
  | some .local => true | some .cell => true | some .free => true | _ => false
def locB (sc : Scope) (x : Str) : Bool := match sc.names.lookup x with
  | some .local => true | some .cell => true | _ => false
def glB (sc : Scope) (x : Str) : Bool := match sc.names.lookup x with
  | some .globalImplicit => true | _ => false
def okName (x : Str) : Bool := !(x == ("__debug__" : Str)) && !(x == ("__classdict__" : Str)) && !(x == ("__name__" : Str))
def varOk (N : List Str) (sc : Scope) (i : Nat) (x : Str) : Bool := decide (N[i]? = some x) && visB sc x && okName x
def chkVs (N : List Str) (sc : Scope) : List Nat → List PySem.Expr → Bool
  | [], [] => true
  | i :: r, .Name x _ :: xs => varOk N sc i x && chkVs N sc r xs
  | _, _ => false
def unB : PySem.Expr → PySem.Expr
  | .BoolOp _ [y] _ => y
  | x => x
def notStar : PySem.Expr → Bool
  | .Starred .. => false | _ => true
def notSlice : PySem.Expr → Bool
  | .Slice .. => false | _ => true
def notSet : PySem.Expr → Bool
  | .Set .. => false | _ => true
def cstOk : D → Const → Bool
  | .none, .none => true
  | .bool a, .bool b => a == b
  | .int a, .int b => decide (a = b)
  | .str a, .str b => decide (a = b)
  | _, _ => false
/-- a built-in by its name: its value -/
def primName : Prim → Option (Str × Bool × String)
  | .len => some ("len", false, "len") | .tuple => some ("tuple", true, "tuple") | .tupleH => some ("tuple", true, "tuple") | .list => some ("list", true, "list") | .sorted => some ("sorted", false, "sorted")
  | .sum => some ("sum", false, "sum") | .max => some ("max", false, "max") | .min => some ("min", false, "min") | .abs => some ("abs", false, "abs")
  | .all => some ("all", false, "all") | .any => some ("any", false, "any") | .int => some ("int", true, "int") | .repr => some ("repr", false, "repr")
  | .dictOf => some ("dict", true, "dict")
  | _ => none
def methS : Prim → Option Str
  | .index => some "index"
  | _ => none
/-- what a method is asked of -/
def plainO : PySem.Expr → Bool
  | .Name .. => true | .Subscript .. => true
  | _ => false
def tyS : Ty → Str
  | .int => "int" | .bool => "bool" | .str => "str" | .list => "list" | .tuple => "tuple" | .dict => "dict"
/-- the plain names of a test, by truth -/
def isTup : PySem.Expr → Bool
  | .Tuple .. => true
  | _ => false
def plainTest : PySem.Expr → Bool
  | .Name .. => true | .Call .. => true | .Subscript .. => true | .BinOp .. => true | .List .. => true | .Tuple .. => true | .ListComp .. => true | .Constant .. => true | _ => false
def isCmp : E → Bool
  | .cmp .. => true | .chain .. => true | _ => false

mutual
/-- the target of a for: names -/
def chkG (N : List Str) (sc : Scope) (own : Str → Bool) : G → PySem.Expr → Bool
  | .v i, .Name x _ => decide (N[i]? = some x) && locB sc x && own x
  | .tup gs, .Tuple es _ _ => chkGs N sc own gs es
  | _, _ => false
def chkGs (N : List Str) (sc : Scope) (own : Str → Bool) : List G → List PySem.Expr → Bool
  | [], [] => true
  | g :: gs, e :: es => chkG N sc own g e && chkGs N sc own gs es
  | _, _ => false
end
mutual
def gSlots : G → List Nat
  | .v i => [i]
  | .tup gs => gsSlots gs
def gsSlots : List G → List Nat
  | [] => []
  | g :: gs => gSlots g ++ gsSlots gs
end
mutual
def gNames : PySem.Expr → List Str
  | .Name x _ => [x]
  | .Tuple es _ _ => gsNames es
  | _ => []
def gsNames : List PySem.Expr → List Str
  | [] => []
  | e :: es => gNames e ++ gsNames es
end
def fnB (scope : Scope) (x : Str) : Bool := (scope.names.lookup x == some .cell) || (scope.names.lookup x == some .local)

section
variable (N : List Str) (tb : List (Str × Nat))
mutual
def chkE : E → Scope → PySem.Expr → Bool
  | .var i, sc, z => (match z with
    | .Name x _ => varOk N sc i x
    | _ => false)
  | .cst d, _, z => (match z with
    | .Constant c _ _ => cstOk d c
    | _ => false)
  | .bin op a b, sc, z => (match z with
    | .BinOp l o r _ => decide (bopF op = o) && chkE a sc l && chkE b sc r
    | _ => false)
  | .neg a, sc, z => (match z with
    | .UnaryOp .USub x _ => chkE a sc x
    | _ => false)
  | .not a, sc, z => (match z with
    | .UnaryOp .Not x _ => chkE a sc x
    | _ => false)
  | .and a b, sc, z => (match z with
    | .BoolOp .And (x :: y :: r) p => chkE a sc x && chkE b sc (unB (.BoolOp .And (y :: r) p))
    | _ => false)
  | .or a b, sc, z => (match z with
    | .BoolOp .Or (x :: y :: r) p => chkE a sc x && chkE b sc (unB (.BoolOp .Or (y :: r) p))
    | _ => false)
  | .cmp op a b, sc, z => (match z with
    | .Compare l [o] [r] _ => decide (copF op = o) && chkE a sc l && chkE b sc r && notSet r
    | _ => false)
  | .chain o1 o2 a b c, sc, z => (match z with
    | .Compare l [p, q] [x, y] _ => decide (copF o1 = p) && decide (copF o2 = q) && chkE a sc l && chkE b sc x && chkE c sc y && notSet y
    | _ => false)
  | .ife c a b, sc, z => (match z with
    | .IfExp t x y _ => chkT c sc t && chkE a sc x && chkE b sc y
    | _ => false)
  | .tup es, sc, z => (match z with
    | .Tuple xs _ _ => chkEs es sc xs
    | _ => false)
  | .tupH es, sc, z => (match z with
    | .Tuple xs _ _ => chkEs es sc xs
    | _ => false)
  | .lst es, sc, z => (match z with
    | .List xs _ => chkEs es sc xs
    | _ => false)
  | .dnew, _, z => (match z with
    | .Dict [] [] _ => true
    | _ => false)
  | .idx a i, sc, z => (match z with
    | .Subscript x y _ => notSlice y && chkE a sc x && chkE i sc y
    | _ => false)
  | .slc a lo hi, sc, z => (match z with
    | .Subscript x (.Slice l h none _) _ => chkE a sc x && chkEo lo sc l && chkEo hi sc h
    | _ => false)
  | .rev a, sc, z => (match z with
    | .Subscript x (.Slice none none (some (.UnaryOp .USub (.Constant (.int 1) _ _) _)) _) _ => chkE a sc x
    | _ => false)
  | .rev0 a, sc, z => (match z with
    | .Subscript x (.Slice none (some (.Constant (.int 0) _ _)) (some (.UnaryOp .USub (.Constant (.int 1) _ _) _)) _) _ => chkE a sc x
    | _ => false)
  | .call f as, sc, z => (match z with
    | .Call (.Name x _) xs [] _ => (match tb[f]? with | some (nm, np) => decide (nm = x) && glB sc x && okName x && !(xs.isEmpty) && chkEs as sc xs && xs.all notStar && decide (xs.length = np) | none => false)
    | _ => false)
  | .prim p as, sc, z => (match z with
    | .Call (.Name x _) xs [] _ => (match primName p with | some (nm, _, _) => decide (nm = x) && glB sc x && !(xs.isEmpty) && chkEs as sc xs && xs.all notStar | none => false)
    | _ => false)
  | .lc vs g it c elt, sc, z => (match z with
    | .ListComp x [⟨tg, iter, ifs, 0⟩] scope _ =>      blkC N sc scope ((gNames tg).zip vs) && decide (vs = gSlots g) && decide ((gNames tg).length = vs.length) && chkG N (relS scope sc) (fnB scope) g tg && chkIt (isTup tg) it sc iter && chkTo c (relS scope sc) ifs && chkE elt (relS scope sc) x
    | _ => false)
  | .isi a ts, sc, z => (match z with
    | .Call (.Name f _) [x, .Name tn _] [] _ => (match ts with
      | [t] => decide (f = ("isinstance" : Str)) && glB sc f && decide (tn = tyS t) && glB sc tn && notStar x && chkE a sc x
      | _ => false)
    | _ => false)
  | .rg t lo hi, sc, z => (match z with
    | .Call (.Name x _) [.Call (.Name y _) xs [] _] [] _ => decide (x = (if t then ("tuple" : Str) else ("list" : Str))) && glB sc x && decide (y = ("range" : Str)) && glB sc y && (match lo, xs with
      | .no, [h] => chkE hi sc h && notStar h
      | .yes l, [a, h] => chkE l sc a && chkE hi sc h && notStar a && notStar h
      | _, _ => false)
    | _ => false)
  | .sset a, sc, z => (match z with
    | .Call (.Name f _) [.Call (.Name g _) [x] [] _] [] _ => decide (f = ("sorted" : Str)) && glB sc f && decide (g = ("set" : Str)) && glB sc g && notStar x && chkE a sc x
    | _ => false)
  | .lck vs g i c elt, sc, z => (match z with
    | .ListComp x [⟨tg, .Name nm _, ifs, 0⟩] scope _ => blkC N sc scope ((gNames tg).zip vs) && decide (vs = gSlots g) && decide ((gNames tg).length = vs.length) && chkG N (relS scope sc) (fnB scope) g tg && varOk N sc i nm && chkTo c (relS scope sc) ifs && chkE elt (relS scope sc) x
    | _ => false)
  | .dc vs g it c k v, sc, z => (match z with
    | .DictComp x y [⟨tg, iter, ifs, 0⟩] scope _ => blkC N sc scope ((gNames tg).zip vs) && decide (vs = gSlots g) && decide ((gNames tg).length = vs.length) && chkG N (relS scope sc) (fnB scope) g tg && chkIt (isTup tg) it sc iter && chkTo c (relS scope sc) ifs && chkE k (relS scope sc) x && chkE v (relS scope sc) y
    | _ => false)
  | .repl is, sc, z => (match z with
    | .Call (.Name x _) [.List xs _] [] _ => decide (x = ("repr" : Str)) && glB sc x && chkVs N sc is xs
    | _ => false)
  | .dead, _, x => (match x with
    | .ListComp .. => false
    | .SetComp .. => false
    | .DictComp .. => false
    | _ => true)
  | .meth p a as, sc, z => (match z with
    | .Call (.Attribute o m ap) [x] [] cp => decide (methS p = some m) && (ap.endLine == cp.line) && notStar x && plainO o && chkE a sc o && chkEs as sc [x]
    | _ => false)
  | .disp _ ps, sc, z => (match z with
    | .Dict ks vs _ => ks.all (·.isSome) && decide (ks.length = vs.length) && !(ks.isEmpty) && decide (ks.length ≤ 15) && chkPs ps sc ks vs
    | _ => false)
  | _, _, _ => false
def chkPs : Ps → Scope → List (Option PySem.Expr) → List PySem.Expr → Bool
  | .nil, _, ks, vs => ks.isEmpty && vs.isEmpty
  | .cons k v r, sc, ks, vs => (match ks, vs with
    | some x :: ks, y :: vs => chkE k sc x && chkE v sc y && chkPs r sc ks vs
    | _, _ => false)
def chkT : T → Scope → PySem.Expr → Bool
  | .and a b, sc, z => (match z with
    | .BoolOp .And (x :: y :: r) p => chkT a sc x && chkT b sc (unB (.BoolOp .And (y :: r) p))
    | _ => false)
  | .or a b, sc, z => (match z with
    | .BoolOp .Or (x :: y :: r) p => chkT a sc x && chkT b sc (unB (.BoolOp .Or (y :: r) p))
    | _ => false)
  | .not a, sc, z => (match z with
    | .UnaryOp .Not x _ => chkT a sc x
    | _ => false)
  | .e a, sc, x => chkE a sc x && (plainTest x || isCmp a)
def chkTo : To → Scope → List PySem.Expr → Bool
  | .no, _, z => (match z with
    | [] => true
    | _ => false)
  | .yes c, sc, z => (match z with
    | [x] => chkT c sc x
    | _ => false)
def chkEs : Es → Scope → List PySem.Expr → Bool
  | .nil, _, z => (match z with
    | [] => true
    | _ => false)
  | .cons e r, sc, z => (match z with
    | x :: xs => notStar x && chkE e sc x && chkEs r sc xs
    | _ => false)
  | .star e r, sc, z => (match z with
    | .Starred x _ :: xs => chkE e sc x && chkEs r sc xs
    | _ => false)
def chkEo : Eo → Scope → Option PySem.Expr → Bool
  | .no, _, z => (match z with
    | none => true
    | _ => false)
  | .yes e, sc, z => (match z with
    | some x => chkE e sc x
    | _ => false)
def chkIt (tp : Bool) : It → Scope → PySem.Expr → Bool
  | .val e, sc, x => chkE e sc x && notSet x
  | .rng lo hi, sc, z => (match z with
    | .Call (.Name y _) xs [] _ => decide (y = ("range" : Str)) && glB sc y && (match lo, xs with
      | .no, [h] => chkE hi sc h && notStar h
      | .yes l, [a, h] => chkE l sc a && chkE hi sc h && notStar a && notStar h
      | _, _ => false)
    | _ => false)
  | .zip e f, sc, z => (match z with
    | .Call (.Name y _) [u, v] [] _ => tp && decide (y = ("zip" : Str)) && glB sc y && chkE e sc u && chkE f sc v && notStar u && notStar v
    | _ => false)
  | .enum e, sc, z => (match z with
    | .Call (.Name y _) [u] [] _ => tp && decide (y = ("enumerate" : Str)) && glB sc y && chkE e sc u && notStar u
    | _ => false)
  | .rng3 lo hi st, sc, z => (match z with
    | .Call (.Name y _) [a, c, d] [] _ => decide (y = ("range" : Str)) && glB sc y && chkE lo sc a && chkE hi sc c && chkE st sc d && notStar a && notStar c && notStar d
    | _ => false)
  | _, _, _ => false
end
end

/-- one parameter, lot -/
def lamPs : Arguments → Bool
  | ⟨[], [⟨a, none, _⟩], none, [], [], none, []⟩ => decide (a = ("lot" : Str))
  | _ => false
def lamSc (sc : Scope) : Bool := decide (sc.kind = .function) && !sc.isCoroutine && !sc.isGenerator && (sc.names.all fun y => !decide (y.2 = .cell) && !decide (y.2 = .free)) && decide (sc.names.lookup ("lot" : Str) = some .local) && decide (sc.names.lookup ("len" : Str) = some .globalImplicit)
/-- the lambda's body: len(lot) (false), (len(lot), lot) (true) -/
def lamBody : Bool → PySem.Expr → Bool
  | false, .Call (.Name g _) [.Name y _] [] _ => decide (g = ("len" : Str)) && decide (y = ("lot" : Str))
  | true, .Tuple [.Call (.Name g _) [.Name y _] [] _, .Name z _] _ _ => decide (g = ("len" : Str)) && decide (y = ("lot" : Str)) && decide (z = ("lot" : Str))
  | _, _ => false
def chkK (N : List Str) (tb : List (Str × Nat)) (a : E) (w : Nat) (sc : Scope) (z : PySem.Expr) : Bool := match z with
  | .Call (.Name f _) [x] [⟨some k, .Lambda ps body scope _, _⟩] _ => decide (f = ("sorted" : Str)) && glB sc f && notStar x && chkE N tb a sc x && decide (k = ("key" : Str)) && lamPs ps && lamSc scope && lamBody (w == 1) body
  | _ => false
/-- an expression that stands by itself: sorted by a key, or any -/
def chkX (N : List Str) (tb : List (Str × Nat)) (e : E) (sc : Scope) (z : PySem.Expr) : Bool := chkE N tb e sc z || (match e with
  | .srt a w _ => chkK N tb a w sc z
  | _ => false)
theorem chkX_or {N : List Str} {tb : List (Str × Nat)} {e : E} {sc : Scope} {z : PySem.Expr} (h : chkX N tb e sc z = true) : chkE N tb e sc z = true ∨ ∃ a w k, e = .srt a w k ∧ chkK N tb a w sc z = true := by
  unfold chkX at h
  rw [Bool.or_eq_true] at h
  rcases h with h | h
  · exact .inl h
  · split at h
    · exact .inr ⟨_, _, _, rfl, h⟩
    · cases h
/-- what a context must have for a text over the defs tb, called as C says -/
def spC (C : Calls) (f : Nat) : Sp := fun vs H Q E => ∃ (S : Src) (P : Zn) (bs : List B) (Q0 : D → Prop), (∀ a, S.dom a → P a) ∧ Fit P H ∧ S.inv H ∧ RpAs S P H vs bs ∧ C f bs Q0 ∧
  ∀ d, Q0 d → ∀ v H', Ext S.dom H H' → S.inv H' → Rp P H' v d → Q v H'
structure Good (tb : List (Str × Nat)) (C : Calls) (X : Cx) : Prop where
  nd : X.N.Nodup
  calm : X.calm = true
  units : X.A.units + 64 < cLine
  grd : X.A.guards = some []
  smod : ∃ o, X.base.get? sysModules = some o
  blt : ∀ x ∈ (["len", "tuple", "list", "sorted", "sum", "max", "min", "abs", "all", "any", "int", "repr", "range", "isinstance", "dict", "zip", "enumerate", "reversed", "str", "set", "bool"] : List Str), X.mg x = none
  ar : ∀ (f : Nat) (nm : Str) (np : Nat), tb[f]? = some (nm, np) → ∀ bs Q, C f bs Q → bs.length = np
  fns : ∀ (f : Nat) (nm : Str) (np : Nat), tb[f]? = some (nm, np) → ∃ k a fd ps, Room k X.A ∧ X.mg nm = some (.ref a) ∧ PySem.W.keepIn X.K (.ref a) = true ∧ Binds X.K fd ps [] ∧ FnG X.prog X.w X.K X.mg X.base k a fd ps (spC C f)
theorem Good.blk {tb : List (Str × Nat)} {C : Calls} {X : Cx} (G : Good tb C X) (s : Shared) (H : Hp) (scope : Scope) (cenv : PySem.Env) (fp : List Addr) : Good tb C (X.blk s H scope cenv fp) :=
  ⟨G.nd, G.calm, G.units, G.grd, G.smod, G.blt, G.ar, G.fns⟩
end
/-! PDg: expressions are as their compact forms say: single rules. -/
section
open PySem L2
variable [Tb]

section
variable {C : Calls} {X : Cx} {tb : List (Str × Nat)}
theorem fresh_trans {S : Src} {H H1 : Hp} (i : S.inv H1) (e : Ext S.dom H H1) {p : Addr} (np : H1 p = none) : H p = none := by
  cases hp : H p with
  | none => rfl
  | some o =>
    by_cases z : S.dom p
    · obtain ⟨o', q', _⟩ := (S.fit H1 i).dom p z
      rw [np] at q'; cases q'
    · have := e p o hp z
      rw [np] at this; cases this
theorem Fresh.back {S : Src} {N : Zn} {H H1 H' : Hp} {v : V} {d : D} (f : Fresh N H1 H' v d) (i : S.inv H1) (e : Ext S.dom H H1) : Fresh N H H' v d :=
  let ⟨p, ep, np, rb⟩ := f; ⟨p, ep, fresh_trans i e np, rb⟩
theorem var_of {N : List Str} {i : Nat} {x : Str} {pos : Pos} (hN : X.N = N) (h : varOk N X.env.scope i x = true) : PE X (.Name x pos) (tVar i) := by
  subst hN
  unfold varOk okName at h
  simp only [Bool.and_eq_true, decide_eq_true_eq, Bool.not_eq_true'] at h
  refine pe_var h.1.1 ?_ h.2.1.1 h.2.1.2
  have h2 := h.1.2
  unfold visB at h2
  unfold Vis
  split at h2 <;> first | exact .inl (by assumption) | exact .inr (.inl (by assumption)) | exact .inr (.inr (by assumption)) | cases h2
theorem ev_var {i : Nat} {x : PySem.Expr} (h : PE X x (tVar i)) : PE X x (tE C (.var i)) := PE.weak h fun σ H Q ⟨S, P, ρ, Q0, R, ⟨d, e, q0⟩, q⟩ => by
  unfold look at e
  split at e <;> cases e
  rename_i hd
  obtain ⟨v, hv, r⟩ := R.sh i _ hd
  exact ⟨v, hv, q _ q0 v H Ext.refl R.inv r (fun z => nomatch z)⟩
theorem bo_var {i : Nat} {x : PySem.Expr} (h : PE X x (tVar i)) : PE X x (tBo C (.var i)) := PE.weak h fun σ H Q ⟨S, P, ρ, Q0, R, ⟨d, e, q0⟩, q⟩ => by
  unfold lookB at e
  split at e <;> cases e
  · rename_i hd
    obtain ⟨v, hv, r⟩ := R.sh i _ hd
    exact ⟨v, hv, q _ q0 v H Ext.refl R.inv (r.toS R.fit R.domN)⟩
  · rename_i hd
    obtain ⟨a, hv, _, r, n⟩ := R.own i _ hd
    exact ⟨_, hv, q _ q0 _ H Ext.refl R.inv ⟨r, fun b e z => by cases e; exact n (R.sub _ z)⟩⟩
theorem bo_of {e : E} {x : PySem.Expr} (hv : ∀ i, e = .var i → PE X x (tVar i)) (h : PE X x (tE C e)) : PE X x (tBo C e) := by
  by_cases z : ∃ i, e = .var i
  · obtain ⟨i, rfl⟩ := z
    exact bo_var (hv i rfl)
  · refine PE.weak h fun σ H Q ⟨S, P, ρ, Q0, R, h, q⟩ => ⟨S, P, ρ, Q0, R, ?_, fun d hd v H' e i r _ => q d hd v H' e i (r.toS (R.ext e i).fit R.domN)⟩
    cases e <;> first | exact h | exact absurd ⟨_, rfl⟩ z
theorem ev_cst {d : D} {c : Const} {k : Nat} {p : Pos} (h : cstOk d c = true) : PE X (.Constant c k p) (tE C (.cst d)) := by
  cases d <;> cases c <;> simp only [cstOk, decide_eq_true_eq, beq_iff_eq] at h <;> first | cases h | skip
  · exact PE.weak pe_non fun σ H Q ⟨S, P, ρ, Q0, R, h, q⟩ => q _ h _ H Ext.refl R.inv .non (fun z => nomatch z)
  · exact PE.weak pe_bl fun σ H Q ⟨S, P, ρ, Q0, R, h, q⟩ => q _ h _ H Ext.refl R.inv (.bl _) (fun z => nomatch z)
  · exact PE.weak pe_int fun σ H Q ⟨S, P, ρ, Q0, R, h, q⟩ => q _ h _ H Ext.refl R.inv (.int _) (fun z => nomatch z)
  · exact PE.weak pe_str fun σ H Q ⟨S, P, ρ, Q0, R, h, q⟩ => q _ h _ H Ext.refl R.inv (.str _) (fun z => nomatch z)
theorem ev_bin {op : BOp} {a b : E} {x y : PySem.Expr} {p : Pos} (ha : PE X x (tBo C a)) (hb : PE X y (tBo C b)) : PE X (.BinOp x (bopF op) y p) (tE C (.bin op a b)) :=
  PE.weak (pe_op (op2_bin op) ha hb) fun σ H Q h => w_op2 h
theorem ev_cmp (hu : X.A.units + 64 < cLine) {op : COp} {a b : E} {x y : PySem.Expr} {p : Pos} (ha : PE X x (tBo C a)) (hb : PE X y (tBo C b)) (hs : notSet y = true) : PE X (.Compare x [copF op] [y] p) (tE C (.cmp op a b)) :=
  PE.weak (pe_cmpR (op2_cop hu op) ha hb (by cases y <;> first | rfl | cases hs)) fun σ H Q h => w_op2 h
theorem truV_of {N : Zn} {H : Hp} {K : PySem.W.Frag} {v : V} {d : D} {k : Bool} (r : RpB N H v d) (h : truD d = some k) : TruV K v H k := by
  cases d with
  | none => cases r.non_of; cases h; rfl
  | bool b => cases r.bl_of; cases h; rfl
  | int i => cases r.int_of; cases h; rfl
  | str x =>
    cases r.str_of
    simp only [truD] at h
    split at h <;> cases h
    exact ⟨by assumption, rfl⟩
  | list xs =>
    obtain ⟨a, ys, rfl, ha, rr⟩ := r.list_of
    cases h
    exact .inl ⟨ys, SqL.of ha, by cases rr <;> rfl⟩
  | tuple xs =>
    obtain ⟨a, ys, rfl, ha, rr⟩ := r.tup_of
    cases h
    exact .inr (.inl ⟨ys, SqT.of ha, by cases rr <;> rfl⟩)
  | dict kvs =>
    simp only [truD] at h
    split at h <;> cases h
    rename_i hk
    obtain ⟨a, rfl, ⟨ks, es, ha, rr, rfl⟩ | ⟨ks, es, hne, ha, rr, rfl⟩⟩ := r.dict_of (nmK_of_kind hk)
    · refine .inr (.inr ⟨ks, ha, ?_⟩)
      have := rr.length
      cases ks <;> cases es <;> simp at this ⊢
    · have hl : ks.length = es.length := by simpa using rr.length
      exact absurd (kindOk_T (k := .inl 0) hl hk) hne
end
end
set_option maxHeartbeats 4000000
/-! PDrt: a list or a tuple turned about, x[::-1]. -/
section
open PySem L2 PySem.Spec PyProof.Rows
variable [Tb]
section
variable {P : Program} {w : World} {A : Around} {E : Value → Shared → Prop} {s : Shared}
theorem places_down (n : Nat) : Builtin.Slice.slicePlaces ((n : Int) - 1) (-1) (-1) = n := by
  unfold Builtin.Slice.slicePlaces
  rw [if_neg (by decide)]
  by_cases h : n = 0
  · subst h; rfl
  · rw [if_pos (by omega)]
    have : ((n : Int) - 1 - -1 - 1) / (- -1) = (n : Int) - 1 := by
      rw [show (- -1 : Int) = 1 by decide, Int.ediv_one]; omega
    rw [this]; omega
theorem pick_down (xs : Array Value) : ((List.range xs.size).filterMap fun (m : Nat) => xs[(((xs.size : Int) - 1) + (m : Int) * (-1)).toNat]?).toArray = xs.toList.reverse.toArray := by
  congr 1
  have e : (List.range xs.size).filterMap (fun (m : Nat) => xs[(((xs.size : Int) - 1) + (m : Int) * (-1)).toNat]?) = ((List.range xs.size).map fun k => xs.size - 1 - k).filterMap (xs[·]?) := by
    rw [List.filterMap_map]
    have h : ∀ l : List Nat, (∀ m ∈ l, m < xs.size) → l.filterMap (fun (m : Nat) => xs[(((xs.size : Int) - 1) + (m : Int) * (-1)).toNat]?) = l.filterMap ((fun x => xs[x]?) ∘ fun k => xs.size - 1 - k) := by
      intro l
      induction l with
      | nil => intro _; rfl
      | cons m l ih =>
        intro hm
        have h1 := hm m (List.mem_cons_self ..)
        have e : (((xs.size : Int) - 1) + (m : Int) * (-1)).toNat = xs.size - 1 - m := by omega
        rw [List.filterMap_cons, List.filterMap_cons, ih fun x hx => hm x (List.mem_cons_of_mem _ hx), e]; rfl
    exact h _ fun m hm => List.mem_range.mp hm
  rw [e, PySem.W.krv_range, List.filterMap_reverse, PySem.W.krv_all]
theorem applied_down {sl : Addr} {v1 v2 v3 : Value} {n : Nat} {Q : Int × Int × Nat → Shared → Prop} (hs : s.heap.IsSliceOf sl v1 v2 v3) (p1 : IsPart v1 none) (p2 : IsPart v2 none) (p3 : IsPart v3 (some (-1)))
    (q : Q ((n : Int) - 1, -1, n) s) : wpAny (model P w) A (Builtin.Slice.sliceApplied (.ref sl) (pure (n : Int))) Q E s := by
  obtain ⟨ob, hob, _, hfs⟩ := id hs
  unfold Builtin.Slice.sliceApplied Builtin.Slice.sliceFields
  refine wpAny_bind (wpAny_bind (wpAny_field hob hfs (x := v1) rfl (wpAny_bind (wpAny_field hob hfs (x := v2) rfl (wpAny_bind (wpAny_field hob hfs (x := v3) rfl (wpAny_pure ?_)))))))
  refine wpAny_bind (HT.slicePart_ p3 ?_)
  show wpAny _ _ (if ((-1 : Int) == 0) = true then _ else _) _ _ s
  rw [if_neg (by decide)]
  refine wpAny_bind (HT.slicePart_ p1 (wpAny_bind (HT.slicePart_ p2 (wpAny_bind (wpAny_pure ?_)))))
  show wpAny _ _ (pure ((n : Int) - 1, (-1 : Int), Builtin.Slice.slicePlaces ((n : Int) - 1) (-1) (-1))) _ _ s
  rw [places_down]
  exact wpAny_pure q
theorem item_tup_down {t sl : Addr} {its : Array Value} {v1 v2 v3 : Value} {Q : Value → Shared → Prop} (ht : IsTup s.heap t its) (hs : s.heap.IsSliceOf sl v1 v2 v3) (p1 : IsPart v1 none) (p2 : IsPart v2 none) (p3 : IsPart v3 (some (-1)))
    (q : Q (.ref s.heap.objs.size) { s with heap := s.heap.push { cls := .type "tuple", data := .seq its.toList.reverse.toArray } }) (hz : its.size ≤ sizeLine) : wpAny (model P w) A (getItem (.ref t) (.ref sl)) Q E s := by
  have fits : sizeOk (.seq its.toList.reverse.toArray) := by
    show its.toList.reverse.toArray.size ≤ sizeLine
    rw [List.size_toArray, List.length_reverse, Array.length_toList]; exact hz
  obtain ⟨ob, hob, hcl, _⟩ := id hs
  have ty : s.TypeIs (.ref sl) "slice" := ⟨ob, hob, hcl⟩
  unfold getItem
  try with_reducible refine wpAny_holding ?_
  first | refine wpAny_bind (wpAny_pure ?_) | skip
  refine wpAny_bind (wpAny_sequenceKey ht.typeIs (by decide) ?_)
  refine wpAny_bind (wpAny_callSpecial?_slot (name := Str.ofString "__getitem__") ht.typeIs PyProof.Rows.slot_tuple_getitem
    (wpAny_call_entry PyProof.Rows.slot_tuple_getitem ht.typeIs PyProof.Rows.entry_tuple_getitem ?_ (PyProof.Rows.args_tuple_getitem _ _)))
  show wpAny _ _ (Builtin.Tuple.tupleItemsOf (.ref t) >>= _) _ _ s
  refine wpAny_bind (tupleItemsOf_ ht ?_)
  refine wpAny_bind (wpAny_typeOf ty ?_)
  rw [if_pos (by decide)]
  refine wpAny_bind (applied_down hs p1 p2 p3 ?_)
  show wpAny _ _ (if ((((its.size : Int) - 1) == 0 && (-1 : Int) == 1 && its.size == its.size)) = true then _ else _) _ _ s
  rw [if_neg (by simp), pick_down]
  first
    | exact wpAny_bind (m := Builtin.Tuple.tupleExact _) (wpAny_newObj_type (wpAny_pure ⟨_, rfl, wpAny_pure q⟩) fits)
    | exact wpAny_bind (m := Builtin.Tuple.tupleExact _) (wpAny_newObj_type (wpAny_bind (wpAny_pure (wpAny_pure ⟨_, rfl, wpAny_pure q⟩))) fits)
    | exact wpAny_bind (wpAny_bind (m := Builtin.Tuple.tupleExact _) (wpAny_newObj_type (wpAny_pure (wpAny_pure ⟨_, rfl, wpAny_pure q⟩)) fits))
    | exact wpAny_bind (wpAny_bind (m := Builtin.Tuple.tupleExact _) (wpAny_newObj_type (wpAny_pure ⟨_, rfl, wpAny_pure q⟩) fits))
end
section
variable {X : Cx}
/-- x[::-1], a list or a tuple -/
def tRevA (K : PySem.W.Frag) (te : TE) : TE := fun σ H Q => te σ H fun x H1 => ∃ a xs, x = .ref a ∧ ((SqL K H1 a xs ∧ ∀ p, H1 p = none → Q (.ref p) (upd H1 p (.lst xs.reverse))) ∨ (SqT K H1 a xs ∧ ∀ p, H1 p = none → Q (.ref p) (upd H1 p (.tup xs.reverse))))
theorem pe_revA {e : PySem.Expr} {te : TE} {k : Nat} {p1 p2 p3 pos : Pos} (he : PE X e te) : PE X (.Subscript e (.Slice none none (some (.UnaryOp .USub (.Constant (.int 1) k p1) p2)) p3) pos) (tRevA X.K te) := by
  constructor
  intro pins s σ H Q I h
  refine Subscript_ (thn (he.run pins s σ H _ I h) fun v u1 ⟨x, H1, I1, r1, a, xs, ex, hx⟩ => ?_)
  subst ex
  cases r1
  have back : PO X (some (.UnaryOp .USub (.Constant (.int 1) k p1) p2)) (tPart (tUn (rU fun i => .int (-i)) (tC (.int 1)))) := po_some (pe_un un_neg pe_int)
  refine wpAny_Slice (thn (po_none.run pins u1 σ H1 (fun o K => o = none ∧ K = H1) I1 ⟨rfl, rfl⟩) fun vl u2 ⟨l, H2, I2, pl, el, e2⟩ => ?_)
  subst el e2
  refine thn (po_none.run pins u2 σ H2 (fun o K => o = none ∧ K = H2) I2 ⟨rfl, rfl⟩) fun vu u3 ⟨u, H3, I3, pu, eu, e3⟩ => ?_
  subst eu e3
  refine thn (back.run pins u3 σ H3 (fun o K => o = some (-1) ∧ K = H3) I3 ⟨1, rfl, -1, rfl, rfl, rfl⟩) fun vs u4 ⟨o, H4, I4, pst, eo, e4⟩ => ?_
  subst eo e4
  have I5 : Inv X pins σ H4 { u4 with heap := u4.heap.push { cls := .type "slice", data := .fields #[vl, vu, vs] } } := I4.kept (t' := u4.toks) fun _ _ q => Heap.get?_push_of_some _ q
  show wpAny (model X.prog X.w) X.A (subscriptTail e (.Slice none none (some (.UnaryOp .USub (.Constant (.int 1) k p1) p2)) p3) (.ref a) (.ref u4.heap.objs.size)) (EP X pins σ Q) X.xe { u4 with heap := u4.heap.push { cls := .type "slice", data := .fields #[vl, vu, vs] } }
  rcases hx with ⟨hl, q⟩ | ⟨ht, q⟩
  · obtain ⟨its, r, pl5, hz⟩ := I5.list hl
    have hlen := r.length
    refine tail_any (ops := [.ref a, .ref u4.heap.objs.size]) pl5.isList.typeIs (PySem.slot_list_getitem.lookup) ?_ (by with_unfolding_all rfl)
    refine wpAny_getItem_list_slice pl5.isList (Heap.IsSliceOf.new _ vl vu vs) pl pu pst (by decide) ?_ (by rw [List.size_toArray]; omega)
    rw [PySem.W.krv_pick]
    refine ⟨.ref _, _, I5.laid (t' := u4.toks) (o := .lst xs.reverse) (fun _ _ q => Heap.get?_push_of_some _ q) (Nat.le_refl _) ?_, rfl, q _ (I5.hok.fresh (Nat.le_refl _))⟩
    exact ⟨by rw [List.length_reverse]; exact hz, _, 0, r.reverse, Heap.get?_push_size _ rfl⟩
  · obtain ⟨its, r, it5, hz⟩ := I5.tuple ht
    have hlen := r.length
    refine tail_any (ops := [.ref a, .ref u4.heap.objs.size]) it5.typeIs (PyProof.Rows.slot_tuple_getitem.lookup) ?_ (by with_unfolding_all rfl)
    refine item_tup_down it5 (Heap.IsSliceOf.new _ vl vu vs) pl pu pst ?_ (by rw [List.size_toArray]; omega)
    refine ⟨.ref _, _, I5.laid (t' := u4.toks) (o := .tup xs.reverse) (fun _ _ q => Heap.get?_push_of_some _ q) (Nat.le_refl _) ?_, rfl, q _ (I5.hok.fresh (Nat.le_refl _))⟩
    refine ⟨by rw [List.length_reverse]; exact hz, its.reverse, r.reverse, ?_⟩
    have : its.toArray.toList.reverse.toArray = its.reverse.toArray := by simp
    rw [this]
    exact IsTup.new _ _
end
end
set_option maxHeartbeats 4000000
/-! PDr0: a tuple from its end down to its second item, x[:0:-1]. -/
section
open PySem L2 PySem.Spec PyProof.Rows
variable [Tb]
section
variable {P : Program} {w : World} {A : Around} {E : Value → Shared → Prop} {s : Shared}
theorem adjust0 (n : Nat) : Builtin.Slice.sliceAdjust none (some 0) (-1) (n : Int) = ((n : Int) - 1, if n = 0 then -1 else 0) := by
  unfold Builtin.Slice.sliceAdjust
  simp only [show ((-1 : Int) < 0) = True from by simp, if_true, show ((0 : Int) < 0) = False from by simp, if_false]
  refine Prod.ext rfl ?_
  show min (0 : Int) ((n : Int) - 1) = _
  split <;> omega
theorem places0 (n : Nat) : Builtin.Slice.slicePlaces ((n : Int) - 1) (if n = 0 then -1 else 0) (-1) = n - 1 := by
  unfold Builtin.Slice.slicePlaces
  rw [if_neg (by decide), show (- -1 : Int) = 1 by decide, Int.ediv_one]
  by_cases h : n = 0
  · rw [if_pos h, if_neg (by omega)]; omega
  · rw [if_neg h]
    split <;> omega
theorem pick0 (xs : Array Value) : ((List.range (xs.size - 1)).filterMap fun (m : Nat) => xs[(((xs.size : Int) - 1) + (m : Int) * (-1)).toNat]?).toArray = (xs.toList.drop 1).reverse.toArray := by
  have h := pick_down xs
  have h := congrArg Array.toList h
  simp only [List.toList_toArray] at h
  congr 1
  by_cases h0 : xs.size = 0
  · have : xs.toList = [] := List.eq_nil_of_length_eq_zero (by rw [Array.length_toList]; exact h0)
    rw [h0, this]; rfl
  · have er : List.range xs.size = List.range (xs.size - 1) ++ [xs.size - 1] := by
      rw [← List.range_succ]; congr 1; omega
    rw [er, List.filterMap_append] at h
    have hlast : (((xs.size : Int) - 1) + ((xs.size - 1 : Nat) : Int) * (-1)).toNat = 0 := by omega
    have h00 : xs[0]? = some (xs[0]'(by omega)) := Array.getElem?_eq_getElem (by omega)
    rw [List.filterMap_cons, hlast, h00, List.filterMap_nil] at h
    have hd : xs.toList = xs[0]'(by omega) :: xs.toList.drop 1 := by
      cases hl : xs.toList with
      | nil =>
        have := congrArg List.length hl
        rw [Array.length_toList] at this
        exact absurd this h0
      | cons a l =>
        have : xs[0]'(by omega) = a := by
          rw [← Array.getElem_toList]
          simp [hl]
        rw [this]; rfl
    rw [hd, List.reverse_cons] at h
    have := List.append_inj_left' h rfl
    rw [hd]
    exact this
theorem applied0 {sl : Addr} {v1 v2 v3 : Value} {n : Nat} {Q : Int × Int × Nat → Shared → Prop} (hs : s.heap.IsSliceOf sl v1 v2 v3) (p1 : IsPart v1 none) (p2 : IsPart v2 (some 0)) (p3 : IsPart v3 (some (-1)))
    (q : Q ((n : Int) - 1, -1, n - 1) s) : wpAny (model P w) A (Builtin.Slice.sliceApplied (.ref sl) (pure (n : Int))) Q E s := by
  obtain ⟨ob, hob, _, hfs⟩ := id hs
  unfold Builtin.Slice.sliceApplied Builtin.Slice.sliceFields
  refine wpAny_bind (wpAny_bind (wpAny_field hob hfs (x := v1) rfl (wpAny_bind (wpAny_field hob hfs (x := v2) rfl (wpAny_bind (wpAny_field hob hfs (x := v3) rfl (wpAny_pure ?_)))))))
  refine wpAny_bind (HT.slicePart_ p3 ?_)
  show wpAny _ _ (if ((-1 : Int) == 0) = true then _ else _) _ _ s
  rw [if_neg (by decide)]
  refine wpAny_bind (HT.slicePart_ p1 (wpAny_bind (HT.slicePart_ p2 (wpAny_bind (wpAny_pure ?_)))))
  show wpAny _ _ (pure ((Builtin.Slice.sliceAdjust none (some 0) (-1) (n : Int)).1, (-1 : Int), Builtin.Slice.slicePlaces (Builtin.Slice.sliceAdjust none (some 0) (-1) (n : Int)).1 (Builtin.Slice.sliceAdjust none (some 0) (-1) (n : Int)).2 (-1))) _ _ s
  rw [adjust0, places0]
  exact wpAny_pure q
theorem item_tup0 {t sl : Addr} {its : Array Value} {v1 v2 v3 : Value} {Q : Value → Shared → Prop} (ht : IsTup s.heap t its) (hs : s.heap.IsSliceOf sl v1 v2 v3) (p1 : IsPart v1 none) (p2 : IsPart v2 (some 0)) (p3 : IsPart v3 (some (-1)))
    (q : Q (.ref s.heap.objs.size) { s with heap := s.heap.push { cls := .type "tuple", data := .seq (its.toList.drop 1).reverse.toArray } }) (hz : its.size ≤ sizeLine) : wpAny (model P w) A (getItem (.ref t) (.ref sl)) Q E s := by
  have fits : sizeOk (.seq (its.toList.drop 1).reverse.toArray) := by
    show (its.toList.drop 1).reverse.toArray.size ≤ sizeLine
    rw [List.size_toArray, List.length_reverse, List.length_drop, Array.length_toList]; omega
  obtain ⟨ob, hob, hcl, _⟩ := id hs
  have ty : s.TypeIs (.ref sl) "slice" := ⟨ob, hob, hcl⟩
  unfold getItem
  try with_reducible refine wpAny_holding ?_
  first | refine wpAny_bind (wpAny_pure ?_) | skip
  refine wpAny_bind (wpAny_sequenceKey ht.typeIs (by decide) ?_)
  refine wpAny_bind (wpAny_callSpecial?_slot (name := Str.ofString "__getitem__") ht.typeIs PyProof.Rows.slot_tuple_getitem
    (wpAny_call_entry PyProof.Rows.slot_tuple_getitem ht.typeIs PyProof.Rows.entry_tuple_getitem ?_ (PyProof.Rows.args_tuple_getitem _ _)))
  show wpAny _ _ (Builtin.Tuple.tupleItemsOf (.ref t) >>= _) _ _ s
  refine wpAny_bind (tupleItemsOf_ ht ?_)
  refine wpAny_bind (wpAny_typeOf ty ?_)
  rw [if_pos (by decide)]
  refine wpAny_bind (applied0 hs p1 p2 p3 ?_)
  show wpAny _ _ (if ((((its.size : Int) - 1) == 0 && (-1 : Int) == 1 && (its.size - 1) == its.size)) = true then _ else _) _ _ s
  rw [if_neg (by simp), pick0]
  first
    | exact wpAny_bind (m := Builtin.Tuple.tupleExact _) (wpAny_newObj_type (wpAny_pure ⟨_, rfl, wpAny_pure q⟩) fits)
    | exact wpAny_bind (m := Builtin.Tuple.tupleExact _) (wpAny_newObj_type (wpAny_bind (wpAny_pure (wpAny_pure ⟨_, rfl, wpAny_pure q⟩))) fits)
    | exact wpAny_bind (wpAny_bind (m := Builtin.Tuple.tupleExact _) (wpAny_newObj_type (wpAny_pure (wpAny_pure ⟨_, rfl, wpAny_pure q⟩)) fits))
    | exact wpAny_bind (wpAny_bind (m := Builtin.Tuple.tupleExact _) (wpAny_newObj_type (wpAny_pure ⟨_, rfl, wpAny_pure q⟩) fits))
end
section
variable {X : Cx}
/-- x[:0:-1], a tuple -/
def tRev0 (K : PySem.W.Frag) (te : TE) : TE := fun σ H Q => te σ H fun x H1 => ∃ a xs, x = .ref a ∧ (SqT K H1 a xs ∧ ∀ p, H1 p = none → Q (.ref p) (upd H1 p (.tup (xs.drop 1).reverse)))
theorem pe_rev0 {e : PySem.Expr} {te : TE} {k0 k : Nat} {p0 p1 p2 p3 pos : Pos} (he : PE X e te) : PE X (.Subscript e (.Slice none (some (.Constant (.int 0) k0 p0)) (some (.UnaryOp .USub (.Constant (.int 1) k p1) p2)) p3) pos) (tRev0 X.K te) := by
  constructor
  intro pins s σ H Q I h
  refine Subscript_ (thn (he.run pins s σ H _ I h) fun v u1 ⟨x, H1, I1, r1, a, xs, ex, hx⟩ => ?_)
  subst ex
  cases r1
  have back : PO X (some (.UnaryOp .USub (.Constant (.int 1) k p1) p2)) (tPart (tUn (rU fun i => .int (-i)) (tC (.int 1)))) := po_some (pe_un un_neg pe_int)
  have zero : PO X (some (.Constant (.int 0) k0 p0)) (tPart (tC (.int 0))) := po_some pe_int
  refine wpAny_Slice (thn (po_none.run pins u1 σ H1 (fun o K => o = none ∧ K = H1) I1 ⟨rfl, rfl⟩) fun vl u2 ⟨l, H2, I2, pl, el, e2⟩ => ?_)
  subst el e2
  refine thn (zero.run pins u2 σ H2 (fun o K => o = some 0 ∧ K = H2) I2 ⟨0, rfl, rfl, rfl⟩) fun vu u3 ⟨u, H3, I3, pu, eu, e3⟩ => ?_
  subst eu e3
  refine thn (back.run pins u3 σ H3 (fun o K => o = some (-1) ∧ K = H3) I3 ⟨1, rfl, -1, rfl, rfl, rfl⟩) fun vs u4 ⟨o, H4, I4, pst, eo, e4⟩ => ?_
  subst eo e4
  have I5 : Inv X pins σ H4 { u4 with heap := u4.heap.push { cls := .type "slice", data := .fields #[vl, vu, vs] } } := I4.kept (t' := u4.toks) fun _ _ q => Heap.get?_push_of_some _ q
  show wpAny (model X.prog X.w) X.A (subscriptTail e (.Slice none (some (.Constant (.int 0) k0 p0)) (some (.UnaryOp .USub (.Constant (.int 1) k p1) p2)) p3) (.ref a) (.ref u4.heap.objs.size)) (EP X pins σ Q) X.xe { u4 with heap := u4.heap.push { cls := .type "slice", data := .fields #[vl, vu, vs] } }
  obtain ⟨ht, q⟩ := hx
  obtain ⟨its, r, it5, hz⟩ := I5.tuple ht
  have hlen := r.length
  refine tail_any (ops := [.ref a, .ref u4.heap.objs.size]) it5.typeIs (PyProof.Rows.slot_tuple_getitem.lookup) ?_ (by with_unfolding_all rfl)
  refine item_tup0 it5 (Heap.IsSliceOf.new _ vl vu vs) pl pu pst ?_ (by rw [List.size_toArray]; omega)
  refine ⟨.ref _, _, I5.laid (t' := u4.toks) (o := .tup (xs.drop 1).reverse) (fun _ _ q => Heap.get?_push_of_some _ q) (Nat.le_refl _) ?_, rfl, q _ (I5.hok.fresh (Nat.le_refl _))⟩
  refine ⟨by rw [List.length_reverse, List.length_drop]; omega, (its.drop 1).reverse, (r.drop 1).reverse, ?_⟩
  have : (its.toArray.toList.drop 1).reverse.toArray = (its.drop 1).reverse.toArray := by simp
  rw [this]
  exact IsTup.new _ _
end
end
/-! PDh: more single rules. -/
section
open PySem L2
variable [Tb]

section
variable {C : Calls} {X : Cx} {tb : List (Str × Nat)}
theorem ev_neg {a : E} {x : PySem.Expr} {p : Pos} (ha : PE X x (tBo C a)) : PE X (.UnaryOp .USub x p) (tE C (.neg a)) :=
  PE.weak (pe_un un_neg ha) fun σ H Q ⟨S, P, ρ, Q0, R, h, q⟩ => ⟨S, P, ρ, _, R, h, fun d hd v H1 e i r => by
    obtain ⟨z, ez, q0⟩ := hd
    unfold negD at ez
    split at ez <;> cases ez
    exact ⟨_, r.1.int_of, q _ q0 _ H1 e i (.int _) (fun z => nomatch z)⟩⟩
theorem ev_not {a : E} {x : PySem.Expr} {p : Pos} (ha : PE X x (tBo C a)) : PE X (.UnaryOp .Not x p) (tE C (.not a)) :=
  PE.weak (pe_notT ha) fun σ H Q ⟨S, P, ρ, Q0, R, h, q⟩ => ⟨S, P, ρ, _, R, h, fun d hd v H1 e i r => by
    obtain ⟨z, ez, q0⟩ := hd
    exact ⟨z, truV_of r.1 ez, q _ q0 _ H1 e i (.bl _) (fun z => nomatch z)⟩⟩
theorem ev_and {a b : E} {x y : PySem.Expr} {r : List PySem.Expr} {p : Pos} (ha : PE X x (tE C a)) (hb : PE X (.BoolOp .And (y :: r) p) (tE C b)) : PE X (.BoolOp .And (x :: y :: r) p) (tE C (.and a b)) :=
  PE.weak (pe_andT ha hb) fun σ H Q ⟨S, P, ρ, Q0, R, h, q⟩ => ⟨S, P, ρ, _, R, h, fun d hd v H1 e i rp _ => by
    obtain ⟨z, ez, q0⟩ := hd
    refine ⟨z, truV_of (.of rp) ez, ?_⟩
    cases z with
    | true =>
      simp only [if_true] at q0 ⊢
      exact ⟨S, P, ρ, _, R.ext e i, q0, fun d hd v H2 e2 i2 r2 _ => q d hd v H2 (e.trans e2) i2 r2 (fun z => nomatch z)⟩
    | false =>
      simp only [Bool.false_eq_true, if_false] at q0 ⊢
      exact q _ q0 v H1 e i rp (fun z => nomatch z)⟩
theorem ev_or {a b : E} {x y : PySem.Expr} {r : List PySem.Expr} {p : Pos} (ha : PE X x (tE C a)) (hb : PE X (.BoolOp .Or (y :: r) p) (tE C b)) : PE X (.BoolOp .Or (x :: y :: r) p) (tE C (.or a b)) :=
  PE.weak (pe_orT ha hb) fun σ H Q ⟨S, P, ρ, Q0, R, h, q⟩ => ⟨S, P, ρ, _, R, h, fun d hd v H1 e i rp _ => by
    obtain ⟨z, ez, q0⟩ := hd
    refine ⟨z, truV_of (.of rp) ez, ?_⟩
    cases z with
    | false =>
      simp only [Bool.false_eq_true, if_false] at q0 ⊢
      exact ⟨S, P, ρ, _, R.ext e i, q0, fun d hd v H2 e2 i2 r2 _ => q d hd v H2 (e.trans e2) i2 r2 (fun z => nomatch z)⟩
    | true =>
      simp only [if_true] at q0 ⊢
      exact q _ q0 v H1 e i rp (fun z => nomatch z)⟩
theorem ev_ife {c : T} {a b : E} {t x y : PySem.Expr} {p : Pos} (hc : PT X t (tT C c)) (ha : PE X x (tE C a)) (hb : PE X y (tE C b)) : PE X (.IfExp t x y p) (tE C (.ife c a b)) :=
  PE.weak (pe_ifExp hc ha hb) fun σ H Q ⟨S, P, ρ, Q0, R, h, q⟩ => ⟨S, P, ρ, _, R, h, fun z q0 H1 e i => by
    cases z with
    | true =>
      simp only [if_true] at q0 ⊢
      exact ⟨S, P, ρ, _, R.ext e i, q0, fun d hd v H2 e2 i2 r2 _ => q d hd v H2 (e.trans e2) i2 r2 (fun z => nomatch z)⟩
    | false =>
      simp only [Bool.false_eq_true, if_false] at q0 ⊢
      exact ⟨S, P, ρ, _, R.ext e i, q0, fun d hd v H2 e2 i2 r2 _ => q d hd v H2 (e.trans e2) i2 r2 (fun z => nomatch z)⟩⟩
theorem copD_bool {op : COp} {d e r : D} (h : copD op d e = some r) : ∃ k, r = .bool k := by
  cases op
  case is =>
    have h : isD false d e = some r := h
    unfold isD at h
    split at h
    · cases h; exact ⟨_, rfl⟩
    · obtain ⟨p, _, rfl⟩ := Option.map_eq_some_iff.mp h; exact ⟨_, rfl⟩
  case isn =>
    have h : isD true d e = some r := h
    unfold isD at h
    split at h
    · cases h; exact ⟨_, rfl⟩
    · obtain ⟨p, _, rfl⟩ := Option.map_eq_some_iff.mp h; exact ⟨_, rfl⟩
  all_goals simp only [copD, inD, eqE] at h <;> (repeat' split at h) <;> first
    | (cases h; exact ⟨_, rfl⟩)
    | (cases h; done)
    | (unfold inT at h
       split at h <;> cases h
       exact ⟨_, rfl⟩)
    | (obtain ⟨ds, _, e2⟩ := Option.bind_eq_some_iff.mp h
       unfold inT at e2
       split at e2 <;> cases e2
       exact ⟨_, rfl⟩)
theorem ev_chain (hu : X.A.units + 64 < cLine) {o1 o2 : COp} {a b c : E} {x y z : PySem.Expr} {p : Pos} (ha : PE X x (tBo C a)) (hb : PE X y (tBo C b)) (hc : PE X z (tBo C c)) (hs : notSet z = true) :
    PE X (.Compare x [copF o1, copF o2] [y, z] p) (tE C (.chain o1 o2 a b c)) := by
  refine PE.weak (pe_chain (op2_cop hu o1) (op2_cop hu o2) ha hb hc (by
    show behindInMarks (copF o2) z = false
    cases z <;> first | rfl | cases hs)) fun σ H Q ⟨S, P, ρ, Q0, R, h, q⟩ => ?_
  refine ⟨S, P, ρ, _, R, h, fun d hd v H1 e1 i1 r1 => ?_⟩
  have R1 := R.ext e1 i1
  refine ⟨S, P, ρ, _, R1, hd, fun d2 hd2 v2 H2 e2 i2 r2 => ?_⟩
  have R2 := R1.ext e2 i2
  obtain ⟨w, ew, k, ek, hk⟩ := hd2
  refine ⟨_, d, d2, w, R2.fit, (r1.ext R1.fit R1.domN e2).1, r2.1, ew, fun v' H' e' rp _ => ?_⟩
  obtain ⟨k', rfl⟩ := copD_bool ew
  cases ek
  cases (RpB.of rp).bl_of
  refine ⟨_, rfl, ?_⟩
  have R3 := R2.ext0 e'
  cases k with
  | false =>
    simp only [Bool.false_eq_true, if_false] at hk ⊢
    exact q _ hk _ H' ((e1.trans e2).trans (e'.any _)) R3.inv (.bl _) (fun z => nomatch z)
  | true =>
    simp only [if_true] at hk ⊢
    refine ⟨S, P, ρ, _, R3, hk, fun d3 hd3 v3 H3 e3 i3 r3 => ?_⟩
    have R4 := R3.ext e3 i3
    obtain ⟨u, eu, q0⟩ := hd3
    refine ⟨_, d2, d3, u, R4.fit, ((r2.ext R2.fit R2.domN (e'.any _)).ext R3.fit R3.domN e3).1, r3.1, eu, fun v4 H4 e4 rp4 _ => ?_⟩
    exact q u q0 v4 H4 ((((e1.trans e2).trans (e'.any _)).trans e3).trans (e4.any _)) (S.ext i3 e4) rp4 (fun z => nomatch z)
theorem ev_tup {es : Es} {xs : List PySem.Expr} {k : Nat} {p : Pos} (h : PA X xs (tEs C es)) : PE X (.Tuple xs k p) (tE C (.tup es)) :=
  PE.weak (pe_tup h) fun σ H Q ⟨S, P, ρ, Q0, R, h, q⟩ => ⟨S, P, ρ, _, R, h, fun ds ⟨hl, q0⟩ vs H1 e i r => ⟨by rw [r.length]; exact hl, fun p hp => by
    have R1 := R.ext e i
    exact q _ q0 _ _ (e.trans (Ext.new hp)) (S.ext i (Ext.new hp)) (.tup upd_same (r.ext (Ext.new hp) R1.fit)) (fun z => nomatch z)⟩⟩
/-- a tuple displayed, known to have no dict -/
theorem ev_tupH {es : Es} {xs : List PySem.Expr} {k : Nat} {p : Pos} (h : PA X xs (tEs C es)) : PE X (.Tuple xs k p) (tE C (.tupH es)) := by
  refine ⟨fun pins s σ H Q I ⟨S, P, ρ, Q0, R, hh, q⟩ => ?_⟩
  have hr := h.run p pins s σ H (fun vs H1 => vs.length ≤ sizeLine ∧ ∀ (b : Addr) (o : Obj), H1 b = none → o.dict = none → Q (.ref b) (upd H1 b (.frz o (.tup vs)))) I ⟨S, P, ρ, _, R, hh, fun ds ⟨hl, q0⟩ vs H1 e i r => ⟨by rw [r.length]; exact hl, fun b o hp hd => by
    have R1 := R.ext e i
    exact q _ q0 _ _ (e.trans (Ext.new hp)) (S.ext i (Ext.new hp)) (.hrd upd_same hd (r.ext (Ext.new hp) R1.fit)) (fun z => by simp [isL, mkH, nmK])⟩⟩
  refine wpAny_Tuple_spliced (thn hr fun us s1 ⟨vs, H1, I1, r, z, q1⟩ => ⟨by rw [← r.length]; exact z, ?_⟩)
  have hf : H1 s1.heap.objs.size = none := I1.hok.fresh (Nat.le_refl _)
  refine ⟨.ref s1.heap.objs.size, upd H1 s1.heap.objs.size (.frz { cls := .type "tuple", data := .seq us.toArray } (.tup vs)), I1.laid (t' := s1.toks) (fun b u e => Heap.get?_push_of_some _ e) (Nat.le_refl _) ?_, rfl, q1 _ _ hf rfl⟩
  exact ⟨Heap.get?_push_size _ rfl, z, us, r, ⟨_, Heap.get?_push_size _ rfl, rfl, _, rfl⟩⟩
theorem ev_lst {es : Es} {xs : List PySem.Expr} {p : Pos} (h : PA X xs (tEs C es)) : PE X (.List xs p) (tE C (.lst es)) :=
  PE.weak (pe_lst h) fun σ H Q ⟨S, P, ρ, Q0, R, h, q⟩ => ⟨S, P, ρ, _, R, h, fun ds ⟨hl, q0⟩ vs H1 e i r => ⟨by rw [r.length]; exact hl, fun p hp => by
    have R1 := R.ext e i
    exact q _ q0 _ _ (e.trans (Ext.new hp)) (S.ext i (Ext.new hp)) (.lst (R1.fit.ne hp) upd_same (r.ext (Ext.new hp) R1.fit)) (fun _ _ => (freshL R1.fit r hp).back i e)⟩⟩
theorem ev_dnew {p : Pos} : PE X (.Dict [] [] p) (tE C .dnew) :=
  PE.weak pe_dnewK fun σ H Q ⟨S, P, ρ, Q0, R, h, q⟩ => fun p hp =>
    q _ h _ _ (Ext.new hp) (S.ext R.inv (Ext.new hp)) (.dK (kvs := []) (ds := []) (R.fit.ne hp) upd_same .nil) (fun _ _ => ⟨p, rfl, hp, .dK (kvs := []) (ds := []) upd_same .nil⟩)

/-! subscripts -/
theorem atI_rp {N : Zn} {H : Hp} {vs : List V} {ds : List D} (r : RpAll N H vs ds) {i : Int} {d : D} (h : atI ds i = some d) : ∃ v, atI vs i = some v ∧ Rp N H v d := by
  unfold atI at h ⊢
  rw [r.length]
  obtain ⟨j, hj, h⟩ := Option.bind_eq_some_iff.mp h
  obtain ⟨v, hv, rv⟩ := r.get' h
  exact ⟨v, by rw [hj]; exact hv, rv⟩
theorem ix_any (hu : X.A.units + 64 < cLine) : IxR X (fun x y H Q => ∃ N d e r, Fit N H ∧ RpB N H x d ∧ RpB N H y e ∧ idxD d e = some r ∧ Out false N H r Q) := by
  intro value slice pins s σ H x y v u Q I rx ry h hs
  obtain ⟨N, d, e, r, f, hx, hy, hi, o⟩ := h
  unfold idxD at hi
  split at hi
  · obtain ⟨a, xs, rfl, ha, rr⟩ := hx.list_of
    obtain ⟨w, hw, rw'⟩ := atI_rp rr hi
    exact ix_list value slice pins s σ H _ _ v u Q I rx ry ⟨a, xs, _, w, rfl, hy.int_of, SqL.of ha, hw, o.old rw'⟩ hs
  · obtain ⟨a, xs, rfl, ha, rr⟩ := hx.tup_of
    obtain ⟨w, hw, rw'⟩ := atI_rp rr hi
    exact ix_tup value slice pins s σ H _ _ v u Q I rx ry ⟨a, xs, _, w, rfl, hy.int_of, SqT.of ha, hw, o.old rw'⟩ hs
  · split at hi
    · obtain ⟨c, hc, rfl⟩ := Option.map_eq_some_iff.mp hi
      exact ix_str value slice pins s σ H _ _ v u Q I rx ry ⟨_, _, c, hx.str_of, hy.int_of, by assumption, hc, o.old (.str _)⟩ hs
    · cases hi
  · split at hi
    · rename_i hk
      rw [Bool.and_eq_true] at hk
      obtain ⟨a, H2, ov, rfl, I2, g, back, hv⟩ := dict_at I hx hy hk.1 hk.2
      rcases hv with ⟨w, e', h1, h2, h3⟩ | ⟨h1, h2⟩
      · rw [h2] at hi; cases hi
        subst h1
        cases rx
        exact PyProof.Rows.tail_any (dict_typeIs I2 g) PySem.F.slot_dict_getitem.lookup (d_getItem (by omega) I2 g ry fun w' s' I' rw' => ⟨w, H, back s' I', rw', o.old h3⟩) hs
      · rw [h2] at hi; cases hi
    · obtain ⟨ds, e1, e2⟩ := Option.bind_eq_some_iff.mp hi
      rw [unH_of e1] at hx
      obtain ⟨a, ob, xs, rfl, ha, _, rr⟩ := hx.hrd_of
      split at e2
      · obtain ⟨w, hw, rw'⟩ := atI_rp rr e2
        exact ix_tup value slice pins s σ H _ _ v u Q I rx ry ⟨a, xs, _, w, rfl, hy.int_of, .inl (.inr ⟨ob, ha⟩), hw, o.old rw'⟩ hs
      · cases e2
  · cases hi
theorem plainIx_of {y : PySem.Expr} (h : notSlice y = true) : PlainIx y := by
  intro o i
  cases y <;> first | rfl | cases h
theorem ev_idx (hu : X.A.units + 64 < cLine) {a i : E} {x y : PySem.Expr} {p : Pos} (ha : PE X x (tBo C a)) (hb : PE X y (tE C i)) (hs : notSlice y = true) : PE X (.Subscript x y p) (tE C (.idx a i)) :=
  PE.weak (pe_ix (ix_any hu) ha hb (plainIx_of hs)) fun σ H Q ⟨S, P, ρ, Q0, R, h, q⟩ => ⟨S, P, ρ, _, R, h, fun d hd v H1 e1 i1 r1 => by
    have R1 := R.ext e1 i1
    refine ⟨S, P, ρ, _, R1, hd, fun d2 hd2 v2 H2 e2 i2 r2 _ => ?_⟩
    have R2 := R1.ext e2 i2
    obtain ⟨r, er, q0⟩ := hd2
    exact ⟨_, d, d2, r, R2.fit, (r1.ext R1.fit R1.domN e2).1, .of r2, er, fun v' H' e' rp _ => q r q0 v' H' ((e1.trans e2).trans (e'.any _)) (S.ext i2 e') rp (fun z => nomatch z)⟩⟩
theorem cutV_rp {N : Zn} {H : Hp} {vs : List V} {ds : List D} (r : RpAll N H vs ds) (lo hi : Option Int) : RpAll N H (cutV vs lo hi) (cutL ds lo hi) := by
  unfold cutV cutL
  rw [r.length]
  exact (r.drop _).take _
theorem sl_any : SlR X (fun x lo hi H Q => ∃ N d r, Fit N H ∧ RpB N H x d ∧ slcD d lo hi = some r ∧ Out true N H r Q) := by
  intro pins s σ H x v vl vu lo hi sl Q I rx hs pl pu h
  obtain ⟨N, d, r, f, hx, hi', o⟩ := h
  unfold slcD at hi'
  split at hi'
  · cases hi'
    obtain ⟨a, xs, rfl, ha, rr⟩ := hx.list_of
    exact sl_list pins s σ H _ v vl vu lo hi sl Q I rx hs pl pu ⟨a, xs, rfl, SqL.of ha, o.newL f (cutV_rp rr lo hi)⟩
  · cases hi'
    obtain ⟨a, xs, rfl, ha, rr⟩ := hx.tup_of
    refine sl_tupA pins s σ H _ v vl vu lo hi sl Q I rx hs pl pu ⟨a, xs, rfl, SqT.of ha, fun hw => ?_, fun _ => o.newT f (cutV_rp rr lo hi)⟩
    have : cutV xs lo hi = xs := by
      unfold cutV
      rw [hw.1, hw.2]
      simp
    refine o.imm (.tup ha ?_) rfl
    have h2 := cutV_rp rr lo hi
    rw [this] at h2
    exact h2
  · split at hi' <;> cases hi'
    exact sl_str pins s σ H _ v vl vu lo hi sl Q I rx hs pl pu ⟨_, hx.str_of, by assumption, o.imm (.str _) rfl⟩
  · cases hi'
theorem ev_slc {a : E} {lo hi : Eo} {x : PySem.Expr} {l h : Option PySem.Expr} {p p2 : Pos} (ha : PE X x (tBo C a)) (hl : PO X l (tEo C lo)) (hh : PO X h (tEo C hi)) : PE X (.Subscript x (.Slice l h none p2) p) (tE C (.slc a lo hi)) :=
  PE.weak (pe_slice sl_any ha hl hh) fun σ H Q ⟨S, P, ρ, Q0, R, h, q⟩ => ⟨S, P, ρ, _, R, h, fun d hd v H1 e1 i1 r1 => by
    have R1 := R.ext e1 i1
    refine ⟨S, P, ρ, _, R1, hd, fun o1 hd2 H2 e2 i2 => ?_⟩
    have R2 := R1.ext e2 i2
    refine ⟨S, P, ρ, _, R2, hd2, fun o2 hd3 H3 e3 i3 => ?_⟩
    have R3 := R2.ext e3 i3
    obtain ⟨r, er, q0⟩ := hd3
    refine ⟨_, d, r, R3.fit, (r1.ext R1.fit R1.domN (e2.trans e3)).1, er, fun v' H' e' rp fs => ?_⟩
    have ee := (e1.trans e2).trans e3
    refine q r q0 v' H' (ee.trans (e'.any _)) (S.ext i3 e') rp fun f l => ?_
    exact (fs f l).back i3 ee⟩
theorem ev_rev {a : E} {x : PySem.Expr} {k : Nat} {p1 p2 p3 p : Pos} (ha : PE X x (tBo C a)) : PE X (.Subscript x (.Slice none none (some (.UnaryOp .USub (.Constant (.int 1) k p1) p2)) p3) p) (tE C (.rev a)) :=
  PE.weak (pe_revA ha) fun σ H Q ⟨S, P, ρ, Q0, R, h, q⟩ => ⟨S, P, ρ, _, R, h, fun d hd v H1 e i r => by
    have R1 := R.ext e i
    obtain ⟨z, ez, q0⟩ := hd
    cases d <;> simp only [revD] at ez <;> cases ez
    · obtain ⟨a, ys, rfl, hy, rr⟩ := r.1.list_of
      exact ⟨a, ys, rfl, .inl ⟨SqL.of hy, fun p hp => q _ q0 _ _ (e.trans (Ext.new hp)) (S.ext i (Ext.new hp)) (.lst (R1.fit.ne hp) upd_same (rr.reverse.ext (Ext.new hp) R1.fit)) (fun _ _ => (freshL R1.fit rr.reverse hp).back i e)⟩⟩
    · obtain ⟨a, ys, rfl, hy, rr⟩ := r.1.tup_of
      exact ⟨a, ys, rfl, .inr ⟨SqT.of hy, fun p hp => q _ q0 _ _ (e.trans (Ext.new hp)) (S.ext i (Ext.new hp)) (.tup upd_same (rr.reverse.ext (Ext.new hp) R1.fit)) (fun _ hl => by cases hl)⟩⟩⟩

theorem ev_rev0 {a : E} {x : PySem.Expr} {k0 k : Nat} {p0 p1 p2 p3 p : Pos} (ha : PE X x (tBo C a)) : PE X (.Subscript x (.Slice none (some (.Constant (.int 0) k0 p0)) (some (.UnaryOp .USub (.Constant (.int 1) k p1) p2)) p3) p) (tE C (.rev0 a)) :=
  PE.weak (pe_rev0 ha) fun σ H Q ⟨S, P, ρ, Q0, R, h, q⟩ => ⟨S, P, ρ, _, R, h, fun d hd v H1 e i r => by
    have R1 := R.ext e i
    obtain ⟨z, ez, q0⟩ := hd
    cases d <;> simp only [rev0D] at ez <;> cases ez
    obtain ⟨a, ys, rfl, hy, rr⟩ := r.1.tup_of
    exact ⟨a, ys, rfl, SqT.of hy, fun p hp => q _ q0 _ _ (e.trans (Ext.new hp)) (S.ext i (Ext.new hp)) (.tup upd_same ((rr.drop 1).reverse.ext (Ext.new hp) R1.fit)) (fun _ hl => by cases hl)⟩⟩

/-! parts, arguments -/
theorem eo_no : PO X none (tEo C .no) := ⟨fun pins s σ H Q I ⟨S, P, ρ, Q0, R, h, q⟩ => po_none.run pins s σ H Q I (q _ h H Ext.refl R.inv)⟩
theorem eo_yes {e : E} {x : PySem.Expr} (h : PE X x (tE C e)) : PO X (some x) (tEo C (.yes e)) := ⟨fun pins s σ H Q I ⟨S, P, ρ, Q0, R, hh, q⟩ => (po_some h).run pins s σ H Q I
  ⟨S, P, ρ, _, R, hh, fun d hd v H1 e i r _ => by
    obtain ⟨j, rfl, q0⟩ := hd
    exact ⟨j, (RpB.of r).int_of, q _ q0 H1 e i⟩⟩⟩
theorem es_nil : PA X [] (tEs C .nil) := PA.weak pa_nil fun σ H Q ⟨S, P, ρ, Q0, R, h, q⟩ => q _ h _ H Ext.refl R.inv .nil
theorem star_eq {x : PySem.Expr} {xs : List PySem.Expr} {env : PySem.Env} (h : notStar x = true) : starEach (x :: xs) env = (false, eval x env) :: starEach xs env := by
  cases x <;> first | rfl | cases h
theorem es_cons {e : E} {r : Es} {x : PySem.Expr} {xs : List PySem.Expr} (hx : notStar x = true) (h : PE X x (tE C e)) (hr : PA X xs (tEs C r)) : PA X (x :: xs) (tEs C (.cons e r)) :=
  PA.weak (pa_cons h hr (star_eq hx)) fun σ H Q ⟨S, P, ρ, Q0, R, h, q⟩ => ⟨S, P, ρ, _, R, h, fun d hd v H1 e i rp _ => by
    have R1 := R.ext e i
    exact ⟨S, P, ρ, _, R1, hd, fun ds hds vs H2 e2 i2 r2 => q _ hds _ H2 (e.trans e2) i2 (.cons (rp.ext (e2.mono R1.domN) R1.fit) r2)⟩⟩
theorem es_star {e : E} {r : Es} {x : PySem.Expr} {p : Pos} {xs : List PySem.Expr} (h : PE X x (tBo C e)) (hr : PA X xs (tEs C r)) : PA X (.Starred x p :: xs) (tEs C (.star e r)) :=
  PA.weak (StX.pa_star h hr) fun σ H Q ⟨S, P, ρ, Q0, R, h, q⟩ => ⟨S, P, ρ, _, R, h, fun d hd v H1 e i rp => by
    have R1 := R.ext e i
    obtain ⟨ys, ey, hd⟩ := hd
    have key : ∃ a vs, v = .ref a ∧ (SqT X.K H1 a vs ∨ SqL X.K H1 a vs) ∧ RpAll (Nn P ρ σ) H1 vs ys := by
      cases d <;> simp only [ltD] at ey <;> first | (cases ey; done) | skip
      · cases ey
        obtain ⟨a, vs, e1, h1, r1⟩ := rp.1.list_of
        exact ⟨a, vs, e1, .inr (SqL.of h1), r1⟩
      · cases ey
        obtain ⟨a, vs, e1, h1, r1⟩ := rp.1.tup_of
        exact ⟨a, vs, e1, .inl (SqT.of h1), r1⟩
      · have r0 := rp.1
        rw [unH_of ey] at r0
        obtain ⟨a, o, vs, e1, h1, _, r1⟩ := r0.hrd_of
        exact ⟨a, vs, e1, .inl (.inl (.inr ⟨o, h1⟩)), r1⟩
    obtain ⟨a, vs, e1, h1, r1⟩ := key
    exact ⟨a, vs, e1, h1, S, P, ρ, _, R1, hd, fun ds hds ws H2 e2 i2 r2 => q _ hds _ H2 (e.trans e2) i2 ((r1.ext (e2.mono R1.domN) R1.fit).append r2)⟩⟩
theorem eb_nil : PA X [] (tEb C .nil) := PA.weak pa_nil fun σ H Q ⟨S, P, ρ, Q0, R, h, q⟩ => q _ h _ H Ext.refl R.inv .nil
theorem eb_cons {e : E} {r : Es} {x : PySem.Expr} {xs : List PySem.Expr} (hx : notStar x = true) (h : PE X x (tBo C e)) (hr : PA X xs (tEb C r)) : PA X (x :: xs) (tEb C (.cons e r)) :=
  PA.weak (pa_cons h hr (star_eq hx)) fun σ H Q ⟨S, P, ρ, Q0, R, h, q⟩ => ⟨S, P, ρ, _, R, h, fun d hd v H1 e i rp => by
    have R1 := R.ext e i
    exact ⟨S, P, ρ, _, R1, hd, fun ds hds vs H2 e2 i2 r2 => q _ hds _ H2 (e.trans e2) i2 (.cons (rp.ext R1.fit R1.domN e2) r2)⟩⟩
theorem ea_nil : PA X [] (tEa C .nil) := PA.weak pa_nil fun σ H Q ⟨S, P, ρ, Q0, R, h, q⟩ => q _ h _ H Ext.refl R.inv .nil
theorem ea_var {i : Nat} {r : Es} {x : PySem.Expr} {xs : List PySem.Expr} (hx : notStar x = true) (h : PE X x (tVar i)) (hr : PA X xs (tEa C r)) : PA X (x :: xs) (tEa C (.cons (.var i) r)) :=
  PA.weak (pa_cons h hr (star_eq hx)) fun σ H Q ⟨S, P, ρ, Q0, R, ⟨b, eb, h⟩, q⟩ => by
    unfold lookA at eb
    split at eb <;> cases eb
    · rename_i hd
      obtain ⟨v, hv, rv⟩ := R.sh i _ hd
      exact ⟨v, hv, S, P, ρ, _, R, h, fun ds hds vs H2 e2 i2 r2 => q _ hds _ H2 e2 i2 (.sh (rv.ext (e2.mono R.domN) R.fit) r2)⟩
    · rename_i hd
      exact ⟨_, R.src i hd, S, P, ρ, _, R, h, fun ds hds vs H2 e2 i2 r2 => q _ hds _ H2 e2 i2 (.src r2)⟩
theorem ea_cons {e : E} {r : Es} {x : PySem.Expr} {xs : List PySem.Expr} (hx : notStar x = true) (hv : ∀ i, e = .var i → PE X x (tVar i)) (h : PE X x (tE C e)) (hr : PA X xs (tEa C r)) : PA X (x :: xs) (tEa C (.cons e r)) := by
  by_cases z : ∃ i, e = .var i
  · obtain ⟨i, rfl⟩ := z
    exact ea_var hx (hv i rfl) hr
  · refine PA.weak (pa_cons h hr (star_eq hx)) fun σ H Q ⟨S, P, ρ, Q0, R, h, q⟩ => ⟨S, P, ρ, (fun d => eva C r ρ fun xs => Q0 (.sh d :: xs)), R, ?_, fun d hd v H1 e i rp _ => by
      have R1 := R.ext e i
      exact ⟨S, P, ρ, _, R1, hd, fun ds hds vs H2 e2 i2 r2 => q _ hds _ H2 (e.trans e2) i2 (.sh (rp.ext (e2.mono R1.domN) R1.fit) r2)⟩⟩
    cases e <;> first | exact h | exact absurd ⟨_, rfl⟩ z
end
end
/-! PDi: what built-ins give. -/
section
open PySem L2 PyProof.Rows
variable [Tb]

/-! ### collecting -/
section
variable {prog : Program} {w : World} {A : Around} {E : Value → Shared → Prop} {s : Shared}
theorem collect_tup {l : Addr} {vs : List Value} {Q : List Value → Shared → Prop} (hl : IsTup s.heap l vs.toArray)
    (h : Q vs { s with heap := (s.heap.push (PyProof.Rows.seqObj "list" #[] 0)).update s.heap.objs.size (Obj.mapSeq (· ++ vs.toArray)) }) (hsz : vs.length ≤ sizeLine) :
    wpAny (model prog w) A (collect (.ref l)) Q E s := by
  obtain ⟨o, ho, hc, n, hd⟩ := id hl
  unfold collect
  refine wpAny_bind (wpAny_runValue (codeAny_builtin PyProof.Rows.entry_proto_collect' ?_))
  show wpAny _ _ (do again (.builtin "list.__iadd__" ⟨[← newList [], .ref l], []⟩)) _ _ s
  refine wpAny_bind (wpAny_newList (wpAny_pure ⟨Code.quiet_builtin _ (by decide +kernel), codeAny_builtin PyProof.Rows.entry_list_iadd' ?_⟩))
  show wpAny _ _ (Builtin.List.listExtendWith (.ref s.heap.objs.size) (.ref l) (.ref s.heap.objs.size)) _ _ { s with heap := s.heap.push (PyProof.Rows.seqObj "list" #[] 0) }
  unfold Builtin.List.listExtendWith
  have ho' : (s.heap.push (PyProof.Rows.seqObj "list" #[] 0)).get? l = some o := Heap.get?_push_of_some _ ho
  refine wpAny_bind (wpAny_typeOf (T := "tuple") ⟨o, ho', hc⟩ ?_)
  have ht : (Value.type "tuple" == Value.type "tuple") = true := by rfl
  rw [if_pos (by rw [ht]; simp)]
  refine wpAny_bind (PyProof.Rows.listItems_at ho' hd ?_)
  refine wpAny_bind (PyProof.Rows.listItems_at (xs := #[]) (n := 0) (Heap.get?_push_size _ rfl) rfl ?_)
  rw [if_neg (by simp)]
  refine wpAny_bind (PyProof.Rows.listUpdate_at (xs := #[]) (n := 0) (Heap.get?_push_size _ rfl) rfl ?_ (Nat.zero_le _) (by show (#[] ++ vs.toArray).size ≤ sizeLine + 1; simp only [Array.size_append, List.size_toArray, List.length_nil]; omega))
  refine wpAny_pure ?_
  show wpAny (model prog w) A (do
      let o ← load s.heap.objs.size
      match o.data with
      | .seq xs _ => pure xs.toList
      | _ => unsupported "internal:collect") Q E _
  refine wpAny_bind (wpAny_load (get?_update_seq (Heap.get?_push_size _ rfl) _) ?_)
  show wpAny _ _ (pure ((#[] : Array Value) ++ vs.toArray).toList) Q E _
  rw [show ((#[] : Array Value) ++ vs.toArray).toList = vs by simp]
  exact wpAny_pure h
end
section
variable {X : Cx} {pins : List (Addr × Obj)} {σ : L2.St} {H : Hp} {s : Shared} {N : Zn}
theorem pairs_keys {P : Program} {w : World} : ∀ {es : List DictEntry} {vs : List (Key × Value)}, Pairs (mixKind P w) es vs → Vals ((vs.map (·.1)).map kV) (es.map (·.key))
  | _, _, .nil => .nil
  | _, _, .cons h1 _ t => .cons (keyIs_rel h1) (pairs_keys t)
theorem rp_key (k : Key) : Rp N H (kV k) (keyD k) := by
  cases k with
  | inl i => exact .int i
  | inr x => exact .str x
theorem rp_keys : ∀ ks : List Key, RpAll N H (ks.map kV) (ks.map keyD)
  | [] => .nil
  | k :: ks => .cons (rp_key k) (rp_keys ks)
theorem refs_entries {P : Program} {w : World} : ∀ xs : List (List Key × Addr × Value), Vals (xs.map fun x => V.ref x.2.1) ((xs.map (entryOfKey (tupleKind (mixKind P w)))).map (·.key))
  | [] => .nil
  | _ :: xs => .cons rfl (refs_entries xs)
theorem rpT_keys : ∀ {ks : List (List Key × V)} {xs : List (List Key × Addr × Value)}, KT H ks xs → RpAll N H (xs.map fun x => V.ref x.2.1) (ks.map fun p => tkeyD p.1)
  | _, _, .nil => .nil
  | _, _, .cons h1 t => .cons (.tup h1.2.1 (rp_keys _)) (rpT_keys t)
/-- a dict as it stands: its keys in order -/
theorem dict_raw (I : Inv X pins σ H s) {a : Addr} {kvs : List (D × D)} (f : Fit N H) (h : RpB N H (.ref a) (.dict kvs)) (hk : nmK kvs = true) :
    ∃ o es ep vs, s.heap.get? a = some o ∧ o.ExactDict ∧ o.data = .dict es ep ∧ (a == sysModules) = false ∧ Vals vs (es.toList.map (·.key)) ∧ RpAll N H vs (kvs.map (·.1)) ∧ kvs.length ≤ sizeLine := by
  obtain ⟨b, eb, ⟨ks, ds, ha, r, rfl⟩ | ⟨ks, ds, hne, ha, r, rfl⟩⟩ := h.dict_of hk
  · cases eb
    have hl : ks.length = ds.length := by simpa using r.length
    obtain ⟨z, lo, vs, rel, o, es, ep, ho, hx, hd, _, hp, _⟩ := dk_of I.hok ha
    refine ⟨o, es, ep, (ks.map (·.1)).map kV, ho, hx, hd, lo, ?_, ?_, by simpa [List.length_zip, ← hl] using z⟩
    · rw [KV.keys rel]; exact pairs_keys hp
    · rw [map_fst_zip' (by simpa using hl), show ks.map (fun p => keyD p.1) = (ks.map (·.1)).map keyD by rw [List.map_map]; rfl]
      exact rp_keys _
  · cases eb
    have hl : ks.length = ds.length := by simpa using r.length
    obtain ⟨z, lo, xs, rel, o, es, ep, ho, hx, hd, he, _, _⟩ := dt_of I.hok ha
    refine ⟨o, es, ep, xs.map (fun x => V.ref x.2.1), ho, hx, hd, lo, ?_, ?_, by simpa [List.length_zip, ← hl] using z⟩
    · rw [he]; exact refs_entries xs
    · rw [map_fst_zip' (by simpa using hl)]; exact rpT_keys rel
theorem col_keep {h : Heap} {x : Obj} {f : Obj → Obj} {b : Addr} {o : Obj} (q : h.get? b = some o) : ((h.push x).update h.objs.size f).get? b = some o :=
  (Heap.get?_update_ne _ _ _ _ (Nat.ne_of_lt (Heap.lt_size q))).trans (Heap.get?_push_of_some _ q)
/-- the items collected of a list, a tuple, a dict -/
theorem collect_rp2 (hc : X.calm = true) (I : Inv X pins σ H s) {A : Around} (hA : A.handled = X.A.handled) {v : V} {d : D} {u : Value} {ds : List D} (f : Fit N H) (h : RpB N H v d) (r : RelV v u) (hs : seqD d = some ds) {E : Value → Shared → Prop} {Q : List Value → Shared → Prop}
    (hq : ∀ s' us vs, Inv X pins σ H s' → Vals vs us → RpAll N H vs ds → ds.length ≤ sizeLine → (∀ b o, s.heap.get? b = some o → s'.heap.get? b = some o) → Q us s') : wpAny (model X.prog X.w) A (collect u) Q E s := by
  cases d with
  | list xs =>
    cases hs
    obtain ⟨a, vs, rfl, ha, rr⟩ := h.list_of
    cases r
    obtain ⟨its, rv, p, hz⟩ := I.list (SqL.of ha)
    have h1 := rv.length
    have h2 := rr.length
    refine collect_list p.isList ?_ (by omega)
    refine hq { s with heap := _ } _ vs (I.kept (t' := s.toks) fun b o q => col_keep q) rv rr (by omega) fun b o q => col_keep q
  | tuple xs =>
    cases hs
    obtain ⟨a, vs, rfl, ha, rr⟩ := h.tup_of
    cases r
    obtain ⟨its, rv, p, hz⟩ := I.tuple (SqT.of ha)
    have h1 := rv.length
    have h2 := rr.length
    refine collect_tup p ?_ (by omega)
    refine hq { s with heap := _ } _ vs (I.kept (t' := s.toks) fun b o q => col_keep q) rv rr (by omega) fun b o q => col_keep q
  | dict kvs =>
    simp only [seqD] at hs
    by_cases hk : nmK kvs = true
    case neg =>
      rw [if_neg hk] at hs
      rw [unH_of hs] at h
      obtain ⟨a, o, vs, rfl, ha, _, rr⟩ := h.hrd_of
      cases r
      obtain ⟨its, rv, p, hz⟩ := I.tuple (show SqT X.K H a vs from .inl (.inr ⟨o, ha⟩))
      have h1 := rv.length
      have h2 := rr.length
      refine collect_tup p ?_ (by omega)
      exact hq { s with heap := _ } _ vs (I.kept (t' := s.toks) fun b o q => col_keep q) rv rr (by omega) fun b o q => col_keep q
    rw [if_pos hk] at hs
    cases hs
    obtain ⟨a, rfl⟩ := h.dict_ref
    cases r
    obtain ⟨o, es, ep, vs, ho, hx, hd, lo, rv, rr, hz⟩ := dict_raw I f h hk
    have h1 : es.size = kvs.length := by
      have e1 := rv.length
      have e2 := rr.length
      simp at e1 e2
      omega
    refine PySem.W.kdu_collect (kdl_raw lo hx hd) (by rw [hA]; exact I.ok.hd hc) ho (by omega) fun h' tk acc hk hacc => ?_
    have e : acc.toList = es.toList.map (·.key) := by
      apply List.ext_getElem?
      intro j
      rw [List.getElem?_map]
      cases hj : acc.toList[j]? with
      | none =>
        have q1 := List.getElem?_eq_none_iff.mp hj
        have q2 : acc.size = es.size := hacc.1
        rw [List.getElem?_eq_none (by simp at q1 ⊢; omega)]; rfl
      | some v =>
        obtain ⟨en, he, ev⟩ := hacc.2 j v (by rw [← Array.getElem?_toList]; exact hj)
        rw [Array.getElem?_toList, he, ev]; rfl
    refine hq { s with heap := h', toks := tk } _ vs (I.kept hk) (by rw [e]; exact rv) rr (by rw [List.length_map]; exact hz) hk
  | none => cases hs
  | bool b => cases hs
  | int i => cases hs
  | str x => cases hs
theorem collect_rp (hc : X.calm = true) (I : Inv X pins σ H s) {A : Around} (hA : A.handled = X.A.handled) {v : V} {d : D} {u : Value} {ds : List D} (f : Fit N H) (h : RpB N H v d) (r : RelV v u) (hs : seqD d = some ds) {E : Value → Shared → Prop} {Q : List Value → Shared → Prop}
    (hq : ∀ s' us vs, Inv X pins σ H s' → Vals vs us → RpAll N H vs ds → ds.length ≤ sizeLine → Q us s') : wpAny (model X.prog X.w) A (collect u) Q E s :=
  collect_rp2 hc I hA f h r hs fun s' us vs a b c d _ => hq s' us vs a b c d
end
end
set_option maxHeartbeats 4000000
/-! PDse: sorted lists of tuples, some of them empty. -/
section
open PySem PySem.W PySem.Calls PySem.SeqAt PyProof.Rows
section
variable {prog : Program} {w : World} {A : Around} {s : Shared}
theorem call_tuple_lt {E : Value → Shared → Prop} {Q : Value → Shared → Prop} {l b : Addr} {items items2 : Array Value} {e r : Nat → Bool} (hl : s.heap.IsTuple l items) (hb : s.heap.IsTuple b items2)
    (he : ∀ j (h1 : j < items.size) (h2 : j < items2.size), EqAt A.in1 s items[j] items2[j] (e j)) (hr : ∀ j (h1 : j < items.size) (h2 : j < items2.size), e j = false → RcLt A.in1 s items[j] items2[j] (r j))
    (h : Q (.bool (firstLt e r (decide (items.size < items2.size)) (List.range (min items.size items2.size)))) s) : wpAny (model prog w) A (call (.builtin "tuple.__lt__") [.ref l, .ref b]) Q E s := by
  obtain ⟨⟨cls, dd, data, sl⟩, ho, hc, n, hd⟩ := id hl
  obtain ⟨⟨cls2, dd2, data2, sl2⟩, ho2, hc2, n2, hd2⟩ := id hb
  simp only at hc hd hc2 hd2
  subst hc hd hc2 hd2
  exact call_meets F.slot_tuple_lt ⟨_, ho, rfl⟩ F.entry_tuple_lt (F.args_tuple_lt_2 _ _) (tuple_ltAt l b items items2 n n2 dd dd2 sl sl2 e r) ⟨ho, ho2, he, hr, h⟩
theorem mapM_each {α β : Type} {M : Model} {E : Value → Shared → Prop} {f : α → Sem β} {P : α → β → Prop} : ∀ (l : List α) {Q : List β → Shared → Prop}, (∀ v ∈ l, ∀ (Q' : β → Shared → Prop), (∀ r, P v r → Q' r s) → wpAny M A (f v) Q' E s) → (∀ rs, EachIs P l rs → Q rs s) → wpAny M A (l.mapM f) Q E s
  | [], _, _, h => by rw [List.mapM_nil]; exact wpAny_pure (h _ .nil)
  | x :: l, Q, hf, h => by
    rw [List.mapM_cons]
    refine wpAny_bind (hf x (.head _) _ fun r hr => wpAny_bind (mapM_each l (Q := fun bs s' => wpAny M A (pure (r :: bs)) Q E s') (fun v hv => hf v (.tail _ hv)) fun rs hrs => wpAny_pure (h _ (.cons hr hrs))))
theorem oneLt_tup {f : Bool} {xs ys : List PyData} {a b : Value} {as bs : List Addr} {E : Value → Shared → Prop} {Q : Bool → Shared → Prop} (ra : Reads s.heap a (.tuple xs) as) (rb : Reads s.heap b (.tuple ys) bs) (h : alike (.tuple xs) (.tuple ys) = true)
    (hu : A.units + min (PyData.tuple xs).depth (PyData.tuple ys).depth < cLine) (hq : Q (dataLt (.tuple xs) (.tuple ys)) s) : wpAny (model prog w) A (oneLt' f a b) Q E s := by
  cases f with
  | false => exact oneLt_alike (fun z => nomatch z) ra rb h (by simp) hu hq
  | true =>
    have hal : alikeAll xs ys = true := by simpa [alike] using h
    cases ra with
    | @tuple l o vs n _ as₁ h1 h2 h3 h4 =>
      cases rb with
      | @tuple l' o' vs' n' _ bs₁ k1 k2 k3 k4 =>
        have n1 : vs.size = xs.length := by simpa using ReadsAll.length _ _ _ h4
        have n2 : vs'.size = ys.length := by simpa using ReadsAll.length _ _ _ k4
        rw [dataLt_tuple, ← firstLt_toks xs ys hal, ← n1, ← n2] at hq
        rw [oneLt'_eq]
        simp only [if_true]
        refine wpAny_bind (wpAny_cRoomFor (room_here hu) ?_)
        refine wpAny_bind (wpAny_callSpecialIfBound?_slot (T := "tuple") ⟨_, h1, h2⟩ F.slot_tuple_lt (call_tuple_lt (e := pairEq xs ys) (r := fun j => dataLt (xs.getD j .none) (ys.getD j .none)) ⟨_, h1, h2, _, h3⟩ ⟨_, k1, k2, _, k3⟩ (fun j j1 j2 => ?_) (fun j j1 j2 hj => ?_) ?_))
        · have := eqAt_alikeAll xs ys A.in1 s vs.toList vs'.toList _ _ h4 k4 hal (room_in hu) j (by simpa using j1) (by simpa using j2)
          simpa using this
        · have := rcLt_alikeAll xs ys A.in1 s vs.toList vs'.toList _ _ h4 k4 hal (room_in hu) j (by simpa using j1) (by simpa using j2) hj
          simpa using this
        · exact wpAny_truthy_bool hq
/-- has the tuple a first item? -/
def FstOk (h : Heap) (v : Value) (r : Option Value) : Prop := ∀ xs as, Reads h v (.tuple xs) as → r.isSome = !xs.isEmpty
theorem first_tup {M : Model} {E : Value → Shared → Prop} {v : Value} {xs : List PyData} {as : List Addr} {Q : Option Value → Shared → Prop} (r : Reads s.heap v (.tuple xs) as) (h : ∀ o, FstOk s.heap v o → Q o s) : wpAny M A (firstOfTuple' v) Q E s := by
  cases r with
  | @tuple l o vs n _ as₁ h1 h2 h3 h4 =>
    rw [kas_first_eq]
    refine wpAny_bind ((looks_reads (M := M) (Reads.tuple h1 h2 h3 h4)).here ?_)
    rw [if_neg (by simp [dataType])]
    refine wpAny_bind (listItems_at h1 h3 ?_)
    refine wpAny_pure (h _ fun ys bs q => ?_)
    cases q with
    | @tuple l' o' vs' n' _ bs₁ k1 k2 k3 k4 =>
      rw [h1] at k1; cases k1
      rw [h3] at k3; cases k3
      have n2 : vs.size = ys.length := by simpa using ReadsAll.length _ _ _ k4
      cases ys with
      | nil =>
        have : vs.size = 0 := n2
        rw [Array.getElem?_eq_none (by omega)]; rfl
      | cons y ys =>
        rw [List.length_cons] at n2
        rw [Array.getElem?_eq_getElem (by omega)]; rfl
theorem each_all {h : Heap} : ∀ {vs : List Value} {ds : List PyData} {rs : List (Option Value)}, EachIs (fun v d => ∃ as, Reads h v d as) vs ds → (∀ d ∈ ds, ∃ xs, d = .tuple xs) → EachIs (FstOk h) vs rs → (∃ d ∈ ds, d = .tuple []) → rs.all (·.isSome) = false
  | _, _, _, .nil, _, .nil, h => by obtain ⟨d, hd, _⟩ := h; cases hd
  | _, _, _, .cons (b := d) ⟨as, r⟩ t, ht, .cons h1 h2, hx => by
    rw [List.all_cons]
    obtain ⟨xs, rfl⟩ := ht d (List.mem_cons_self ..)
    rw [h1 xs as r]
    obtain ⟨d', hd, e⟩ := hx
    rcases List.mem_cons.mp hd with z | z
    · have : xs = [] := PyData.tuple.inj (z.symm.trans e)
      subst this
      rfl
    · rw [each_all t (fun d hd => ht d (List.mem_cons_of_mem _ hd)) h2 ⟨d', z, e⟩, Bool.and_false]
theorem SortsAt.tups {vs : List Value} {ds : List PyData} (e : EachIs (fun v d => ∃ as, Reads s.heap v d as) vs ds) (hal : AllAlike ds) (ht : ∀ d ∈ ds, ∃ xs, d = .tuple xs) (hu : ∀ d, d ∈ ds → A.units + d.depth < cLine) : SortsAt prog w A s (dataKind s.heap ds) vs := by
  by_cases hx : ∃ d ∈ ds, d = .tuple []
  · have room : ∀ {d d' : PyData}, d ∈ ds → A.units + min d.depth d'.depth < cLine := fun {d d'} hd => Nat.lt_of_le_of_lt (Nat.add_le_add_left (Nat.min_le_left _ _) _) (hu d hd)
    have lt : ∀ f : Bool, ∀ (E : Value → Shared → Prop) (x y : Value) a b (Q : Bool → Shared → Prop), (dataKind s.heap ds).keyOf x = some a → (dataKind s.heap ds).keyOf y = some b → Q ((dataKind s.heap ds).blt a b) s → wpAny (model prog w) A (oneLt' f x y) Q E s := by
      intro f E x y a b Q ha hb hq
      obtain ⟨d, as, hd, ra, rfl⟩ := dataKind_inv ha
      obtain ⟨d', as', hd', rb, rfl⟩ := dataKind_inv hb
      obtain ⟨xs, rfl⟩ := ht d hd
      obtain ⟨ys, rfl⟩ := ht d' hd'
      exact oneLt_tup ra rb (hal _ hd _ hd') (room hd) hq
    refine ⟨fun v hv => ?_, ?_⟩
    · obtain ⟨d, hd, as, r⟩ := e.left v hv
      exact ⟨_, dataKind_some hal hd r⟩
    · cases ds with
      | nil => obtain ⟨d, hd, _⟩ := hx; cases hd
      | cons d₀ ds₀ =>
        obtain ⟨x₀, rfl⟩ := ht d₀ (List.mem_cons_self ..)
        have hT : ∀ v ∈ vs, Looks (model prog w) s.heap (typeOf v) (Value.type "tuple") := fun v hv => by
          obtain ⟨d, hd, as, r⟩ := e.left v hv
          obtain ⟨xs, rfl⟩ := ht d hd
          exact looks_reads r
        have step : ∀ (E : Value → Shared → Prop) {Q : SortKind → Shared → Prop}, (∀ rs, EachIs (FstOk s.heap) vs rs → wpAny (model prog w) A (do
            if (rs.toArray[0]?.bind id).isSome then return general'
            return if (← oneTypeOnly' vs.toArray).isSome then oneType' else general') Q E s) → wpAny (model prog w) A (keyKind' vs.toArray) Q E s := by
          intro E Q h
          rw [keyKind'_eq, List.mapM_toArray, map_eq_pure_bind]
          refine wpAny_bind (wpAny_bind (mapM_each (P := FstOk s.heap) _ (fun v hv Q' hq => ?_) fun rs hrs => wpAny_pure ?_))
          · obtain ⟨d, hd, as, r⟩ := e.left v hv
            obtain ⟨xs, rfl⟩ := ht d hd
            exact first_tup r hq
          · have := each_all e ht hrs hx
            rw [if_neg (by rw [List.all_toArray, this]; decide)]
            exact h rs hrs
        cases x₀ with
        | nil =>
          refine ⟨oneType', fun E x y a b Q ha hb hq => by rw [keyLt'_oneType]; exact lt true E x y a b Q ha hb hq, fun h2 E Q hq => step E fun rs hrs => ?_⟩
          cases e with
          | cons r t =>
            rename_i v0 vs0
            cases hrs with
            | cons h1 h3 =>
              rename_i r0 rs0
              obtain ⟨as, r⟩ := r
              have z := h1 _ _ r
              have : r0 = none := by
                cases r0 with
                | none => rfl
                | some _ => cases z
              subst this
              rw [if_neg (by simp)]
              rw [oneTypeOnly'_eq, List.mapM_toArray, map_eq_pure_bind]
              refine wpAny_bind (wpAny_bind (wpAny_bind (kas_mapM (r := Value.type "tuple") _ (fun v hv Q' hq => (hT v hv).here hq) (wpAny_pure ?_))))
              have hall : ((List.map (fun _ => Value.type "tuple") (v0 :: vs0)).toArray.all fun x => x == Value.type "tuple") = true := by
                simp only [List.all_toArray, List.all_map, List.all_eq_true]
                intro _ _
                rfl
              have h0 : (List.map (fun _ => Value.type "tuple") (v0 :: vs0)).toArray[0]? = some (Value.type "tuple") := by simp
              rw [h0]
              simp only [hall, if_true]
              exact wpAny_pure (wpAny_pure hq)
        | cons y ys =>
          refine ⟨general', fun E x y a b Q ha hb hq => by
            show wpAny (model prog w) A (oneLt' false x y) Q E s
            exact lt false E x y a b Q ha hb hq, fun h2 E Q hq => step E fun rs hrs => ?_⟩
          cases e with
          | cons r t =>
            cases hrs with
            | cons h1 h3 =>
              rename_i r0 rs0
              obtain ⟨as, r⟩ := r
              have z := h1 _ _ r
              rw [if_pos (by
                cases r0 with
                | none => cases z
                | some _ => rfl)]
              exact wpAny_pure hq
  · exact SortsAt.data e hal (.inl fun d hd => by
      obtain ⟨xs, rfl⟩ := ht d hd
      cases xs with
      | nil => exact absurd ⟨_, hd, rfl⟩ hx
      | cons x r => exact ⟨x, r, rfl⟩) hu
/-- xs.sort(), whatever shows that its values can be sorted -/
theorem list_sort_any {a : Addr} {n : Nat} {vs : List Value} {β : Type} {bs : List β} {enc : β → PyData} {R : Value → β → Prop} {E : Value → Shared → Prop} {Q : Value → Shared → Prop} (ho : s.heap.get? a = some (seqObj "list" vs.toArray n)) (e : EachIs R vs bs)
    (er : EachIs (fun v b => ∃ as, Reads s.heap v (enc b) as ∧ a ∉ as) vs bs) (hal : AllAlike (bs.map enc)) (hL : bs.length ≤ sizeLine)
    (S : EachIs (fun v d => ∃ as, Reads (sortingHeap s.heap a vs) v d as) vs (bs.map enc) → SortsAt prog w A.in1 { s with heap := sortingHeap s.heap a vs } (dataKind (sortingHeap s.heap a vs) (bs.map enc)) vs)
    (h : ∀ out, out.length = bs.length → EachIs R out (bs.mergeSort (dataLe false enc)) → Q .none { s with heap := sortedHeap s.heap a vs (List.toArray out) }) :
    wpAny (model prog w) A (call (.builtin "list.sort") [.ref a]) Q E s := by
  have rd := each_keepBut (h' := sortingHeap s.heap a vs) (fun b o hb q => sortingHeap_old hb q) (fun o q => by
    rw [ho] at q
    cases q
    rfl) hal er
  have st := S (each_map (R := fun v d => ∃ as, Reads (sortingHeap s.heap a vs) v d as) enc rd)
  have hq := h _ ((sortVals_length false rfl).trans e.length) (sortVals_data false e rd hal)
  rw [← e.length] at hL
  exact wpAny_call_entry slot_list_sort ⟨_, ho, rfl⟩ entry_list_sort (list_sort_vals ho st hL ⟨_, rfl, hq⟩) (args_list_sort _)
end
end
/-! PDj: sorted, list, tuple, len and so on, by data. -/
section
open PySem L2 PyProof.Rows PySem.W
variable [Tb]

section
variable {X : Cx} {pins : List (Addr × Obj)} {σ : L2.St} {H : Hp} {s : Shared} {N : Zn}
theorem each_of : ∀ {vs : List V} {us : List Value} {ds : List D}, Vals vs us → RpAll N H vs ds → EachIs (fun u (p : V × D) => L2.RelV p.1 u ∧ Rp N H p.1 p.2) us (vs.zip ds)
  | _, _, _, .nil, .nil => .nil
  | _, _, _, .cons r t, .cons q u => .cons ⟨r, q⟩ (each_of t u)
theorem of_each : ∀ {us : List Value} {ps : List (V × D)}, EachIs (fun u (p : V × D) => L2.RelV p.1 u ∧ Rp N H p.1 p.2) us ps → Vals (ps.map (·.1)) us ∧ RpAll N H (ps.map (·.1)) (ps.map (·.2))
  | _, _, .nil => ⟨.nil, .nil⟩
  | _, _, .cons h t => let ⟨a, b⟩ := of_each t; ⟨.cons h.1 a, .cons h.2 b⟩
theorem allAlike_of {ds : List D} (h : allAlike ds = true) : AllAlike ds := fun d hd e he => List.all_eq_true.mp (List.all_eq_true.mp h d hd) e he
theorem sortOk_of {ds : List D} (h : sortOk ds = true) : AllAlike ds ∧ ((∀ d ∈ ds, ∃ xs, d = .tuple xs) ∨ Sortable ds) ∧ ∀ d ∈ ds, d.depth ≤ 60 := by
  unfold sortOk at h
  simp only [Bool.and_eq_true, Bool.or_eq_true] at h
  refine ⟨allAlike_of h.1.1, ?_, fun d hd => of_decide_eq_true (List.all_eq_true.mp h.2 d hd)⟩
  rcases h.1.2 with q | q
  · refine .inl fun d hd => ?_
    have := List.all_eq_true.mp q d hd
    cases d <;> simp [isTup1] at this
    exact ⟨_, rfl⟩
  · refine .inr (.inr fun d hd => ?_)
    have := List.all_eq_true.mp q d hd
    cases d <;> simp [noTupN] at this ⊢
theorem sortOk1_in {ds : List D} (h : sortOk ds = true) (h2 : (ds.all isTupS || ds.all noTupN) = true) : sortOk1 ds = true := by
  unfold sortOk at h
  unfold sortOk1
  rw [h2, Bool.and_true]
  simp only [Bool.and_eq_true] at h ⊢
  exact ⟨h.1.1, h.2⟩
theorem sortOk1_of {ds : List D} (h : sortOk1 ds = true) : AllAlike ds ∧ Sortable ds ∧ ∀ d ∈ ds, d.depth ≤ 60 := by
  unfold sortOk1 at h
  simp only [Bool.and_eq_true, Bool.or_eq_true] at h
  refine ⟨allAlike_of h.1.1, ?_, fun d hd => of_decide_eq_true (List.all_eq_true.mp h.2 d hd)⟩
  rcases h.1.2 with q | q
  · refine .inl fun d hd => ?_
    have := List.all_eq_true.mp q d hd
    cases d <;> simp [isTupS] at this
    rename_i xs
    cases xs <;> simp [isTupS] at this
    exact ⟨_, _, rfl⟩
  · refine .inr fun d hd => ?_
    have := List.all_eq_true.mp q d hd
    cases d <;> simp [noTupN] at this ⊢
theorem sorted_rp (hc : X.calm = true) (hu : X.A.units + 64 < cLine) (I : Inv X pins σ H s) {v : V} {d : D} {u : Value} {ds : List D} (f : Fit N H) (h : RpB N H v d) (r : L2.RelV v u) (hs : seqD d = some ds) (ok : sortOk ds = true) {E : Value → Shared → Prop} {Q : VK} (o : Out true N H (.list (sortD ds)) Q) :
    wpAny (model X.prog X.w) X.A (call (.builtin "sorted") [u]) (EP X pins σ Q) E s := by
  obtain ⟨hal, hso, hdp⟩ := sortOk_of ok
  refine Calls.call_function_entry PyProof.Rows.kind_sorted PyProof.Rows.plain_sorted PyProof.Rows.entry_sorted (PyProof.Rows.args_sorted1 _) ?_
  unfold Builtin.«sorted»
  refine wpAny_bind (m := checkCount "sorted" 1 1 _) (wpAny_pure ?_)
  refine wpAny_bind (collect_rp hc I (A := X.A.in1) rfl f h r hs fun s' us vs I' rv rr hz => ?_)
  have hl := rv.length
  have hl2 := rr.length
  have hn : H s'.heap.objs.size = none := I'.hok.fresh (Nat.le_refl _)
  refine wpAny_bind (wpAny_newList ?_ (by omega))
  have hoL : (s'.heap.push (seqObj "list" us.toArray 0)).get? s'.heap.objs.size = some (seqObj "list" us.toArray 0) := Heap.get?_push_size _ rfl
  have I2 : Inv X pins σ H { s' with heap := s'.heap.push (seqObj "list" us.toArray 0) } := I'.kept (t' := s'.toks) fun b o q => Heap.get?_push_of_some _ q
  show wpAny _ _ _ _ _ { s' with heap := s'.heap.push (seqObj "list" us.toArray 0) }
  have hzip : (vs.zip ds).map (·.2) = ds := map_snd_zip' hl2
  have ee := each_of rv rr
  refine wpAny_bind (wpAny_holding (list_sort_any (β := V × D) (enc := fun p => p.2) (R := fun u (p : V × D) => L2.RelV p.1 u ∧ Rp N H p.1 p.2) (bs := vs.zip ds) (s := { s' with heap := s'.heap.push (seqObj "list" us.toArray 0) }) hoL ee ((each_mem ee).mono fun u p hpm => ?_) (by rw [hzip]; exact hal) (by rw [List.length_zip]; omega) (fun eS => ?_) fun out hlo eo => ?_))
  · obtain ⟨hp, hm⟩ := hpm
    obtain ⟨as, q1, q2⟩ := hp.2.reads I2 hp.1
    have hb2 : p.2 ∈ ds := by
      have := List.mem_map_of_mem (f := fun p : V × D => p.2) hm
      rwa [hzip] at this
    rw [er_alike _ (hal _ hb2 _ hb2)] at q1
    refine ⟨as, q1, fun z => ?_⟩
    obtain ⟨o', q3⟩ := q2 _ z
    rw [hn] at q3; cases q3
  · rw [hzip] at eS ⊢
    have hd2 : ∀ d, d ∈ ds → X.A.in1.in1.units + d.depth < cLine := fun d hd => by
      have := hdp _ hd
      have e1 : X.A.in1.in1.units = X.A.units + 2 := rfl
      omega
    rcases hso with ht | hso
    · exact SortsAt.tups eS hal ht hd2
    · exact SortsAt.data eS hal hso hd2
  · obtain ⟨e', he'⟩ := PyProof.Rows.sortedHeap_at (vs := us) (out := out.toArray) hoL
    obtain ⟨g1, g2⟩ := of_each eo
    have es : ((vs.zip ds).mergeSort (dataLe false fun p => p.2)).map (·.2) = sortD ds := by
      unfold sortD
      have q := sort_maps (r := dataLe false fun p : V × D => p.2) (s := dataLe false id) (fun p : V × D => p.2) (l := vs.zip ds) (fun _ _ _ _ => rfl)
      rw [hzip] at q
      exact q
    rw [es] at g2
    generalize ((vs.zip ds).mergeSort (dataLe false fun p => p.2)).map (·.1) = ws at g1 g2
    have hw := g1.length
    have hzl : (vs.zip ds).length = ds.length := by rw [List.length_zip]; omega
    refine wpAny_pure ⟨_, rfl, .ref s'.heap.objs.size, upd H s'.heap.objs.size (.lst ws), I'.laid (t' := s'.toks) (fun b u e => ?_) (Nat.le_refl _) (show ObjOk X.prog X.w _ _ _ (.lst ws) from ⟨by omega, out, e', g1, he'⟩), rfl, o.newL f g2 _ hn⟩
    have hb : b < s'.heap.objs.size := Heap.lt_size e
    rw [PyProof.Rows.sortedHeap_old (Nat.ne_of_lt hb) (by rw [size_push']; exact Nat.lt_succ_of_lt hb)]
    exact Heap.get?_push_of_some _ e
end

/-- a built-in by data -/
def PrR (X : Cx) (p : Prim) (f : Value) : Prop := CallR X f (fun xs H Q => ∃ S N ds r, Fit N H ∧ RpBs S N H xs ds ∧ primD p ds = some r ∧ Out true N H r Q)
section
variable {X : Cx}
theorem RpBs.one {S : Src} {N : Zn} {H : Hp} {xs : List V} {d : D} (h : RpBs S N H xs [d]) : ∃ x, xs = [x] ∧ RpB N H x d := by
  cases h with
  | cons r t => cases t; exact ⟨_, rfl, r.1⟩
theorem RpBs.two {S : Src} {N : Zn} {H : Hp} {xs : List V} {d e : D} (h : RpBs S N H xs [d, e]) : ∃ x y, xs = [x, y] ∧ RpB N H x d ∧ RpB N H y e := by
  cases h with
  | cons r t => cases t with
    | cons r2 t2 => cases t2; exact ⟨_, _, rfl, r.1, r2.1⟩
theorem pr_len (hu : X.A.units + 64 < cLine) : PrR X .len (.builtin "len") := by
  intro pins s σ H xs us Q I r h
  obtain ⟨S, N, ds, d, f, rb, hp, o⟩ := h
  unfold primD at hp
  split at hp <;> (try (rename_i e; cases e)) <;> (try cases hp)
  · obtain ⟨x, rfl, q⟩ := rb.one
    obtain ⟨a, ys, rfl, ha, rr⟩ := q.list_of
    exact call_len_seq pins s σ H _ us Q I r ⟨a, ys, rfl, .inl (SqL.of ha), by rw [rr.length]; exact o.imm (.int _) rfl⟩
  · obtain ⟨x, rfl, q⟩ := rb.one
    obtain ⟨a, ys, rfl, ha, rr⟩ := q.tup_of
    exact call_len_seq pins s σ H _ us Q I r ⟨a, ys, rfl, .inr (SqT.of ha), by rw [rr.length]; exact o.imm (.int _) rfl⟩
  · rename_i kvs
    by_cases hk : nmK kvs = true
    case neg =>
      rw [if_neg hk] at hp
      obtain ⟨ds, e1, rfl⟩ := Option.map_eq_some_iff.mp hp
      obtain ⟨x, rfl, q⟩ := rb.one
      rw [unH_of e1] at q
      obtain ⟨a, ob, ys, rfl, ha, _, rr⟩ := q.hrd_of
      exact call_len_seq pins s σ H _ us Q I r ⟨a, ys, rfl, .inr (.inl (.inr ⟨ob, ha⟩)), by rw [rr.length]; exact o.imm (.int _) rfl⟩
    rw [if_pos hk] at hp
    cases hp
    obtain ⟨x, rfl, q⟩ := rb.one
    obtain ⟨a, rfl, ⟨ks, es, ha, rr, rfl⟩ | ⟨ks, es, hne, ha, rr, rfl⟩⟩ := q.dict_of hk
    · have hl : ks.length = es.length := by simpa using rr.length
      obtain ⟨u, rfl, rx⟩ := r.one
      cases rx
      refine d_len I (.inl ha) fun t s' I' => ⟨.int ks.length, H, I', ⟨t, rfl⟩, ?_⟩
      refine o.imm (v := .int ks.length) ?_ rfl
      rw [show ((ks.map fun p => keyD p.1).zip es).length = ks.length by simp [hl]]
      exact .int _
    · have hl : ks.length = es.length := by simpa using rr.length
      refine call_len_dT pins s σ H _ us Q I r ⟨a, ks, rfl, ha, ?_⟩
      refine o.imm (v := .int ks.length) ?_ rfl
      rw [show ((ks.map fun p => tkeyD p.1).zip es).length = ks.length by simp [hl]]
      exact .int _
  · split at hp <;> cases hp
    obtain ⟨x, rfl, q⟩ := rb.one
    cases q.str_of
    exact call_len_str pins s σ H _ us Q I r ⟨_, rfl, by assumption, o.imm (.int _) rfl⟩
theorem pr_tuple : PrR X .tuple (.type "tuple") := by
  intro pins s σ H xs us Q I r h
  obtain ⟨S, N, ds, d, f, rb, hp, o⟩ := h
  unfold primD at hp
  split at hp <;> (try (rename_i e; cases e)) <;> (try cases hp)
  · obtain ⟨x, rfl, q⟩ := rb.one
    obtain ⟨a, ys, rfl, ha, rr⟩ := q.list_of
    exact call_tuple_of pins s σ H _ us Q I r ⟨a, ys, rfl, .inl ⟨SqL.of ha, o.newT f rr⟩⟩
  · obtain ⟨x, rfl, q⟩ := rb.one
    obtain ⟨a, ys, rfl, ha, rr⟩ := q.tup_of
    exact call_tuple_of pins s σ H _ us Q I r ⟨a, ys, rfl, .inr ⟨SqT.of ha, o.imm (.tup ha rr) rfl⟩⟩
/-- tuple(xs), the new tuple known to have no dict -/
theorem pr_tupleH : PrR X .tupleH (.type "tuple") := by
  intro pins s σ H xs us Q I r h
  obtain ⟨S, N, ds, d, f, rb, hp, o⟩ := h
  unfold primD at hp
  split at hp <;> (try (rename_i e; cases e)) <;> (try cases hp)
  obtain ⟨x, rfl, q⟩ := rb.one
  obtain ⟨a, ys, rfl, ha, rr⟩ := q.list_of
  obtain ⟨u, rfl, rx⟩ := r.one
  cases rx
  obtain ⟨its, r', pl, hz⟩ := I.list (SqL.of (K := X.K) ha)
  have hlen := r'.length
  refine call_tuple_list pl.isList (fun h' kp => ?_) (by simp only [List.size_toArray] <;> omega)
  have I1 : Inv X pins σ H { s with heap := h' } := I.kept (t' := s.toks) kp
  have hn : H h'.objs.size = none := I1.hok.fresh (Nat.le_refl _)
  have I2 : Inv X pins σ (upd H h'.objs.size (.frz { cls := .type "tuple", data := .seq its.toArray } (.tup ys))) { s with heap := h'.push { cls := .type "tuple", data := .seq its.toArray } } :=
    I1.laid (t' := s.toks) (fun b o e => Heap.get?_push_of_some _ e) (Nat.le_refl _) (show ObjOk X.prog X.w _ _ _ (.frz _ (.tup ys)) from ⟨Heap.get?_push_size _ rfl, hz, its, r', IsTup.new _ _⟩)
  exact ⟨.ref h'.objs.size, _, I2, rfl, o _ _ (Ext.new hn) (.hrd upd_same rfl (rr.ext (Ext.new hn) f)) fun _ z => by simp [isL, mkH, nmK] at z⟩
theorem pr_list (hc : X.calm = true) : PrR X .list (.type "list") := by
  intro pins s σ H xs us Q I r h
  obtain ⟨S, N, ds, d, f, rb, hp, o⟩ := h
  unfold primD at hp
  split at hp <;> (try (rename_i e; cases e)) <;> (try cases hp)
  · obtain ⟨x, rfl, q⟩ := rb.one
    obtain ⟨a, ys, rfl, ha, rr⟩ := q.list_of
    exact call_list_of pins s σ H _ us Q I r ⟨a, ys, rfl, .inl (SqL.of ha), o.newL f rr⟩
  · obtain ⟨x, rfl, q⟩ := rb.one
    obtain ⟨a, ys, rfl, ha, rr⟩ := q.tup_of
    exact call_list_of pins s σ H _ us Q I r ⟨a, ys, rfl, .inr (SqT.of ha), o.newL f rr⟩
  · rename_i kvs
    by_cases hk : nmK kvs = true
    case neg =>
      rw [if_neg hk] at hp
      obtain ⟨ds, e1, rfl⟩ := Option.map_eq_some_iff.mp hp
      obtain ⟨x, rfl, q⟩ := rb.one
      rw [unH_of e1] at q
      obtain ⟨a, ob, ys, rfl, ha, _, rr⟩ := q.hrd_of
      exact call_list_of pins s σ H _ us Q I r ⟨a, ys, rfl, .inr (.inl (.inr ⟨ob, ha⟩)), o.newL f rr⟩
    rw [if_pos hk] at hp
    cases hp
    obtain ⟨x, rfl, q⟩ := rb.one
    obtain ⟨a, rfl⟩ := q.dict_ref
    obtain ⟨u, rfl, rx⟩ := r.one
    cases rx
    obtain ⟨ob, es, ep, vs, ho, hx, hd, lo, rv, rr, hz⟩ := dict_raw I f q hk
    have h1 : es.size = vs.length := by have := rv.length; simp at this; omega
    have h2 := rr.length
    rw [List.length_map] at h2
    refine kdl_call (kdl_raw lo hx hd) (I.ok.hd hc) ho (by omega) fun h' tk acc c hk hS hacc => ?_
    have e : acc.toList = es.toList.map (·.key) := by
      apply List.ext_getElem?
      intro j
      rw [List.getElem?_map]
      cases hj : acc.toList[j]? with
      | none =>
        have q1 := List.getElem?_eq_none_iff.mp hj
        have q2 : acc.size = es.size := hacc.1
        rw [List.getElem?_eq_none (by simp at q1 ⊢; omega)]; rfl
      | some v =>
        obtain ⟨en, he, ev⟩ := hacc.2 j v (by rw [← Array.getElem?_toList]; exact hj)
        rw [Array.getElem?_toList, he, ev]; rfl
    refine ⟨.ref s.heap.objs.size, _, I.laid (t' := tk) (o := .lst vs) hk (Nat.le_refl _) ⟨by omega, acc.toList, c, by rw [e]; exact rv, by rw [Array.toArray_toList]; exact hS⟩, rfl, o.newL f rr _ (I.hok.fresh (Nat.le_refl _))⟩
theorem pr_sorted (hc : X.calm = true) (hu : X.A.units + 64 < cLine) : PrR X .sorted (.builtin "sorted") := by
  intro pins s σ H xs us Q I r h
  obtain ⟨S, N, ds, d, f, rb, hp, o⟩ := h
  unfold primD at hp
  split at hp <;> (try (rename_i e; cases e)) <;> (try cases hp)
  · split at hp <;> cases hp
    obtain ⟨x, rfl, q⟩ := rb.one
    obtain ⟨u, rfl, rx⟩ := r.one
    exact sorted_rp hc hu I f q rx rfl (by assumption) o
  · split at hp <;> cases hp
    obtain ⟨x, rfl, q⟩ := rb.one
    obtain ⟨u, rfl, rx⟩ := r.one
    exact sorted_rp hc hu I f q rx rfl (by assumption) o
  · split at hp <;> cases hp
    rename_i hk
    rw [Bool.and_eq_true] at hk
    obtain ⟨x, rfl, q⟩ := rb.one
    obtain ⟨u, rfl, rx⟩ := r.one
    exact sorted_rp hc hu I f q rx (by simp only [seqD, hk.1, if_true]) hk.2 o
theorem intsD_of : ∀ {ds : List D} {ns : List Int}, intsD ds = some ns → ds = ns.map PyData.int
  | [], _, h => by cases h; rfl
  | .int i :: r, _, h => by
    simp only [intsD] at h
    obtain ⟨ns, e, rfl⟩ := Option.map_eq_some_iff.mp h
    rw [intsD_of e]; rfl
theorem boolsD_of : ∀ {ds : List D} {ns : List Bool}, boolsD ds = some ns → ds = ns.map PyData.bool
  | [], _, h => by cases h; rfl
  | .bool i :: r, _, h => by
    simp only [boolsD] at h
    obtain ⟨ns, e, rfl⟩ := Option.map_eq_some_iff.mp h
    rw [boolsD_of e]; rfl
theorem pr_sum (hc : X.calm = true) : PrR X .sum (.builtin "sum") := by
  intro pins s σ H xs us Q I r h
  obtain ⟨S, N, ds, d, f, rb, hp, o⟩ := h
  unfold primD at hp
  split at hp <;> (try (rename_i e; cases e)) <;> (try cases hp)
  obtain ⟨ns, e, rfl⟩ := Option.map_eq_some_iff.mp hp
  obtain ⟨x, rfl, q⟩ := rb.one
  obtain ⟨a, ys, rfl, ha, rr⟩ := q.list_of
  rw [intsD_of e] at rr
  exact cr_sum hc pins s σ H _ us Q I r ⟨a, ns, rfl, SqL.of (by rw [← rr.ints]; exact ha), o.imm (.int _) rfl⟩
theorem pr_all (hc : X.calm = true) : PrR X .all (.builtin "all") := by
  intro pins s σ H xs us Q I r h
  obtain ⟨S, N, ds, d, f, rb, hp, o⟩ := h
  unfold primD at hp
  split at hp <;> (try (rename_i e; cases e)) <;> (try cases hp)
  obtain ⟨ns, e, rfl⟩ := Option.map_eq_some_iff.mp hp
  obtain ⟨x, rfl, q⟩ := rb.one
  obtain ⟨a, ys, rfl, ha, rr⟩ := q.list_of
  rw [boolsD_of e] at rr
  exact cr_all hc pins s σ H _ us Q I r ⟨a, ns, rfl, SqL.of (by rw [← rr.bools]; exact ha), o.imm (.bl _) rfl⟩
theorem pr_any (hc : X.calm = true) : PrR X .any (.builtin "any") := by
  intro pins s σ H xs us Q I r h
  obtain ⟨S, N, ds, d, f, rb, hp, o⟩ := h
  unfold primD at hp
  split at hp <;> (try (rename_i e; cases e)) <;> (try cases hp)
  obtain ⟨ns, e, rfl⟩ := Option.map_eq_some_iff.mp hp
  obtain ⟨x, rfl, q⟩ := rb.one
  obtain ⟨a, ys, rfl, ha, rr⟩ := q.list_of
  rw [boolsD_of e] at rr
  exact cr_any hc pins s σ H _ us Q I r ⟨a, ns, rfl, SqL.of (by rw [← rr.bools]; exact ha), o.imm (.bl _) rfl⟩
theorem pr_abs : PrR X .abs (.builtin "abs") := by
  intro pins s σ H xs us Q I r h
  obtain ⟨S, N, ds, d, f, rb, hp, o⟩ := h
  unfold primD at hp
  split at hp <;> (try (rename_i e; cases e)) <;> (try cases hp)
  obtain ⟨x, rfl, q⟩ := rb.one
  cases q.int_of
  exact call_abs pins s σ H _ us Q I r ⟨_, rfl, o.imm (.int _) rfl⟩
theorem pr_int : PrR X .int (.type "int") := by
  intro pins s σ H xs us Q I r h
  obtain ⟨S, N, ds, d, f, rb, hp, o⟩ := h
  unfold primD at hp
  split at hp <;> (try (rename_i e; cases e)) <;> (try cases hp)
  · obtain ⟨x, rfl, q⟩ := rb.one
    cases q.int_of
    exact call_int1 pins s σ H _ us Q I r (.inl ⟨_, rfl, o.imm (.int _) rfl⟩)
  · obtain ⟨x, rfl, q⟩ := rb.one
    cases q.bl_of
    exact call_int1 pins s σ H _ us Q I r (.inr ⟨_, rfl, o.imm (.int _) rfl⟩)
theorem mmD_of {f : Int → Int → Int} {xs : List D} {d : D} (h : mmD f xs = some d) : ∃ (n : Int) (ns : List Int), xs = .int n :: ns.map PyData.int ∧ d = .int (ns.foldl f n) := by
  unfold mmD at h
  split at h
  · rename_i n ns e
    cases h
    exact ⟨n, ns, intsD_of e, rfl⟩
  · cases h
theorem mm_alike (n : Int) (ns : List Int) : AlikeAll (.int n :: ns.map PyData.int) := by
  have all : ∀ x ∈ (PyData.int n :: ns.map PyData.int), ∃ i, x = .int i := fun x hx => by
    rcases List.mem_cons.mp hx with rfl | hx
    · exact ⟨n, rfl⟩
    · obtain ⟨i, _, rfl⟩ := List.mem_map.mp hx
      exact ⟨i, rfl⟩
  refine ⟨fun x hx y hy => ?_, fun x hx => ?_⟩
  · obtain ⟨i, rfl⟩ := all x hx
    obtain ⟨j, rfl⟩ := all y hy
    rfl
  · obtain ⟨i, rfl⟩ := all x hx
    simp
theorem depth_ints (n : Int) (ns : List Int) : PyData.depthAll (.int n :: ns.map PyData.int) = 0 := by
  have : ∀ l : List Int, PyData.depthAll (l.map PyData.int) = 0 := fun l => by
    induction l with
    | nil => rfl
    | cons a l ih => rw [List.map_cons, PyData.depthAll, ih]; simp [PyData.depth]
  exact this (n :: ns)
theorem reads_int {h : Heap} {v : Value} {i : Int} {as : List Addr} (r : Reads h v (.int i) as) : L2.RelV (.int i) v := by
  cases r
  exact ⟨_, rfl⟩
section
variable {X : Cx} {pins : List (Addr × Obj)} {σ : L2.St} {H : Hp} {s : Shared} {N : Zn}
theorem mm_list (I : Inv X pins σ H s) (hc : X.calm = true) (hu : X.A.units + 64 < cLine) {big : Bool} {a : Addr} {ys : List V} {n : Int} {ns : List Int} (ha : H a = some (.lst ys)) (rr : RpAll N H ys (.int n :: ns.map PyData.int)) {E : Value → Shared → Prop} {Q : VK} (q : Q (.int (ns.foldl (if big = true then max else min) n)) H) :
    wpAny (model X.prog X.w) X.A (call (.builtin (if big = true then "max" else "min")) [.ref a]) (EP X pins σ Q) E s := by
  obtain ⟨its, rv, pt, hz⟩ := I.list (SqL.of ha)
  obtain ⟨as, h1, _⟩ := RpAll.reads I rr rv
  rw [show erL (PyData.int n :: ns.map PyData.int) = PyData.int n :: ns.map PyData.int from erL_ints (n :: ns)] at h1
  cases big with
  | true =>
    refine max_list_data (I.ok.hd hc) pt.isList (vs := its.toArray) (show ReadsAll s.heap its.toArray.toList _ as from h1) (mm_alike n ns) (by rw [depth_ints]; omega) fun i v h' tk bs _ rd hk => ?_
    rw [maxD_ints] at rd
    exact ⟨.int _, H, I.kept (t' := tk) hk, reads_int rd, q⟩
  | false =>
    refine min_list_data (I.ok.hd hc) pt.isList (vs := its.toArray) (show ReadsAll s.heap its.toArray.toList _ as from h1) (mm_alike n ns) (by rw [depth_ints]; omega) fun i v h' tk bs _ rd hk => ?_
    rw [minD_ints] at rd
    exact ⟨.int _, H, I.kept (t' := tk) hk, reads_int rd, q⟩
theorem mm_tup (I : Inv X pins σ H s) (hc : X.calm = true) (hu : X.A.units + 64 < cLine) {big : Bool} {a : Addr} {ys : List V} {n : Int} {ns : List Int} (ha : H a = some (.tup ys)) (rr : RpAll N H ys (.int n :: ns.map PyData.int)) {E : Value → Shared → Prop} {Q : VK} (q : Q (.int (ns.foldl (if big = true then max else min) n)) H) :
    wpAny (model X.prog X.w) X.A (call (.builtin (if big = true then "max" else "min")) [.ref a]) (EP X pins σ Q) E s := by
  obtain ⟨its, rv, pt, hz⟩ := I.tuple (SqT.of ha)
  obtain ⟨as, h1, _⟩ := RpAll.reads I rr rv
  rw [show erL (PyData.int n :: ns.map PyData.int) = PyData.int n :: ns.map PyData.int from erL_ints (n :: ns)] at h1
  cases big with
  | true =>
    refine max_tuple_data (I.ok.hd hc) (show s.heap.IsTuple a its.toArray from pt) (show ReadsAll s.heap its.toArray.toList _ as from h1) (mm_alike n ns) (by rw [depth_ints]; omega) fun i v h' tk bs _ rd hk => ?_
    rw [maxD_ints] at rd
    exact ⟨.int _, H, I.kept (t' := tk) hk, reads_int rd, q⟩
  | false =>
    refine min_tuple_data (I.ok.hd hc) (show s.heap.IsTuple a its.toArray from pt) (show ReadsAll s.heap its.toArray.toList _ as from h1) (mm_alike n ns) (by rw [depth_ints]; omega) fun i v h' tk bs _ rd hk => ?_
    rw [minD_ints] at rd
    exact ⟨.int _, H, I.kept (t' := tk) hk, reads_int rd, q⟩
end
theorem pr_max (hc : X.calm = true) (hu : X.A.units + 64 < cLine) : PrR X .max (.builtin "max") := by
  intro pins s σ H xs us Q I r h
  obtain ⟨S, N, ds, d, f, rb, hp, o⟩ := h
  unfold primD at hp
  split at hp <;> (try (rename_i e; cases e)) <;> (try cases hp)
  · obtain ⟨x, y, rfl, q, q2⟩ := rb.two
    cases q.int_of
    cases q2.int_of
    exact call_max2 hc pins s σ H _ us Q I r ⟨_, _, rfl, o.imm (.int _) rfl⟩
  · obtain ⟨n, ns, rfl, rfl⟩ := mmD_of hp
    obtain ⟨x, rfl, q⟩ := rb.one
    obtain ⟨a, ys, rfl, ha, rr⟩ := q.list_of
    obtain ⟨u, rfl, ru⟩ := r.one
    cases ru
    exact mm_list (big := true) I hc hu ha rr (o.imm (.int _) rfl)
  · obtain ⟨n, ns, rfl, rfl⟩ := mmD_of hp
    obtain ⟨x, rfl, q⟩ := rb.one
    obtain ⟨a, ys, rfl, ha, rr⟩ := q.tup_of
    obtain ⟨u, rfl, ru⟩ := r.one
    cases ru
    exact mm_tup (big := true) I hc hu ha rr (o.imm (.int _) rfl)
theorem pr_min (hc : X.calm = true) (hu : X.A.units + 64 < cLine) : PrR X .min (.builtin "min") := by
  intro pins s σ H xs us Q I r h
  obtain ⟨S, N, ds, d, f, rb, hp, o⟩ := h
  unfold primD at hp
  split at hp <;> (try (rename_i e; cases e)) <;> (try cases hp)
  · obtain ⟨x, y, rfl, q, q2⟩ := rb.two
    cases q.int_of
    cases q2.int_of
    exact call_min2 hc pins s σ H _ us Q I r ⟨_, _, rfl, o.imm (.int _) rfl⟩
  · obtain ⟨n, ns, rfl, rfl⟩ := mmD_of hp
    obtain ⟨x, rfl, q⟩ := rb.one
    obtain ⟨a, ys, rfl, ha, rr⟩ := q.list_of
    obtain ⟨u, rfl, ru⟩ := r.one
    cases ru
    exact mm_list (big := false) I hc hu ha rr (o.imm (.int _) rfl)
  · obtain ⟨n, ns, rfl, rfl⟩ := mmD_of hp
    obtain ⟨x, rfl, q⟩ := rb.one
    obtain ⟨a, ys, rfl, ha, rr⟩ := q.tup_of
    obtain ⟨u, rfl, ru⟩ := r.one
    cases ru
    exact mm_tup (big := false) I hc hu ha rr (o.imm (.int _) rfl)
end
end
set_option maxHeartbeats 2000000
/-! PDy: dict of pairs. -/
section
open PySem L2
variable [Tb]
theorem put_rp {κ : Type} [DecidableEq κ] {N : Zn} {H : Hp} (enc : κ → PD.D) (hq : ∀ a b, PyData.eqv (enc a) (enc b) = decide (a = b)) (k : κ) {v : V} {x : PD.D} (rv : Rp N H v x) {kvs : List (κ × V)} {ds : List PD.D} (r : RpAll N H (kvs.map (·.2)) ds) :
    ∃ es, RpAll N H ((putK kvs k v).map (·.2)) es ∧ dput ((kvs.map fun p => enc p.1).zip ds) (enc k) x = ((putK kvs k v).map fun p => enc p.1).zip es := by
  have h1 : ∀ (kvs : List (κ × V)) (ds : List PD.D), RpAll N H (kvs.map (·.2)) ds → (((kvs.map fun p => enc p.1).zip ds).any fun p => PyData.eqv p.1 (enc k)) = kvs.any fun kv => decide (kv.1 = k) := by
    intro kvs
    induction kvs with
    | nil => intro ds r; simp
    | cons p kvs ih =>
      intro ds r
      cases r with
      | cons r1 rs => simp [hq, ih _ rs]
  have h2 : ∀ (kvs : List (κ × V)) (ds : List PD.D), RpAll N H (kvs.map (·.2)) ds → ∃ es, RpAll N H ((kvs.map (fun kv => if kv.1 = k then (kv.1, v) else kv)).map (·.2)) es ∧
      (((kvs.map fun p => enc p.1).zip ds).map fun p => if PyData.eqv p.1 (enc k) then (p.1, x) else p) = ((kvs.map (fun kv => if kv.1 = k then (kv.1, v) else kv)).map fun p => enc p.1).zip es := by
    intro kvs
    induction kvs with
    | nil => intro ds r; cases r; exact ⟨[], .nil, rfl⟩
    | cons p kvs ih =>
      intro ds r
      cases r with
      | @cons _ _ d ds r1 rs =>
        obtain ⟨es, re, he⟩ := ih _ rs
        by_cases hk : p.1 = k
        · refine ⟨x :: es, ?_, ?_⟩
          · simp only [List.map_cons, if_pos hk]; exact .cons rv re
          · simp [hq, hk, he]
        · refine ⟨d :: es, ?_, ?_⟩
          · simp only [List.map_cons, if_neg hk]; exact .cons r1 re
          · simp [hq, hk, he]
  unfold dput putK
  rw [h1 kvs ds r]
  by_cases ha : (kvs.any fun kv => decide (kv.1 = k)) = true
  · rw [if_pos ha, if_pos ha]
    exact h2 kvs ds r
  · rw [if_neg ha, if_neg ha]
    refine ⟨ds ++ [x], by rw [List.map_append]; exact r.append (.cons rv .nil), ?_⟩
    rw [List.map_append, List.zip_append (by simpa using r.length)]
    rfl
theorem putK_ne {κ : Type} [DecidableEq κ] {kvs : List (κ × V)} {k : κ} {v : V} : putK kvs k v ≠ [] := by
  unfold putK
  split
  · rename_i h
    intro z
    have : kvs = [] := by simpa using z
    subst this
    simp at h
  · simp
def putAll {κ : Type} [DecidableEq κ] (kvs qs : List (κ × V)) : List (κ × V) := qs.foldl (fun acc q => putK acc q.1 q.2) kvs
theorem puts_rp {κ : Type} [DecidableEq κ] {N : Zn} {H : Hp} (enc : κ → PD.D) (hq : ∀ a b, PyData.eqv (enc a) (enc b) = decide (a = b)) : ∀ {qs kvs : List (κ × V)} {ds : List PD.D} {ps : List (D × D)}, RpAll N H (kvs.map (·.2)) ds → ps.map (·.1) = qs.map (fun q => enc q.1) → RpAll N H (qs.map (·.2)) (ps.map (·.2)) →
    ∃ es, RpAll N H ((putAll kvs qs).map (·.2)) es ∧ dputs ((kvs.map fun p => enc p.1).zip ds) ps = ((putAll kvs qs).map fun p => enc p.1).zip es
  | [], kvs, ds, [], r, _, _ => ⟨ds, r, rfl⟩
  | q :: qs, kvs, ds, p :: ps, r, hk, hv => by
    simp only [List.map_cons, List.cons.injEq] at hk
    cases hv with
    | cons v1 vs =>
      obtain ⟨es, re, he⟩ := put_rp enc hq q.1 v1 r
      obtain ⟨es', re', he'⟩ := puts_rp enc hq (qs := qs) (ps := ps) re hk.2 vs
      refine ⟨es', re', ?_⟩
      show dputs (dput _ p.1 p.2) ps = _
      rw [hk.1, he, he']; rfl
  | [], _, _, _ :: _, _, hk, _ => by simp at hk
  | _ :: _, _, _, [], _, hk, _ => by simp at hk
theorem putAll_len {κ : Type} [DecidableEq κ] : ∀ (qs kvs : List (κ × V)), (putAll kvs qs).length ≤ kvs.length + qs.length
  | [], _ => Nat.le_refl _
  | q :: qs, kvs => by
    have h1 := putAll_len qs (putK kvs q.1 q.2)
    have h2 := length_putK kvs q.1 q.2
    show (putAll (putK kvs q.1 q.2) qs).length ≤ _
    simp only [List.length_cons]; omega
/-- pairs in tuples, keys of one sort -/
inductive KPs (N : Zn) (H : Hp) : List Addr → List (Key × V) → List (D × D) → Prop
  | nil : KPs N H [] [] []
  | cons {A k v x As qs ps} : H A = some (.tup [kV k, v]) → Rp N H v x → KPs N H As qs ps → KPs N H (A :: As) ((k, v) :: qs) ((keyD k, x) :: ps)
inductive TPs (N : Zn) (H : Hp) : List Addr → List Addr → List (List Key × V) → List (D × D) → Prop
  | nil : TPs N H [] [] [] []
  | cons {A b k v x As bs qs ps} : H A = some (.tup [.ref b, v]) → H b = some (.tup (k.map kV)) → Rp N H v x → TPs N H As bs qs ps → TPs N H (A :: As) (b :: bs) ((k, v) :: qs) ((tkeyD k, x) :: ps)
theorem kps_of {N : Zn} {H : Hp} : ∀ {vs : List V} {xs : List D} {ps : List (D × D)}, RpAll N H vs xs → pairsD xs = some ps → ps.all (fun p => isKey1 p.1) = true → ∃ As qs, vs = As.map V.ref ∧ KPs N H As qs ps
  | [], [], ps, _, h, _ => by cases h; exact ⟨[], [], rfl, .nil⟩
  | v :: vs, x :: xs, ps, .cons r rs, h, ha => by
    unfold pairsD at h
    split at h
    · rename_i e; cases e
    · rename_i k y r' e
      cases e
      obtain ⟨ps', h', rfl⟩ := Option.map_eq_some_iff.mp h
      rw [List.all_cons, Bool.and_eq_true] at ha
      obtain ⟨As, qs, e, t⟩ := kps_of rs h' ha.2
      obtain ⟨a, us, rfl, hA, ru⟩ := (RpB.of r).tup_of
      cases ru with
      | cons r1 ru => cases ru with
        | cons r2 ru => cases ru with
          | nil =>
            obtain ⟨k', rfl⟩ := key1_of ha.1
            cases Rp.key (.of r1)
            exact ⟨a :: As, _, by simp [e], .cons hA r2 t⟩
    · cases h
theorem tps_of {N : Zn} {H : Hp} : ∀ {vs : List V} {xs : List D} {ps : List (D × D)}, RpAll N H vs xs → pairsD xs = some ps → ps.all (fun p => isTk p.1) = true → ∃ As bs qs, vs = As.map V.ref ∧ TPs N H As bs qs ps
  | [], [], ps, _, h, _ => by cases h; exact ⟨[], [], [], rfl, .nil⟩
  | v :: vs, x :: xs, ps, .cons r rs, h, ha => by
    unfold pairsD at h
    split at h
    · rename_i e; cases e
    · rename_i k y r' e
      cases e
      obtain ⟨ps', h', rfl⟩ := Option.map_eq_some_iff.mp h
      rw [List.all_cons, Bool.and_eq_true] at ha
      obtain ⟨As, bs, qs, e, t⟩ := tps_of rs h' ha.2
      obtain ⟨a, us, rfl, hA, ru⟩ := (RpB.of r).tup_of
      cases ru with
      | cons r1 ru => cases ru with
        | cons r2 ru => cases ru with
          | nil =>
            obtain ⟨ks, rfl⟩ : ∃ ks, k = tkeyD ks := by
              have h1 := ha.1
              unfold isTk at h1
              split at h1
              · rename_i hk
                obtain ⟨ks, e⟩ := key1s_of h1
                exact ⟨ks, (show k = _ from hk).trans (by rw [e]; rfl)⟩
              · cases h1
            obtain ⟨b, rfl, hb⟩ := Rp.tkey (.of r1)
            exact ⟨a :: As, b :: bs, _, by simp [e], .cons hA hb r2 t⟩
    · cases h
theorem KPs.facts {N : Zn} {H : Hp} {K : PySem.W.Frag} : ∀ {As : List Addr} {qs : List (Key × V)} {ps : List (D × D)}, KPs N H As qs ps → Paired (fun p kv => SqT K H p [kV kv.1, kv.2]) As qs ∧ ps.map (·.1) = qs.map (fun q => keyD q.1) ∧ RpAll N H (qs.map (·.2)) (ps.map (·.2))
  | _, _, _, .nil => ⟨.nil, rfl, .nil⟩
  | _, _, _, .cons h r t => ⟨.cons (SqT.of h) (KPs.facts t).1, by simp [(KPs.facts (K := K) t).2.1], .cons r (KPs.facts (K := K) t).2.2⟩
section
variable {X : Cx}
theorem TPs.facts {N : Zn} {H : Hp} {pins : List (Addr × Obj)} {σ : L2.St} {s : Shared} (I : L2.Inv X pins σ H s) : ∀ {As bs : List Addr} {qs : List (List Key × V)} {ps : List (D × D)}, TPs N H As bs qs ps →
    ps.map (·.1) = qs.map (fun q => tkeyD q.1) ∧ RpAll N H (qs.map (·.2)) (ps.map (·.2)) ∧ ∃ prs : List (List Key × Addr × Value), KT H qs prs ∧ prs.length = As.length ∧ ∀ (j : Nat) (k : List Key) (b : Addr) (u : Value), prs[j]? = some (k, b, u) → ∃ A : Addr, As[j]? = some A ∧ s.heap.IsTuple A #[.ref b, u]
  | _, _, _, _, .nil => ⟨rfl, .nil, [], .nil, rfl, fun j k b u h => by simp at h⟩
  | _, _, _, _, .cons (A := A) (b := b) (k := k) (v := v) h1 h2 r t => by
    obtain ⟨e1, e2, prs, kt, hl, hp⟩ := TPs.facts I t
    obtain ⟨its, rv, ht, _⟩ := I.tuple (SqT.of h1)
    obtain ⟨u0, u, rfl, r1, r2⟩ := L2.Vals.two rv
    cases r1
    refine ⟨by simp [e1], .cons r e2, (k, b, u) :: prs, .cons ⟨rfl, h2, r2⟩ kt, by simp [hl], fun j k' b' u' hj => ?_⟩
    cases j with
    | zero => cases hj; exact ⟨A, rfl, ht⟩
    | succ j =>
      obtain ⟨A', ha, hA⟩ := hp j k' b' u' (by simpa using hj)
      exact ⟨A', by simpa using ha, hA⟩
theorem KT.all {H : Hp} : ∀ {qs kvs : List (List Key × V)} {prs xs : List (List Key × Addr × Value)}, KT H kvs xs → KT H qs prs → KT H (putAll kvs qs) (storedAllH xs prs)
  | _, _, _, _, r, .nil => r
  | _, _, _, _, r, .cons (a := q) (b := p) h t => by
    obtain ⟨e1, e2, e3⟩ := h
    have := KT.put r q.1 e2 e3
    rw [show q.1 = p.1 from e1] at this
    show KT H (putAll (putK _ q.1 q.2) _) (storedAllH (storedH _ p.1 p.2.1 p.2.2) _)
    rw [show q.1 = p.1 from e1]
    exact KT.all this t
theorem mergeK_putAll (qs kvs : List (Key × V)) : mergeK kvs qs = putAll kvs qs := rfl
theorem pr_dictOf (hc : X.calm = true) (hu : X.A.units + 64 < cLine) : PrR X .dictOf (.type "dict") := by
  intro pins s σ H xs us Q I r h
  obtain ⟨S, N, ds, d, f, rb, hp, o⟩ := h
  unfold primD at hp
  split at hp <;> (try (rename_i e; cases e)) <;> (try cases hp)
  obtain ⟨ps, hps, hp⟩ := Option.bind_eq_some_iff.mp hp
  obtain ⟨x, rfl, q⟩ := rb.one
  obtain ⟨a, vs, rfl, ha, rr⟩ := q.list_of
  split at hp
  · rename_i hk
    cases hp
    by_cases hk1 : ps.all (fun p => isKey1 p.1) = true
    · obtain ⟨As, qs, rfl, t⟩ := kps_of rr hps hk1
      obtain ⟨t1, t2, t3⟩ := t.facts (K := X.K)
      obtain ⟨es, re, he⟩ := puts_rp keyD keyD_eqv (kvs := []) (ds := []) .nil t2 t3
      refine call_dictP hc pins s σ H _ us Q I r ⟨a, As, qs, rfl, SqL.of ha, t1, fun p hp => ?_⟩
      have he' : dputs [] ps = _ := he
      rw [he'] at o
      exact o _ _ (Ext.new hp) (.dK (f.ne hp) upd_same (re.ext (Ext.new hp) f)) fun _ _ => ⟨p, rfl, hp, .dK upd_same (re.move (Ext.new hp) f fun b z => z.elim .inl fun z => .inr (z ▸ hp))⟩
    · have hk2 : ps.all (fun p => isTk p.1) = true := by
        rw [Bool.or_eq_true] at hk
        exact hk.resolve_left hk1
      obtain ⟨As, bs, qs, rfl, t⟩ := tps_of rr hps hk2
      obtain ⟨t2, t3, prs, kt, hl, hA⟩ := t.facts I
      obtain ⟨u, rfl, rx⟩ := r.one
      cases rx
      obtain ⟨its, rv, pl, hz⟩ := I.list (SqL.of (K := X.K) ha)
      have ei := refs_at rv
      subst ei
      rw [List.length_map] at hz
      have hne : ps ≠ [] := fun z => by subst z; exact hk1 rfl
      have hprs : prs ≠ [] := fun z => by
        subst z
        cases kt
        cases ps with
        | nil => exact hne rfl
        | cons p ps => simp at t2
      let pr : List (Value × Value) := prs.map fun x => (.ref x.2.1, x.2.2)
      have hpl : pr.length = As.length := by simp [pr, hl]
      have hpr : ∀ (i : Nat) (key v : Value), pr[i]? = some (key, v) → ∃ k b, prs[i]? = some (k, b, v) ∧ key = .ref b := fun i key v hi => by
        simp only [pr, List.getElem?_map] at hi
        obtain ⟨⟨k, b, u⟩, h1, h2⟩ := Option.map_eq_some_iff.mp hi
        cases h2
        exact ⟨k, b, h1, rfl⟩
      have kin : ∀ x ∈ prs, H x.2.1 = some (.tup (x.1.map kV)) := by
        have : ∀ {qs : List (List Key × V)} {prs : List (List Key × Addr × Value)}, KT H qs prs → ∀ x ∈ prs, H x.2.1 = some (.tup (x.1.map kV)) := by
          intro qs prs kt
          induction kt with
          | nil => intro x hx; cases hx
          | cons h t ih =>
            intro x hx
            rcases List.mem_cons.mp hx with rfl | hx
            · obtain ⟨e1, e2, _⟩ := h
              rw [← e1]; exact e2
            · exact ih x hx
        exact this kt
      refine call_dict_pairsH (knd := tupleKind (mixKind X.prog X.w)) (ps := prs) (PairArg.list a (As.map Value.ref).toArray (fun j => As.getD j 0) pr) (I.ok.hd hc) (by show X.A.units + 1 + 1 < cLine; omega) ⟨pl, ?_, fun j k v hj => ?_⟩ ⟨by simp [pr], hpr⟩ (fun h' hk' x hx => ?_) (by rw [hpl]; exact hz) fun h' tk hd' hkeep => ?_
      · simp [hpl]
      · obtain ⟨k', b, h1, rfl⟩ := hpr j k v hj
        obtain ⟨A, hA1, hA2⟩ := hA j k' b v h1
        refine ⟨?_, ?_⟩
        · simp [hA1, List.getD]
        · show PairAt s.heap (As.getD j 0) _ _
          rw [show As.getD j 0 = A by simp [List.getD, hA1]]
          exact .inl hA2
      · obtain ⟨o', its', n', h1, h2⟩ := key_of (ks := x.1) I.hok (kin x hx)
        exact ⟨o', its', n', hk' _ _ (Nat.ne_of_lt (Heap.lt_size h1)) (by simp) h1, h2⟩
      · obtain ⟨es, re, he⟩ := puts_rp tkeyD tkeyD_eqv (kvs := []) (ds := []) .nil t2 t3
        have he' : dputs [] ps = _ := he
        rw [he'] at o
        have hp := I.hok.fresh (Nat.le_refl s.heap.objs.size)
        have hm : (s.heap.objs.size == sysModules) = false := beq_eq_false_iff_ne.mpr (Nat.ne_of_gt I.big)
        have kt2 : KT H (putAll [] qs) (storedAllH [] prs) := KT.all .nil kt
        have hqs : qs ≠ [] := fun z => by subst z; cases kt; exact hprs rfl
        have hne2 : putAll [] qs ≠ [] := by
          intro z
          have e2 := re.length
          rw [z] at e2 he'
          have hz2 : dputs [] ps = [] := by rw [he']; simp
          have key : ∀ (ps acc : List (D × D)), dputs acc ps = [] → ps = [] := by
            intro ps
            induction ps with
            | nil => intro acc _; rfl
            | cons p ps ih =>
              intro acc h
              have := ih _ (show dputs (dput acc p.1 p.2) ps = [] from h)
              subst this
              have h : dput acc p.1 p.2 = [] := h
              unfold dput at h
              split at h
              · rename_i hh
                have : acc = [] := by simpa using h
                subst this; simp at hh
              · simp at h
          exact hne (key _ _ hz2)
        have ob : ObjOk X.prog X.w (upd H s.heap.objs.size (.dT (putAll [] qs))) h' s.heap.objs.size (.dT (putAll [] qs)) := by
          obtain ⟨q, ents, ep, g1, g2, g3, g4, _, g5⟩ := hd'
          refine ⟨?_, hm, storedAllH [] prs, kt2.keeps fun b ys e => ?_, q, ents, ep, g1, g2, g3, g4, g5⟩
          · have h1 := putAll_len qs ([] : List (List Key × V))
            have h2 : qs.length = prs.length := Paired.length kt
            simp only [List.length_nil, Nat.zero_add] at h1
            omega
          · rw [upd_ne (ne_of_none e hp)]; exact e
        refine ⟨.ref s.heap.objs.size, _, I.laid (t' := tk) (fun b q e => hkeep b q (by simp) e) (Nat.le_refl _) ob, rfl, ?_⟩
        exact o _ _ (Ext.new hp) (.dT (f.ne hp) hne2 upd_same (re.ext (Ext.new hp) f)) fun _ _ => ⟨_, rfl, hp, .dT hne2 upd_same (re.move (Ext.new hp) f fun b z => z.elim .inl fun z => .inr (z ▸ hp))⟩
  · cases hp
end
end
/-! PDk: targets, what is walked, list comprehensions. -/
section
open PySem L2
variable [Tb]

section
variable {S : Src} {P P' : Zn} {ρ ρ' : Nv} {σ σ' : L2.St} {H H' H1 : Hp} {N N' : Zn}
theorem own_wipe : ∀ {vs : List Nat} {a : Addr}, OwnAt (wipeN ρ vs) (wipe σ vs) a → OwnAt ρ σ a
  | vs, a, ⟨i, d, h1, h2⟩ => ⟨i, d, by
      induction vs with
      | nil => exact h1
      | cons v vs ih =>
        have h2' := (wipe_some (vs := v :: vs) h2)
        simp only [List.mem_cons, not_or] at h2'
        have e : (wipeN ρ (v :: vs))[i]? = (wipeN ρ vs)[i]? := by
          show ((wipeN ρ vs).set v none)[i]? = _
          rw [List.getElem?_set_ne (Ne.symm h2'.2.1)]
        rw [e] at h1
        have e2 : (wipe σ (v :: vs))[i]? = (wipe σ vs)[i]? := by
          show ((wipe σ vs).set v none)[i]? = _
          rw [List.getElem?_set_ne (Ne.symm h2'.2.1)]
        rw [e2] at h2
        exact ih h1 h2, (wipe_some h2).1⟩
theorem wipeN_length (ρ : Nv) : ∀ vs : List Nat, (wipeN ρ vs).length = ρ.length
  | [] => rfl
  | v :: vs => by unfold wipeN; rw [List.length_set, wipeN_length ρ vs]
theorem wipeN_some {i : Nat} {b : B} : ∀ {vs : List Nat}, (wipeN ρ vs)[i]? = some (some b) → ρ[i]? = some (some b) ∧ i ∉ vs
  | [], h => ⟨h, by simp⟩
  | v :: vs, h => by
    unfold wipeN at h
    by_cases hi : v = i
    · subst hi
      by_cases hv : v < (wipeN ρ vs).length
      · rw [List.getElem?_set_self hv] at h; cases h
      · rw [List.getElem?_eq_none (by simpa using hv)] at h; cases h
    · rw [List.getElem?_set_ne hi] at h
      obtain ⟨h1, h2⟩ := wipeN_some h
      exact ⟨h1, by simp only [List.mem_cons, not_or]; exact ⟨fun e => hi e.symm, h2⟩⟩
theorem wipe_keep {i : Nat} : ∀ {vs : List Nat}, i ∉ vs → (wipe σ vs)[i]? = σ[i]?
  | [], _ => rfl
  | v :: vs, h => by
    simp only [List.mem_cons, not_or] at h
    show ((wipe σ vs).set v none)[i]? = _
    rw [List.getElem?_set_ne (Ne.symm h.1)]
    exact wipe_keep h.2
theorem Rel.shrink (R : Rel S P ρ σ H) (vs : List Nat) : Rel S P (wipeN ρ vs) (L2.wipe σ vs) H := by
  have hN : ∀ a, Nn P (wipeN ρ vs) (L2.wipe σ vs) a → Nn P ρ σ a := fun a h => h.elim .inl fun q => .inr (own_wipe q)
  refine ⟨by rw [wipeN_length, wipe_length]; exact R.len, R.sub, R.fitP, R.inv, fun i d h => ?_, fun i d h => ?_, fun i j d e' a h1 h2 h3 h4 => R.dis i j d e' a (wipeN_some h1).1 (wipeN_some h2).1 (wipe_some h3).1 (wipe_some h4).1, fun i h => ?_⟩
  · obtain ⟨h1, h2⟩ := wipeN_some h
    obtain ⟨v, q, r⟩ := R.sh i d h1
    exact ⟨v, by rw [wipe_keep h2]; exact q, r.less hN⟩
  · obtain ⟨h1, h2⟩ := wipeN_some h
    obtain ⟨a, q, l, r, n⟩ := R.own i d h1
    exact ⟨a, by rw [wipe_keep h2]; exact q, l, r.less hN, n⟩
  · obtain ⟨h1, h2⟩ := wipeN_some h
    rw [wipe_keep h2]; exact R.src i h1
theorem own_free {vs : List Nat} (hf : free ρ vs = true) {a : Addr} (h : OwnAt ρ σ a) : OwnAt (wipeN ρ vs) (L2.wipe σ vs) a := by
  obtain ⟨i, d, h1, h2⟩ := h
  have hi : i ∉ vs := fun z => by
    have := List.all_eq_true.mp hf i z
    rw [h1] at this
    cases this
  refine ⟨i, d, ?_, by rw [wipe_keep hi]; exact h2⟩
  clear hf
  induction vs with
  | nil => exact h1
  | cons v vs ih =>
    simp only [List.mem_cons, not_or] at hi
    show ((wipeN ρ vs).set v none)[i]? = _
    rw [List.getElem?_set_ne (Ne.symm hi.1)]
    exact ih hi.2
/-- a new place is kept away -/
theorem Rel.prot (R : Rel S P ρ σ H) {p : Addr} {o : HO} (hp : H p = none) (m : Mut (some o)) : Rel S (fun a => P a ∨ a = p) ρ σ (upd H p o) := by
  have hN : ∀ a, Nn (fun a => P a ∨ a = p) ρ σ a → Nn P ρ σ a ∨ H a = none := fun a h => by
    rcases h with (h | h) | h
    · exact .inl (.inl h)
    · exact .inr (h ▸ hp)
    · exact .inl (.inr h)
  have e : Ext (Nn P ρ σ) H (upd H p o) := Ext.new hp
  refine ⟨R.len, fun a h => .inl (R.sub a h), ⟨fun a h => ?_⟩, S.ext R.inv (Ext.new hp), fun i d h => ?_, fun i d h => ?_, R.dis, R.src⟩
  · rcases h with h | rfl
    · obtain ⟨q, h1, h2⟩ := R.fitP.dom a h
      exact ⟨q, by rw [upd_ne (ne_of_none h1 hp)]; exact h1, h2⟩
    · exact ⟨o, upd_same, .of m⟩
  · obtain ⟨v, q, r⟩ := R.sh i d h
    exact ⟨v, q, r.move e R.fit hN⟩
  · obtain ⟨a, q, l, r, n⟩ := R.own i d h
    refine ⟨a, q, l, r.move e R.fit hN (fun b o' eb hb => by rw [upd_ne (ne_of_none hb hp)]; exact hb), fun z => ?_⟩
    rcases z with z | z
    · exact n z
    · obtain ⟨o', ho', _⟩ := r.list_at l
      rw [z, hp] at ho'; cases ho'
/-- what is kept away may change -/
theorem Rel.extP (R : Rel S P ρ σ H) {M : Zn} (hM : ∀ a, M a → P a) (e : Ext M H H') (i : S.inv H') (f : Fit P H') : Rel S P ρ σ H' where
  len := R.len
  sub := R.sub
  fitP := f
  inv := i
  sh := fun j d h => by
    obtain ⟨v, q, r⟩ := R.sh j d h
    exact ⟨v, q, r.ext (e.mono fun a z => .inl (hM a z)) R.fit⟩
  own := fun j d h => by
    obtain ⟨a, q, l, r, n⟩ := R.own j d h
    exact ⟨a, q, l, r.extA R.fit (e.mono fun a z => .inl (hM a z)) (fun b o eb hb => by cases eb; exact e _ o hb fun z => n (hM _ z)), n⟩
  dis := R.dis
  src := R.src

/-! ### targets -/
theorem own_set {i : Nat} {d : D} {v : V} {a : Addr} (h : OwnAt (ρ.set i (some (.sh d))) (σ.set i (some v)) a) : OwnAt ρ σ a := by
  obtain ⟨j, e, h1, h2⟩ := h
  by_cases hj : i = j
  · subst hj
    by_cases hl : i < ρ.length
    · rw [List.getElem?_set_self hl] at h1; cases h1
    · rw [List.getElem?_eq_none (by simpa using hl)] at h1; cases h1
  · rw [List.getElem?_set_ne hj] at h1 h2
    exact ⟨j, e, h1, h2⟩
theorem Rel.set (R : Rel S P ρ σ H) (i : Nat) {v : V} {d : D} (r : Rp (Nn P ρ σ) H v d) : Rel S P (ρ.set i (some (.sh d))) (σ.set i (some v)) H := by
  have hN : ∀ a, Nn P (ρ.set i (some (.sh d))) (σ.set i (some v)) a → Nn P ρ σ a := fun a h => h.elim .inl fun q => .inr (own_set q)
  have key : ∀ (j : Nat) (b : B), i ≠ j → (ρ.set i (some (.sh d)))[j]? = some (some b) → ρ[j]? = some (some b) := fun j b hj h => by rwa [List.getElem?_set_ne hj] at h
  have ne : ∀ (j : Nat) (e : D), (ρ.set i (some (.sh d)))[j]? = some (some (.own e)) → i ≠ j := fun j e h z => by
    subst z
    by_cases hl : i < ρ.length
    · rw [List.getElem?_set_self hl] at h; cases h
    · rw [List.getElem?_eq_none (by simpa using hl)] at h; cases h
  refine ⟨by simp [R.len], R.sub, R.fitP, R.inv, fun j e h => ?_, fun j e h => ?_, fun j k e f a h1 h2 h3 h4 => ?_, fun j h => ?_⟩
  · by_cases hj : i = j
    · subst hj
      have hl : i < ρ.length := by
        by_cases hl : i < ρ.length
        · exact hl
        · rw [List.getElem?_eq_none (by simpa using hl)] at h; cases h
      rw [List.getElem?_set_self hl] at h
      cases h
      exact ⟨v, by rw [List.getElem?_set_self (by rw [← R.len]; exact hl)], r.less hN⟩
    · obtain ⟨w, q, rw'⟩ := R.sh j e (key j _ hj h)
      exact ⟨w, by rw [List.getElem?_set_ne hj]; exact q, rw'.less hN⟩
  · have hj := ne j e h
    obtain ⟨a, q, l, rw', n⟩ := R.own j e (key j _ hj h)
    exact ⟨a, by rw [List.getElem?_set_ne hj]; exact q, l, rw'.less hN, n⟩
  · have hj := ne j e h1
    have hk := ne k f h2
    rw [List.getElem?_set_ne hj] at h1 h3
    rw [List.getElem?_set_ne hk] at h2 h4
    exact R.dis j k e f a h1 h2 h3 h4
  · by_cases hj : i = j
    · subst hj
      by_cases hl : i < ρ.length
      · rw [List.getElem?_set_self hl] at h; cases h
      · rw [List.getElem?_eq_none (by simpa using hl)] at h; cases h
    · rw [List.getElem?_set_ne hj]; exact R.src j (key j _ hj h)
/-- which slots may be another's behind a target -/
def Sto (vs : List Nat) (ρ ρ' : Nv) (σ σ' : L2.St) : Prop := ∀ i, i ∉ vs → ρ'[i]? = ρ[i]? ∧ σ'[i]? = σ[i]?
theorem Sto.refl {vs : List Nat} : Sto vs ρ ρ σ σ := fun _ _ => ⟨rfl, rfl⟩
theorem Sto.trans {vs ws : List Nat} {ρ2 : Nv} {σ2 : L2.St} (a : Sto vs ρ ρ' σ σ') (b : Sto ws ρ' ρ2 σ' σ2) : Sto (vs ++ ws) ρ ρ2 σ σ2 := fun i h => by
  simp only [List.mem_append, not_or] at h
  exact ⟨(b i h.2).1.trans (a i h.1).1, (b i h.2).2.trans (a i h.1).2⟩
theorem wipe_at {i : Nat} : ∀ {vs : List Nat}, i ∈ vs → i < σ.length → (L2.wipe σ vs)[i]? = some none
  | v :: vs, h, hl => by
    show ((L2.wipe σ vs).set v none)[i]? = _
    by_cases e : v = i
    · subst e; rw [List.getElem?_set_self (by rw [wipe_length]; exact hl)]
    · rw [List.getElem?_set_ne e]
      exact wipe_at ((List.mem_cons.mp h).resolve_left (Ne.symm e)) hl
theorem Sto.wipe {vs : List Nat} (h : Sto vs ρ ρ' σ σ') (hl : σ'.length = σ.length) : L2.wipe σ' vs = L2.wipe σ vs := by
  apply List.ext_getElem?
  intro i
  by_cases hi : i ∈ vs
  · by_cases hl2 : i < σ.length
    · rw [wipe_at hi hl2, wipe_at hi (by omega)]
    · rw [List.getElem?_eq_none (by rw [wipe_length]; omega), List.getElem?_eq_none (by rw [wipe_length]; omega)]
  · rw [wipe_keep hi, wipe_keep hi, (h i hi).2]
theorem Sto.own {vs : List Nat} (h : Sto vs ρ ρ' σ σ') (hf : free ρ vs = true) {a : Addr} (o : OwnAt ρ σ a) : OwnAt ρ' σ' a := by
  obtain ⟨i, d, h1, h2⟩ := o
  have hi : i ∉ vs := fun z => by
    have := List.all_eq_true.mp hf i z
    rw [h1] at this
    cases this
  exact ⟨i, d, by rw [(h i hi).1]; exact h1, by rw [(h i hi).2]; exact h2⟩
/-- a target's reading -/
def tG (g : G) : TG := fun v σ H Q => ∃ S P ρ d ρ', Rel S P ρ σ H ∧ Rp (Nn P ρ σ) H v d ∧ asg g d ρ = some ρ' ∧ ∀ σ', Rel S P ρ' σ' H → Sto (gSlots g) ρ ρ' σ σ' → (∀ a, Nn P ρ' σ' a → Nn P ρ σ a) → Q σ' H
def tGs (gs : List G) : TGs := fun vs σ H Q => ∃ S P ρ ds ρ', Rel S P ρ σ H ∧ RpAll (Nn P ρ σ) H vs ds ∧ asgs gs ds ρ = some ρ' ∧ ∀ σ', Rel S P ρ' σ' H → Sto (gsSlots gs) ρ ρ' σ σ' → (∀ a, Nn P ρ' σ' a → Nn P ρ σ a) → Q σ' H
end
section
variable {X : Cx}
theorem PG.weak {x : PySem.Expr} {t t' : TG} (h : PG X x t) (w : ∀ v σ H Q, t' v σ H Q → t v σ H Q) : PG X x t' := ⟨fun pins s σ H v u Q I r q => h.run pins s σ H v u Q I r (w v σ H Q q)⟩
theorem PGs.weak {x : List PySem.Expr} {t t' : TGs} (h : PGs X x t) (w : ∀ v σ H Q, t' v σ H Q → t v σ H Q) : PGs X x t' := ⟨fun pins s σ H v u Q I r q => h.run pins s σ H v u Q I r (w v σ H Q q)⟩
theorem assignEach_cons (e : PySem.Expr) (es : List PySem.Expr) (env : PySem.Env) (h : notStar e = true) : (assignEach (e :: es) env).map (·.2) = assign e env :: (assignEach es env).map (·.2) := by
  cases e <;> first | rfl | cases h
theorem chkG_star {N : List Str} {sc : Scope} {own : Str → Bool} {g : G} {x : PySem.Expr} (h : chkG N sc own g x = true) : notStar x = true := by
  cases g <;> cases x <;> first | rfl | (unfold chkG at h; cases h)
theorem chkGs_shape {N : List Str} {sc : Scope} {own : Str → Bool} {env : PySem.Env} : ∀ {gs : List G} {xs : List PySem.Expr}, chkGs N sc own gs xs = true → (assignEach xs env).length = gs.length ∧ (assignEach xs env).findIdx? (·.1) = none
  | [], [], _ => ⟨rfl, rfl⟩
  | g :: gs, x :: xs, h => by
    unfold chkGs at h
    rw [Bool.and_eq_true] at h
    obtain ⟨h1, h2⟩ := chkGs_shape (env := env) h.2
    have hs := chkG_star h.1
    have e : assignEach (x :: xs) env = (false, assign x env) :: assignEach xs env := by cases x <;> first | rfl | cases hs
    rw [e]
    refine ⟨by simp [h1], ?_⟩
    rw [List.findIdx?_cons]
    simp [h2]
  | [], _ :: _, h => by unfold chkGs at h; cases h
  | _ :: _, [], h => by unfold chkGs at h; cases h
theorem asgs_len {ρ ρ' : Nv} : ∀ {gs : List G} {ds : List D}, asgs gs ds ρ = some ρ' → ds.length = gs.length
  | [], [], _ => rfl
  | g :: gs, d :: ds, h => by
    unfold asgs at h
    obtain ⟨ρ1, _, e2⟩ := Option.bind_eq_some_iff.mp h
    simp [asgs_len e2]
  | [], _ :: _, h => by unfold asgs at h; cases h
  | _ :: _, [], h => by unfold asgs at h; cases h
theorem PG.or {x : PySem.Expr} {t t' : TG} (h : PG X x t) (h' : PG X x t') : PG X x (fun v σ H Q => t v σ H Q ∨ t' v σ H Q) := ⟨fun pins s σ H v u Q I r q => q.elim (h.run pins s σ H v u Q I r) (h'.run pins s σ H v u Q I r)⟩
mutual
theorem okG {own : Str → Bool} (hN : X.N.Nodup) (hc : X.calm = true) (ho : ∀ x, own x = true → X.fn x = true ∨ X.env.scope.names.lookup x = some .local) : ∀ (g : G) (x : PySem.Expr), chkG X.N X.env.scope own g x = true → PG X x (tG g)
  | .v i, .Name x p, h => by
    unfold chkG at h
    simp only [Bool.and_eq_true, decide_eq_true_eq] at h
    have h2 := h.1.2
    unfold locB at h2
    have hl : L2.Loc X.env.scope x := by
      unfold L2.Loc
      split at h2 <;> first | exact .inl (by assumption) | exact .inr (by assumption) | cases h2
    refine PG.weak (pg_name (i := i) hN h.1.1 hl (ho x h.2)) fun v σ H Q ⟨S, P, ρ, d, ρ', R, r, e, q⟩ => ?_
    unfold asg at e
    cases e
    refine q _ (R.set i r) (fun j hj => ?_) fun a z => z.elim .inl fun q => .inr (own_set q)
    have : i ≠ j := fun z => hj (by simp [gSlots, z])
    exact ⟨List.getElem?_set_ne this, List.getElem?_set_ne this⟩
  | .tup gs, .Tuple es k p, h => by
    unfold chkG at h
    obtain ⟨s1, s2⟩ := chkGs_shape (env := X.env) h
    have hh := okGs hN hc ho gs es h
    refine PG.weak (PG.or (pg_tup (k := k) (pos := p) (n := gs.length) hc hh s1 s2) (pg_unl (k := k) (pos := p) (n := gs.length) hc hh s1 s2)) fun v σ H Q ⟨S, P, ρ, d, ρ', R, r, e, q⟩ => ?_
    cases d with
    | tuple ds =>
      unfold asg at e
      obtain ⟨a, xs, rfl, ha, rr⟩ := (RpB.of r).tup_of
      exact .inl ⟨a, xs, rfl, SqT.of ha, by rw [rr.length]; exact asgs_len e, S, P, ρ, ds, ρ', R, rr, e, q⟩
    | list ds =>
      unfold asg at e
      obtain ⟨a, xs, rfl, ha, rr⟩ := (RpB.of r).list_of
      exact .inr ⟨a, xs, rfl, SqL.of ha, by rw [rr.length]; exact asgs_len e, S, P, ρ, ds, ρ', R, rr, e, q⟩
    | none => unfold asg at e; cases e
    | bool _ => unfold asg at e; cases e
    | int _ => unfold asg at e; cases e
    | str _ => unfold asg at e; cases e
    | dict _ => unfold asg at e; cases e
theorem okGs {own : Str → Bool} (hN : X.N.Nodup) (hc : X.calm = true) (ho : ∀ x, own x = true → X.fn x = true ∨ X.env.scope.names.lookup x = some .local) : ∀ (gs : List G) (xs : List PySem.Expr), chkGs X.N X.env.scope own gs xs = true → PGs X xs (tGs gs)
  | [], [], h => PGs.weak pgs_nil fun v σ H Q ⟨S, P, ρ, d, ρ', R, r, e, q⟩ => by
    cases d with
    | nil => cases r; unfold asgs at e; cases e; exact ⟨rfl, q σ R Sto.refl fun a z => z⟩
    | cons _ _ => unfold asgs at e; cases e
  | g :: gs, x :: xs, h => by
    unfold chkGs at h
    rw [Bool.and_eq_true] at h
    refine PGs.weak (pgs_cons (okG hN hc ho g x h.1) (okGs hN hc ho gs xs h.2) (assignEach_cons x xs X.env (chkG_star h.1))) fun v σ H Q ⟨S, P, ρ, d, ρ', R, r, e, q⟩ => ?_
    cases d with
    | nil => unfold asgs at e; cases e
    | cons d ds =>
      cases r with
      | cons r1 rs =>
        unfold asgs at e
        obtain ⟨ρ1, e1, e2⟩ := Option.bind_eq_some_iff.mp e
        refine ⟨_, _, rfl, S, P, ρ, d, ρ1, R, r1, e1, fun σ1 R1 st1 n1 => ?_⟩
        refine ⟨S, P, ρ1, ds, ρ', R1, rs.less n1, e2, fun σ2 R2 st2 n2 => ?_⟩
        exact q σ2 R2 (st1.trans st2) fun a z => n1 a (n2 a z)
end
end
end
/-! PDl: walks, list comprehensions, calls. -/
section
open PySem L2 RZ
variable [Tb]

/-- J gives, from H1 on, what ds tells, while all but M stands -/
structure Wk (M N : Zn) (H1 : Hp) (J : L2.It) (ds : List D) : Prop where
  len : ds.length ≤ sizeLine
  go : ∀ i H d, Ext M H1 H → ds[i]? = some d → J.go i H
  yld : ∀ i H d x H', Ext M H1 H → ds[i]? = some d → J.yld i H x H' → Ext No H H' ∧ ∀ N', (∀ a, N' a → N a ∨ H1 a = none) → Rp N' H' x d
  stop : ∀ i H, Ext M H1 H → ds.length ≤ i → J.stop i H

section
variable {C : Calls} {X : Cx} {tb : List (Str × Nat)} {tg : PySem.Expr}
theorem PI.weak {x : PySem.Expr} {t t' : TI} (h : PI X tg x t) (w : ∀ σ H Q, t' σ H Q → t σ H Q) : PI X tg x t' := ⟨fun pins s σ H R I q => h.run pins s σ H R I (w σ H R q)⟩
theorem PI.or {x : PySem.Expr} {t t' : TI} (h : PI X tg x t) (h' : PI X tg x t') : PI X tg x (fun σ H Q => t σ H Q ∨ t' σ H Q) := ⟨fun pins s σ H R I q => q.elim (h.run pins s σ H R I) (h'.run pins s σ H R I)⟩
def tI (C : Calls) (b : Bool) (it : PD.It) : TI := fun σ H R => ∃ S P ρ Q0, Rel S P ρ σ H ∧ evi C b it ρ Q0 ∧ ∀ ds, Q0 ds → ∀ J H', Ext S.dom H H' → S.inv H' → Wk (if b = true then S.dom else Nn P ρ σ) (Nn P ρ σ) H' J ds → R J H'
theorem walks_list {K : PySem.W.Frag} {M N : Zn} {H : Hp} {a : Addr} {vs : List V} {ds : List D} (hl : ds.length ≤ sizeLine) (ha : H a = some (.lst vs)) (nM : ¬ M a) (r : RpAll N H vs ds) (f : Fit N H) (hM : ∀ b, M b → N b) : Wk M N H (Itl K a) ds where
  len := hl
  go := fun i H' d e h => by
    obtain ⟨v, hv, _⟩ := r.get' h
    exact ⟨vs, v, SqL.of (e _ _ ha nM), hv⟩
  yld := fun i H' d x H2 e h y => by
    obtain ⟨rfl, y⟩ := y
    have hv := y vs (SqL.of (e _ _ ha nM))
    obtain ⟨d', hd, rd⟩ := r.get hv
    rw [h] at hd; cases hd
    exact ⟨Ext.refl, fun N' hN => rd.move (e.mono hM) f hN⟩
  stop := fun i H' e h => ⟨vs, SqL.of (e _ _ ha nM), by rw [r.length]; exact h⟩
theorem walks_tup {K : PySem.W.Frag} {M N : Zn} {H : Hp} {a : Addr} {vs : List V} {ds : List D} (hl : ds.length ≤ sizeLine) (ha : H a = some (.tup vs)) (nM : ¬ M a) (r : RpAll N H vs ds) (f : Fit N H) (hM : ∀ b, M b → N b) : Wk M N H (Itt K a) ds where
  len := hl
  go := fun i H' d e h => by
    obtain ⟨v, hv, _⟩ := r.get' h
    exact ⟨vs, v, SqT.of (e _ _ ha nM), hv⟩
  yld := fun i H' d x H2 e h y => by
    obtain ⟨rfl, y⟩ := y
    have hv := y vs (SqT.of (e _ _ ha nM))
    obtain ⟨d', hd, rd⟩ := r.get hv
    rw [h] at hd; cases hd
    exact ⟨Ext.refl, fun N' hN => rd.move (e.mono hM) f hN⟩
  stop := fun i H' e h => ⟨vs, SqT.of (e _ _ ha nM), by rw [r.length]; exact h⟩
theorem walks_hrd {K : PySem.W.Frag} {M N : Zn} {H : Hp} {a : Addr} {vs : List V} {ds : List D} (hl : ds.length ≤ sizeLine) {o : Obj} (ha : H a = some (.frz o (.tup vs))) (nM : ¬ M a) (r : RpAll N H vs ds) (f : Fit N H) (hM : ∀ b, M b → N b) : Wk M N H (Itt K a) ds where
  len := hl
  go := fun i H' d e h => by
    obtain ⟨v, hv, _⟩ := r.get' h
    exact ⟨vs, v, (show SqT K _ a vs from .inl (.inr ⟨o, e _ _ ha nM⟩)), hv⟩
  yld := fun i H' d x H2 e h y => by
    obtain ⟨rfl, y⟩ := y
    have hv := y vs ((show SqT K _ a vs from .inl (.inr ⟨o, e _ _ ha nM⟩)))
    obtain ⟨d', hd, rd⟩ := r.get hv
    rw [h] at hd; cases hd
    exact ⟨Ext.refl, fun N' hN => rd.move (e.mono hM) f hN⟩
  stop := fun i H' e h => ⟨vs, (show SqT K _ a vs from .inl (.inr ⟨o, e _ _ ha nM⟩)), by rw [r.length]; exact h⟩
theorem rangeI_get {a b : Int} {i : Nat} {d : D} (h : (rangeI a b)[i]? = some d) : i < (b - a).toNat ∧ d = .int (a + i) := by
  unfold rangeI at h
  rw [List.getElem?_map] at h
  obtain ⟨j, hj, rfl⟩ := Option.map_eq_some_iff.mp h
  obtain ⟨h1, h2⟩ := List.getElem?_eq_some_iff.mp hj
  rw [List.length_range] at h1
  rw [List.getElem_range] at h2
  exact ⟨h1, by rw [h2]⟩
theorem walks_rng {M N : Zn} {H : Hp} {a b : Int} (h : RgOk a b) : Wk M N H (Itr a (b - a).toNat) (rangeI a b) where
  len := by
    unfold rangeI
    rw [List.length_map, List.length_range, sizeLine_eq]
    exact h.2.2.2.2
  go := fun i H' d e q => (rangeI_get q).1
  yld := fun i H' d x H2 e q y => by
    obtain ⟨rfl, rfl⟩ := y
    obtain ⟨_, rfl⟩ := rangeI_get q
    exact ⟨Ext.refl, fun _ _ => .int _⟩
  stop := fun i H' e q => by
    unfold rangeI at q
    rw [List.length_map, List.length_range] at q
    exact q
theorem pi_seq {R' : V → Hp → (L2.It → Hp → Prop) → Prop} {l : PySem.Expr} {tl : TE} (hl : PE X l tl)
    (hR : ∀ x H R, R' x H R → ∃ a, x = .ref a ∧ ((∃ xs, SqL X.K H a xs ∧ R (Itl X.K a) H) ∨ (∃ xs, SqT X.K H a xs ∧ R (Itt X.K a) H))) : PI X tg l (fun σ H R => tl σ H fun x H1 => R' x H1 R) := by
  refine ⟨fun pins s σ H R I h => ?_⟩
  refine thn (hl.run pins s σ H _ I h) fun v s1 ⟨x, H1, I1, r1, q1⟩ => ?_
  obtain ⟨a, rfl, ⟨xs, hq, q⟩ | ⟨xs, hq, q⟩⟩ := hR _ _ _ q1
  · cases r1
    obtain ⟨its, rv, p, hz⟩ := I1.list hq
    refine wpAny_pyIter_list p.isList ?_
    refine ⟨s1.heap.objs.size, [s1.heap.objs.size], _, _, H1, rfl, I1.kept (t' := s1.toks) fun b o e => Heap.get?_push_of_some _ e, turn_list a _, ⟨_, Heap.get?_push_size _ rfl, rfl, rfl⟩, fun b hb => ?_, q⟩
    have e : b = s1.heap.objs.size := by simpa using hb
    subst e
    exact I1.fpOk (Nat.le_refl _) (I1.hok.fresh (Nat.le_refl _))
  · cases r1
    obtain ⟨its, rv, p, hz⟩ := I1.tuple hq
    refine wpAny_pyIter_tuple (show s1.heap.IsTuple a its.toArray from p) ?_
    refine ⟨s1.heap.objs.size, [s1.heap.objs.size], _, _, H1, rfl, I1.kept (t' := s1.toks) fun b o e => Heap.get?_push_of_some _ e, turn_tuple a _, ⟨_, Heap.get?_push_size _ rfl, rfl, rfl⟩, fun b hb => ?_, q⟩
    have e : b = s1.heap.objs.size := by simpa using hb
    subst e
    exact I1.fpOk (Nat.le_refl _) (I1.hok.fresh (Nat.le_refl _))
/-- what a walked value wants -/
def SeqR (x : V) (H : Hp) (R : L2.It → Hp → Prop) (K : PySem.W.Frag) : Prop := ∃ M N d ds, RpB N H x d ∧ ltD d = some ds ∧ Fit N H ∧ (∀ b, M b → N b) ∧ (∀ a, x = .ref a → ¬ M a) ∧ ds.length ≤ sizeLine ∧ ∀ J, Wk M N H J ds → R J H
theorem seqR_ok {K : PySem.W.Frag} {x : V} {H : Hp} {R : L2.It → Hp → Prop} (h : SeqR x H R K) : ∃ a, x = .ref a ∧ ((∃ xs, SqL K H a xs ∧ R (Itl K a) H) ∨ (∃ xs, SqT K H a xs ∧ R (Itt K a) H)) := by
  obtain ⟨M, N, d, ds, r, hd, f, hM, nM, hz, q⟩ := h
  cases d <;> simp only [ltD] at hd <;> first | (cases hd; done) | skip
  · cases hd
    obtain ⟨a, xs, rfl, ha, rr⟩ := r.list_of
    exact ⟨a, rfl, .inl ⟨xs, SqL.of ha, q _ (walks_list hz ha (nM a rfl) rr f hM)⟩⟩
  · cases hd
    obtain ⟨a, xs, rfl, ha, rr⟩ := r.tup_of
    exact ⟨a, rfl, .inr ⟨xs, SqT.of ha, q _ (walks_tup hz ha (nM a rfl) rr f hM)⟩⟩
  · rw [unH_of hd] at r
    obtain ⟨a, o, xs, rfl, ha, _, rr⟩ := r.hrd_of
    exact ⟨a, rfl, .inr ⟨xs, .inl (.inr ⟨o, ha⟩), q _ (walks_hrd hz ha (nM a rfl) rr f hM)⟩⟩
theorem seq_size {pins : List (Addr × Obj)} {s : Shared} {σ : L2.St} {H : Hp} {N : Zn} {v : V} {d : D} {ds : List D} (I : Inv X pins σ H s) (r : RpB N H v d) (hd : ltD d = some ds) : ds.length ≤ sizeLine := by
  cases d <;> simp only [ltD] at hd <;> first | (cases hd; done) | skip
  · cases hd
    obtain ⟨a, xs, rfl, ha, rr⟩ := r.list_of
    obtain ⟨_, _, _, hz⟩ := I.list (SqL.of ha)
    rw [← rr.length]; exact hz
  · cases hd
    obtain ⟨a, xs, rfl, ha, rr⟩ := r.tup_of
    obtain ⟨_, _, _, hz⟩ := I.tuple (SqT.of ha)
    rw [← rr.length]; exact hz
  · rw [unH_of hd] at r
    obtain ⟨a, o, xs, rfl, ha, _, rr⟩ := r.hrd_of
    obtain ⟨_, _, _, hz⟩ := I.tuple (show SqT X.K H a xs from .inl (.inr ⟨o, ha⟩))
    rw [← rr.length]; exact hz
/-- a list or tuple walked -/
theorem it_val (b : Bool) {e : E} {x : PySem.Expr} (hb : PE X x (tBo C e)) (he : PE X x (tE C e)) : PI X tg x (tI C b (.val e)) := by
  have szE : ∀ {t : TE}, PE X x t → PE X x (fun σ H Q => t σ H fun v H' => (∀ N d ds, RpB N H' v d → ltD d = some ds → ds.length ≤ sizeLine) → Q v H') := fun h =>
    ⟨fun pins s σ H Q I q => thn (h.run pins s σ H _ I q) fun u s1 ⟨v, H1, I1, r1, q1⟩ => ⟨v, H1, I1, r1, q1 fun N d ds r hd => seq_size I1 r hd⟩⟩
  cases b with
  | true =>
    refine PI.weak (pi_seq (szE hb) (R' := fun x H R => SeqR x H R X.K) fun x H R h => seqR_ok h) fun σ H R ⟨S, P, ρ, Q0, R', h, q⟩ => ?_
    refine ⟨S, P, ρ, _, R', h, fun d hd v H1 e1 i1 r1 sz => ?_⟩
    obtain ⟨ds, eds, q0⟩ := hd
    have R1 := R'.ext e1 i1
    exact ⟨S.dom, _, d, ds, r1.1, eds, R1.fit, R1.domN, r1.2, sz _ d ds r1.1 eds, fun J w => q ds q0 J H1 e1 i1 w⟩
  | false =>
    refine PI.weak (pi_seq (szE he) (R' := fun x H R => SeqR x H R X.K) fun x H R h => seqR_ok h) fun σ H R ⟨S, P, ρ, Q0, R', h, q⟩ => ?_
    refine ⟨S, P, ρ, _, R', h, fun d hd v H1 e1 i1 r1 _ sz => ?_⟩
    obtain ⟨ds, eds, q0⟩ := hd
    have R1 := R'.ext e1 i1
    refine ⟨Nn P ρ σ, _, d, ds, .of r1, eds, R1.fit, fun _ z => z, fun a ea z => ?_, sz _ d ds (.of r1) eds, fun J w => q ds q0 J H1 e1 i1 w⟩
    subst ea
    cases r1 with
    | lst n _ _ => exact n z
    | tup ha _ =>
      obtain ⟨o, ho, m⟩ := R1.fit.dom a z
      rw [ha] at ho; cases ho; exact m
    | hrd ha _ _ =>
      obtain ⟨o, ho, m⟩ := R1.fit.dom a z
      rw [ha] at ho; cases ho; exact m
    | dK n _ _ => exact n z
    | dT n _ _ _ => exact n z
theorem rngD_of {lo hi : D} {ds : List D} (h : rngD lo hi = some ds) : ∃ a b, lo = .int a ∧ hi = .int b ∧ RgOk a b ∧ ds = rangeI a b := by
  unfold rngD at h
  split at h
  · split at h <;> cases h
    exact ⟨_, _, rfl, rfl, by assumption, rfl⟩
  · cases h
theorem it_rng1 (b : Bool) {hi : E} {x : PySem.Expr} {p p2 : Pos} (hg : Gl X "range") (hm : X.mg "range" = none) (hs : notStar x = true) (h : PE X x (tE C hi)) : PI X tg (.Call (.Name "range" p) [x] [] p2) (tI C b (.rng .no hi)) := by
  have hst : starEach [x] X.env = [(false, eval x X.env)] := star_eq hs
  refine PI.weak (pi_range1 hg hm (pa_cons h pa_nil hst) hst) fun σ H R ⟨S, P, ρ, Q0, R', h, q⟩ => ?_
  refine ⟨S, P, ρ, _, R', h, fun d hd v H1 e1 i1 r1 _ => ?_⟩
  obtain ⟨ds, eds, q0⟩ := hd
  obtain ⟨a, c, ea, rfl, hr, rfl⟩ := rngD_of eds
  cases ea
  cases (RpB.of r1).int_of
  refine ⟨c, rfl, hr.2.2.1, hr.2.2.2.1, ?_⟩
  have w := q _ q0 (Itr 0 (c - 0).toNat) H1 e1 i1 (walks_rng hr)
  rwa [Int.sub_zero] at w
theorem it_rng2 (b : Bool) {lo hi : E} {x y : PySem.Expr} {p p2 : Pos} (hg : Gl X "range") (hm : X.mg "range" = none) (hs : notStar x = true) (hs2 : notStar y = true) (hl : PE X x (tE C lo)) (h : PE X y (tE C hi)) : PI X tg (.Call (.Name "range" p) [x, y] [] p2) (tI C b (.rng (.yes lo) hi)) := by
  have hst2 : starEach [y] X.env = [(false, eval y X.env)] := star_eq hs2
  have hst : starEach [x, y] X.env = [(false, eval x X.env), (false, eval y X.env)] := (star_eq hs).trans (by rw [hst2])
  refine PI.weak (pi_range2 hg hm (pa_cons hl (pa_cons h pa_nil hst2) (star_eq hs)) hst hst2) fun σ H R ⟨S, P, ρ, Q0, R', h, q⟩ => ?_
  refine ⟨S, P, ρ, _, R', h, fun d hd v H1 e1 i1 r1 _ => ?_⟩
  have R1 := R'.ext e1 i1
  obtain ⟨j, rfl, hd⟩ := hd
  cases (RpB.of r1).int_of
  refine ⟨S, P, ρ, _, R1, hd, fun d2 hd2 v2 H2 e2 i2 r2 _ => ?_⟩
  obtain ⟨ds, eds, q0⟩ := hd2
  obtain ⟨a, c, ea, rfl, hr, rfl⟩ := rngD_of eds
  cases ea
  cases (RpB.of r2).int_of
  exact ⟨_, _, rfl, ⟨hr.1, hr.2.1, hr.2.2.1, hr.2.2.2.1⟩, q _ q0 (Itr j (c - j).toNat) H2 (e1.trans e2) i2 (walks_rng hr)⟩
theorem zip_get {xs ys : List D} {i : Nat} {d : D} (h : (List.zipWith pairT xs ys)[i]? = some d) : ∃ x y, xs[i]? = some x ∧ ys[i]? = some y ∧ d = .tuple [x, y] := by
  rw [List.getElem?_zipWith] at h
  split at h
  · cases h; exact ⟨_, _, by assumption, by assumption, rfl⟩
  · cases h
theorem walks_zipL {K : PySem.W.Frag} {M N : Zn} {H : Hp} {a b : Addr} {vs ws : List V} {ds es : List D} (hl : ds.length ≤ sizeLine) (ha : H a = some (.lst vs)) (hb : H b = some (.lst ws)) (nM : ¬ M a) (nM2 : ¬ M b) (r : RpAll N H vs ds) (r2 : RpAll N H ws es) (f : Fit N H) (hM : ∀ b, M b → N b) : Wk M N H (Itz K a b) (List.zipWith pairT ds es) where
  len := by rw [List.length_zipWith]; omega
  go := fun i H' d e h => by
    obtain ⟨x, y, hx, hy, rfl⟩ := zip_get h
    obtain ⟨v, hv, _⟩ := r.get' hx
    obtain ⟨w, hw, _⟩ := r2.get' hy
    exact ⟨vs, ws, v, w, SqL.of (e _ _ ha nM), SqL.of (e _ _ hb nM2), hv, hw⟩
  yld := fun i H' d x H2 e h y => by
    obtain ⟨p, q, hp, hq, rfl⟩ := zip_get h
    obtain ⟨T, u, v, rfl, hT, rfl, hu, hv⟩ := y
    obtain ⟨d1, h1, rd1⟩ := r.get (hu vs (SqL.of (e _ _ ha nM)))
    obtain ⟨d2, h2, rd2⟩ := r2.get (hv ws (SqL.of (e _ _ hb nM2)))
    rw [hp] at h1; rw [hq] at h2
    cases h1; cases h2
    have en : Ext No H' (upd H' T (.tup [u, v])) := Ext.new hT
    have e2 : Ext N H (upd H' T (.tup [u, v])) := (e.mono hM).trans (en.any N)
    exact ⟨en, fun N' hN => .tup upd_same (.cons (rd1.move e2 f hN) (.cons (rd2.move e2 f hN) .nil))⟩
  stop := fun i H' e h => ⟨vs, ws, SqL.of (e _ _ ha nM), SqL.of (e _ _ hb nM2), by rw [List.length_zipWith] at h; rw [r.length, r2.length]; omega⟩
theorem walks_zipT {K : PySem.W.Frag} {M N : Zn} {H : Hp} {a b : Addr} {vs ws : List V} {ds es : List D} (hl : ds.length ≤ sizeLine) (ha : H a = some (.tup vs)) (hb : H b = some (.tup ws)) (nM : ¬ M a) (nM2 : ¬ M b) (r : RpAll N H vs ds) (r2 : RpAll N H ws es) (f : Fit N H) (hM : ∀ b, M b → N b) : Wk M N H (ItzT K a b) (List.zipWith pairT ds es) where
  len := by rw [List.length_zipWith]; omega
  go := fun i H' d e h => by
    obtain ⟨x, y, hx, hy, rfl⟩ := zip_get h
    obtain ⟨v, hv, _⟩ := r.get' hx
    obtain ⟨w, hw, _⟩ := r2.get' hy
    exact ⟨vs, ws, v, w, SqT.of (e _ _ ha nM), SqT.of (e _ _ hb nM2), hv, hw⟩
  yld := fun i H' d x H2 e h y => by
    obtain ⟨p, q, hp, hq, rfl⟩ := zip_get h
    obtain ⟨T, u, v, rfl, hT, rfl, hu, hv⟩ := y
    obtain ⟨d1, h1, rd1⟩ := r.get (hu vs (SqT.of (e _ _ ha nM)))
    obtain ⟨d2, h2, rd2⟩ := r2.get (hv ws (SqT.of (e _ _ hb nM2)))
    rw [hp] at h1; rw [hq] at h2
    cases h1; cases h2
    have en : Ext No H' (upd H' T (.tup [u, v])) := Ext.new hT
    have e2 : Ext N H (upd H' T (.tup [u, v])) := (e.mono hM).trans (en.any N)
    exact ⟨en, fun N' hN => .tup upd_same (.cons (rd1.move e2 f hN) (.cons (rd2.move e2 f hN) .nil))⟩
  stop := fun i H' e h => ⟨vs, ws, SqT.of (e _ _ ha nM), SqT.of (e _ _ hb nM2), by rw [List.length_zipWith] at h; rw [r.length, r2.length]; omega⟩
theorem size_of {t : TE} {x : PySem.Expr} (h : PE X x t) : PE X x (fun σ H Q => t σ H fun v H' => (∀ N d ds, RpB N H' v d → ltD d = some ds → ds.length ≤ sizeLine) → Q v H') :=
  ⟨fun pins s σ H Q I q => thn (h.run pins s σ H _ I q) fun u s1 ⟨v, H1, I1, r1, q1⟩ => ⟨v, H1, I1, r1, q1 fun N d ds r hd => seq_size I1 r hd⟩⟩
theorem zip_run {K : PySem.W.Frag} {M N : Zn} {H : Hp} {x y : V} {d e : D} {ds : List D} {R : L2.It → Hp → Prop} (r : RpB N H x d) (r2 : RpB N H y e) (hz : zipD d e = some ds) (f : Fit N H) (hM : ∀ b, M b → N b) (n1 : ∀ a, x = .ref a → ¬ M a) (n2 : ∀ a, y = .ref a → ¬ M a) (sz : ∀ zs, ltD d = some zs → zs.length ≤ sizeLine) (q : ∀ J, Wk M N H J ds → R J H) :
    ∃ a b xs ys, [x, y] = [.ref a, .ref b] ∧ ((SqL K H a xs ∧ SqL K H b ys ∧ R (Itz K a b) H) ∨ (SqT K H a xs ∧ SqT K H b ys ∧ R (ItzT K a b) H)) := by
  unfold zipD at hz
  split at hz
  · cases hz
    obtain ⟨a, xs, rfl, ha, rr⟩ := r.list_of
    obtain ⟨b, ys, rfl, hb, rr2⟩ := r2.list_of
    exact ⟨a, b, xs, ys, rfl, .inl ⟨SqL.of ha, SqL.of hb, q _ (walks_zipL (sz _ rfl) ha hb (n1 a rfl) (n2 b rfl) rr rr2 f hM)⟩⟩
  · cases hz
    obtain ⟨a, xs, rfl, ha, rr⟩ := r.tup_of
    obtain ⟨b, ys, rfl, hb, rr2⟩ := r2.tup_of
    exact ⟨a, b, xs, ys, rfl, .inr ⟨SqT.of ha, SqT.of hb, q _ (walks_zipT (sz _ rfl) ha hb (n1 a rfl) (n2 b rfl) rr rr2 f hM)⟩⟩
  · cases hz
theorem rp_top {N : Zn} {H : Hp} {v : V} {d : D} (r : Rp N H v d) (f : Fit N H) : ∀ a, v = .ref a → ¬ N a := fun a ea z => by
  subst ea
  cases r with
  | lst n _ _ => exact n z
  | tup ha _ =>
    obtain ⟨o, ho, m⟩ := f.dom a z
    rw [ha] at ho; cases ho; exact m
  | hrd ha _ _ =>
    obtain ⟨o, ho, m⟩ := f.dom a z
    rw [ha] at ho; cases ho; exact m
  | dK n _ _ => exact n z
  | dT n _ _ _ => exact n z
theorem it_zip (b : Bool) {e f : E} {x y : PySem.Expr} {p p2 tpos : Pos} {elts : List PySem.Expr} {kk : Nat} (hg : Gl X "zip") (hm : X.mg "zip" = none) (hs : notStar x = true) (hs2 : notStar y = true) (hxB : PE X x (tBo C e)) (hxE : PE X x (tE C e)) (hyB : PE X y (tBo C f)) (hyE : PE X y (tE C f)) :
    PI X (.Tuple elts kk tpos) (.Call (.Name "zip" p) [x, y] [] p2) (tI C b (.zip e f)) := by
  have hst2 : starEach [y] X.env = [(false, eval y X.env)] := star_eq hs2
  have hpl : (backTo p2 (starEach [y] X.env)).any (·.1) = false := by rw [hst2]; rfl
  cases b with
  | true =>
    refine PI.weak (pi_zipA hg hm (pa_cons (size_of hxB) (pa_cons hyB pa_nil hst2) (star_eq hs)) (star_eq hs) hpl) fun σ H R ⟨S, P, ρ, Q0, R', h, q⟩ => ?_
    refine ⟨S, P, ρ, _, R', h, fun d hd v H1 e1 i1 r1 sz => ?_⟩
    have R1 := R'.ext e1 i1
    refine ⟨S, P, ρ, _, R1, hd, fun d2 hd2 v2 H2 e2 i2 r2 => ?_⟩
    have R2 := R1.ext e2 i2
    obtain ⟨ds, eds, q0⟩ := hd2
    have r1' := r1.ext R1.fit R1.domN e2
    exact zip_run r1'.1 r2.1 eds R2.fit R2.domN r1'.2 r2.2 (fun zs hz => sz _ d zs r1.1 hz) fun J w => q ds q0 J H2 (e1.trans e2) i2 w
  | false =>
    refine PI.weak (pi_zipA hg hm (pa_cons (size_of hxE) (pa_cons hyE pa_nil hst2) (star_eq hs)) (star_eq hs) hpl) fun σ H R ⟨S, P, ρ, Q0, R', h, q⟩ => ?_
    refine ⟨S, P, ρ, _, R', h, fun d hd v H1 e1 i1 r1 _ sz => ?_⟩
    have R1 := R'.ext e1 i1
    refine ⟨S, P, ρ, _, R1, hd, fun d2 hd2 v2 H2 e2 i2 r2 _ => ?_⟩
    have R2 := R1.ext e2 i2
    obtain ⟨ds, eds, q0⟩ := hd2
    have r1' := r1.ext (e2.mono R1.domN) R1.fit
    exact zip_run (.of r1') (.of r2) eds R2.fit (fun _ z => z) (rp_top r1' R2.fit) (rp_top r2 R2.fit) (fun zs hz => sz _ d zs (.of r1) hz) fun J w => q ds q0 J H2 (e1.trans e2) i2 w
def tTo (C : Calls) (c : To) : TT := fun σ H Q => ∃ S P ρ Q0, Rel S P ρ σ H ∧ evc C c ρ Q0 ∧ ∀ b, Q0 b → ∀ H', Ext S.dom H H' → S.inv H' → Q b H'
theorem to_no : PTs X [] (tTo C .no) := ⟨fun pins s σ H Q I ⟨S, P, ρ, Q0, R, h, q⟩ => pts_nil.run pins s σ H Q I (q _ h H Ext.refl R.inv)⟩
theorem to_yes {c : T} {x : PySem.Expr} (h : PT X x (tT C c)) : PTs X [x] (tTo C (.yes c)) := ⟨fun pins s σ H Q I ⟨S, P, ρ, Q0, R, hh, q⟩ => (pts_one h).run pins s σ H Q I ⟨S, P, ρ, Q0, R, hh, q⟩⟩
theorem Ext.mut {M : Zn} {H1 H : Hp} {p : Addr} {o : HO} (e : Ext M H1 H) (hp : H1 p = none) : Ext M H1 (upd H p o) := fun a q ha n => by
  rw [upd_ne (ne_of_none ha hp)]; exact e a q ha n
theorem wipe_wipe {σ : L2.St} {vs : List Nat} : wipe (wipe σ vs) vs = wipe σ vs := by
  apply List.ext_getElem?
  intro i
  by_cases hi : i ∈ vs
  · by_cases hl2 : i < σ.length
    · rw [wipe_at hi hl2, wipe_at hi (by rw [wipe_length]; exact hl2)]
    · rw [List.getElem?_eq_none (by rw [wipe_length, wipe_length]; omega), List.getElem?_eq_none (by rw [wipe_length]; omega)]
  · rw [wipe_keep hi]
mutual
theorem asg_len : ∀ {g : G} {d : D} {ρ ρ' : Nv}, asg g d ρ = some ρ' → ρ'.length = ρ.length
  | .v i, d, ρ, ρ', h => by unfold asg at h; cases h; simp
  | .tup gs, .tuple ds, ρ, ρ', h => by unfold asg at h; exact asgs_len2 h
  | .tup gs, .list ds, ρ, ρ', h => by unfold asg at h; exact asgs_len2 h
  | .tup _, .none, ρ, ρ', h => by unfold asg at h; cases h
  | .tup _, .bool _, ρ, ρ', h => by unfold asg at h; cases h
  | .tup _, .int _, ρ, ρ', h => by unfold asg at h; cases h
  | .tup _, .str _, ρ, ρ', h => by unfold asg at h; cases h
  | .tup _, .dict _, ρ, ρ', h => by unfold asg at h; cases h
theorem asgs_len2 : ∀ {gs : List G} {ds : List D} {ρ ρ' : Nv}, asgs gs ds ρ = some ρ' → ρ'.length = ρ.length
  | [], [], ρ, ρ', h => by unfold asgs at h; cases h; rfl
  | g :: gs, d :: ds, ρ, ρ', h => by
    unfold asgs at h
    obtain ⟨ρ1, e1, e2⟩ := Option.bind_eq_some_iff.mp h
    rw [asgs_len2 e2, asg_len e1]
  | [], _ :: _, _, _, h => by unfold asgs at h; cases h
  | _ :: _, [], _, _, h => by unfold asgs at h; cases h
end
/-- the turns of a list comprehension -/
theorem lc_body {S : Src} {P : Zn} {ρ : Nv} {σ : L2.St} {H1 : Hp} {J : L2.It} {ds : List D} {Q0 : D → Prop} {Q : VK} {vs : List Nat} {g : G} {c : To} {elt : E} (hgs : gSlots g = vs) (R1 : Rel S P ρ σ H1) (hf : free ρ vs = true) (w : Wk S.dom (Nn P ρ σ) H1 J ds)
    (hds : lcW ds (fun d K => lift (asg g d (wipeN ρ vs)) fun ρ' => evc C c ρ' fun t => if t = true then ev C elt ρ' (fun y => K (some y)) else K none) (fun r => Q0 (.list r)))
    (q : ∀ ads, Q0 (.list ads) → ∀ (D : Addr) (acc : List V) (H' : Hp), Ext S.dom H1 H' → S.inv H' → H1 D = none → H' D = some (.lst acc) → RpAll (fun a => Nn P ρ σ a ∨ a = D) H' acc ads → Q (.ref D) H') :
    tLc (fun _ _ R => R J H1) (tG g) (tTo C c) (tE C elt) vs σ H1 Q := by
  intro D hD
  have i1 := R1.inv
  have Rp1 : Rel S (fun a => P a ∨ a = D) (wipeN ρ vs) (wipe σ vs) (upd H1 D (.lst [])) := (R1.shrink vs).prot hD trivial
  generalize hP' : (fun a => P a ∨ a = D) = P' at Rp1
  have hPD : P' D := by rw [← hP']; exact .inr rfl
  have hPP : ∀ a, P' a → P a ∨ a = D := fun a z => by rw [← hP'] at z; exact z
  have hNN : ∀ a, Nn P' (wipeN ρ vs) (wipe σ vs) a → Nn P ρ σ a ∨ H1 a = none := fun a z => by
    rcases z with z | z
    · rcases hPP a z with z | z
      · exact .inl (.inl z)
      · exact .inr (z ▸ hD)
    · exact .inl (.inr (own_wipe z))
  have hNb : ∀ a, Nn P ρ σ a → Nn P' (wipeN ρ vs) (wipe σ vs) a := fun a z => by
    rcases z with z | z
    · exact .inl (by rw [← hP']; exact .inl z)
    · exact .inr (own_free hf z)
  have nD : ¬ S.dom D := fun z => by
    obtain ⟨o, ho, _⟩ := (S.fit H1 i1).dom D z
    rw [hD] at ho; cases ho
  refine ⟨fun i m H => ∃ acc ads, i ≤ ds.length ∧ m = ds.length - i ∧ H D = some (.lst acc) ∧ Rel S P' (wipeN ρ vs) (wipe σ vs) H ∧ RpAll (Nn P' (wipeN ρ vs) (wipe σ vs)) H acc ads ∧ ads.length ≤ i ∧ Ext S.dom H1 H ∧
    lcW (ds.drop i) (fun d K => lift (asg g d (wipeN ρ vs)) fun ρ' => evc C c ρ' fun t => if t = true then ev C elt ρ' (fun y => K (some y)) else K none) (fun r => Q0 (.list (ads ++ r))), ⟨ds.length, [], [], Nat.zero_le _, rfl, upd_same, Rp1, .nil, Nat.le_refl _, Ext.new hD, by simpa using hds⟩, ?_⟩
  rintro i m H2 ⟨acc, ads, hi, rfl, hD2, R2, ra, hl, e2, hw⟩
  by_cases hlt : i < ds.length
  · right
    have hgd : ds[i]? = some ds[i] := List.getElem?_eq_getElem hlt
    refine ⟨w.go i H2 _ e2 hgd, fun H' => ∃ m', m' < ds.length - i ∧ ∃ acc ads, i + 1 ≤ ds.length ∧ m' = ds.length - (i + 1) ∧ H' D = some (.lst acc) ∧ Rel S P' (wipeN ρ vs) (wipe σ vs) H' ∧ RpAll (Nn P' (wipeN ρ vs) (wipe σ vs)) H' acc ads ∧ ads.length ≤ i + 1 ∧ Ext S.dom H1 H' ∧
      lcW (ds.drop (i + 1)) (fun d K => lift (asg g d (wipeN ρ vs)) fun ρ' => evc C c ρ' fun t => if t = true then ev C elt ρ' (fun y => K (some y)) else K none) (fun r => Q0 (.list (ads ++ r))), fun H' z => z, fun v H3 hy => ?_⟩
    obtain ⟨e3, hrp⟩ := w.yld i H2 _ v H3 e2 hgd hy
    have R3 := R2.ext0 e3
    rw [List.drop_eq_getElem_cons hlt] at hw
    obtain ⟨ρ', ea, hw⟩ := hw
    refine ⟨S, P', _, ds[i], ρ', R3, hrp _ hNN, ea, fun σ' R4 st n4 => ?_⟩
    rw [hgs] at st
    have hlen : σ'.length = (wipe σ vs).length := by
      have a1 := R4.len
      have a2 := R3.len
      have a3 : ρ'.length = (wipeN ρ vs).length := by
        exact asg_len ea
      omega
    have hff : free (wipeN ρ vs) vs = true := by
      unfold free
      rw [List.all_eq_true]
      intro j hj
      split
      · rename_i hh
        exact absurd hj (wipeN_some hh).2
      · rfl
    refine ⟨by rw [st.wipe hlen, wipe_wipe], S, P', ρ', _, R4, hw, fun b hb H5 e5 i5 => ?_⟩
    have R5 := R4.ext e5 i5
    have R5w := R3.ext e5 i5
    have hD5 : H5 D = some (.lst acc) := e5 D _ (e3 D _ hD2 fun z => z) nD
    have ra5 : RpAll (Nn P' (wipeN ρ vs) (wipe σ vs)) H5 acc ads := (ra.ext (e3.any _) R2.fit).ext (e5.mono R3.domN) R3.fit
    cases b with
    | false =>
      simp only [Bool.false_eq_true, if_false] at hb ⊢
      exact ⟨_, by omega, acc, ads, hlt, rfl, hD5, R5w, ra5, by omega, (e2.trans (e3.any _)).trans e5, by simpa using hb⟩
    | true =>
      simp only [if_true] at hb ⊢
      refine ⟨S, P', ρ', _, R5, hb, fun d hd v6 H6 e6 i6 r6 _ => ?_⟩
      have R6 := R5w.ext e6 i6
      have hD6 : H6 D = some (.lst acc) := e6 D _ hD5 nD
      refine ⟨acc, hD6, ?_, _, by omega, acc ++ [v6], ads ++ [d], hlt, rfl, upd_same, ?_, ?_, by simp; omega, ?_, ?_⟩
      · have := ra.length
        have := w.len
        omega
      · refine R6.extP (M := fun a => a = D) (fun a z => (show a = D from z) ▸ hPD) (fun a o ho n => by rw [upd_ne n]; exact ho) (S.upd i6 nD (by rw [hD6]; exact fun f z => nomatch z)) ⟨fun a z => ?_⟩
        by_cases hz : a = D
        · exact ⟨.lst (acc ++ [v6]), by rw [hz]; exact upd_same, trivial⟩
        · obtain ⟨o, ho, m⟩ := R6.fitP.dom a z
          exact ⟨o, by rw [upd_ne hz]; exact ho, m⟩
      · have up : Ext (Nn P' (wipeN ρ vs) (wipe σ vs)) H6 (upd H6 D (.lst (acc ++ [v6]))) := fun a o ho n => by
          rw [upd_ne (fun z => n (.inl (by rw [z]; exact hPD)))]; exact ho
        have r6' : Rp (Nn P' (wipeN ρ vs) (wipe σ vs)) H6 v6 d := r6.less fun a z => z.elim .inl fun z => .inr (st.own hff z)
        exact ((ra5.ext (e6.mono R5w.domN) R5w.fit).append (.cons r6' .nil)).ext up R6.fit
      · exact ((e2.trans (e3.any _)).trans (e5.trans e6)).mut hD
      · simpa using hd
  · left
    have hi' : i = ds.length := by omega
    subst hi'
    refine ⟨w.stop _ H2 e2 (Nat.le_refl _), ?_⟩
    rw [List.drop_length] at hw
    have hw : Q0 (.list (ads ++ [])) := hw
    rw [List.append_nil] at hw
    exact q _ hw D acc H2 e2 R2.inv hD hD2 (ra.less fun a z => z.elim (hNb a) fun z => .inl (by rw [z]; exact hPD))
/-- a list comprehension -/
theorem ev_lc {vs : List Nat} {g : G} {it : PD.It} {c : To} {elt : E} {tg iter x : PySem.Expr} {ifs : List PySem.Expr} {scope : Scope} {own : List (Str × Nat)} {pos : Pos} (hc : X.calm = true) (hN : X.N.Nodup) (hi : PI X tg iter (tI C true it)) (ok : BlkOk X.N X.env.scope scope own) (hv : own.map (·.2) = vs) (hgs : gSlots g = vs)
    (hg : ∀ (s : Shared) (H : Hp) (Cc : Addr) (cl : List (Str × Addr)) (fp : List Addr), PG (X.blk s H scope (compEnvC scope cl Cc X.env) fp) tg (tG g)) (ht : ∀ (s : Shared) (H : Hp) (Cc : Addr) (cl : List (Str × Addr)) (fp : List Addr), PTs (X.blk s H scope (compEnvC scope cl Cc X.env) fp) ifs (tTo C c))
    (he : ∀ (s : Shared) (H : Hp) (Cc : Addr) (cl : List (Str × Addr)) (fp : List Addr), PE (X.blk s H scope (compEnvC scope cl Cc X.env) fp) x (tE C elt)) (hs : ∀ z, foldedSetIterable iter X.env z = pure z) :
    PE X (.ListComp x [⟨tg, iter, ifs, 0⟩] scope pos) (tE C (.lc vs g it c elt)) ∧
    ∀ {i : Nat} {y : Str} {py spos : Pos}, X.N[i]? = some y → X.env.scope.names.lookup y = some .local → swapsWith (.ListComp x [⟨tg, iter, ifs, 0⟩] scope pos) (some (.Name y py)) spos.line X.env = pure true →
      PS X (.Assign [.Name y py] (.ListComp x [⟨tg, iter, ifs, 0⟩] scope pos) spos) (tAsg (tE C (.lc vs g it c elt)) (gName i)) := by
  have key : ∀ σ H Q, tE C (.lc vs g it c elt) σ H Q → tLc (tI C true it) (tG g) (tTo C c) (tE C elt) (own.map (·.2)) σ H Q := by
    intro σ H Q ⟨S, P, ρ, Q0, R, ⟨hf, h⟩, q⟩
    rw [hv]
    refine ⟨S, P, ρ, _, R, h, fun ds hds J H1 e1 i1 w => ?_⟩
    have R1 := R.ext e1 i1
    exact lc_body hgs R1 hf w hds fun ads hq D acc H' e2 i2 hD hD2 ra => q _ hq _ H' (e1.trans e2) i2 (.lst (R1.fit.ne hD) hD2 (ra.less fun a z => .inl z)) fun _ _ => ⟨D, rfl, fresh_trans i1 e1 hD, .lst hD2 ra⟩
  refine ⟨PE.weak (pe_lc hc hN hi ok hg ht he hs) key, fun hy hyl hsw => ?_⟩
  refine ⟨fun pins s σ H Dd I h => (ps_setLc hc hN hy hyl hsw hi ok hg ht he hs).run pins s σ H Dd I (key _ _ _ h)⟩
end
end
set_option maxHeartbeats 2000000
/-! PDlb: enumerate of a list, of a tuple; range with a step. -/
section
open PySem L2 RZ PyProof.Rows
variable [Tb]
theorem new_enumT (l : Addr) (its : Array Value) (n : Nat) (dd : Option Addr) (sl : Array (Option Value)) :
    Meets (Builtin.«enumerate.__new__» ⟨[.type "enumerate", .ref l], []⟩) (fun _ R s => s.heap.get? l = some { cls := .type "tuple", dict := dd, data := .seq its n, slots := sl } ∧
      R (.ok (.ret (.ref (s.heap.push { cls := .type "tuple_iterator", data := .fields #[.ref l, .int 0 0] }).objs.size)))
        { s with heap := (s.heap.push { cls := .type "tuple_iterator", data := .fields #[.ref l, .int 0 0] }).push { cls := .type "enumerate", data := .fields #[.none, .bool false, .ref s.heap.objs.size, rawInt 0, .none, .none] } }) := .of_wp fun prog w A R s h => by
    obtain ⟨hp, g, d, tk, os⟩ := s
    obtain ⟨hl, h⟩ := h
    have hsub := sub_enumerate
    have hT : Heap.IsTuple (Shared.heap ⟨hp, g, d, tk, os⟩) l its := ⟨_, hl, rfl, n, rfl⟩
    wp_walk using AutoSeq1.wpAny_loadPart' hl
    refine wpAny_stack_any fun st => (wpAny_pure ?_)
    split
    · rename_i c _ _ _ _ _
      cases (c == Value.type "enumerate") <;> (wp_walk using AutoSeq1.wpAny_loadPart' hl, wpAny_pyIter_tuple hT; exact ⟨_, rfl, h⟩)
    · wp_walk using AutoSeq1.wpAny_loadPart' hl, wpAny_pyIter_tuple hT
      exact ⟨_, rfl, h⟩
section
variable {prog : Program} {w : World} {A : Around} {E : Value → Shared → Prop} {s : Shared}
theorem call_enumT {l : Addr} {its : Array Value} {Q : Value → Shared → Prop} (hL : s.heap.IsTuple l its)
    (h : ∀ h', IsEnum h' (s.heap.objs.size + 1) s.heap.objs.size 0 .none → h'.IsTupleIter s.heap.objs.size l 0 → (∀ b o, s.heap.get? b = some o → h'.get? b = some o) → Q (.ref (s.heap.objs.size + 1)) { s with heap := h' }) :
    wpAny (model prog w) A (call (.type "enumerate") [.ref l]) Q E s := by
  obtain ⟨⟨c, dct, dt, sl⟩, hl, (hc : c = .type "tuple"), n, (hd : dt = .seq its n)⟩ := hL
  subst hc hd
  refine callType_new F.called_enumerate (by decide) (F.typeCall_enumerate_1 _) (F.newCall_enumerate_1 _) (fun obj => F.args_object_init_2 obj _) F.entry_enumerate_new (new_enumT l its n dct sl) ⟨hl, ?_⟩
  have hz : (s.heap.push { cls := .type "tuple_iterator", data := .fields #[.ref l, .int 0 0] }).objs.size = s.heap.objs.size + 1 := Heap.size_push ..
  rw [hz]
  have he : IsEnum ((s.heap.push { cls := .type "tuple_iterator", data := .fields #[.ref l, .int 0 0] }).push { cls := .type "enumerate", data := .fields #[.none, .bool false, .ref s.heap.objs.size, rawInt 0, .none, .none] }) (s.heap.objs.size + 1) s.heap.objs.size 0 .none := by
    have e := Heap.get?_push_size (s.heap.push { cls := .type "tuple_iterator", data := .fields #[.ref l, .int 0 0] }) (o := { cls := .type "enumerate", data := .fields #[.none, .bool false, .ref s.heap.objs.size, rawInt 0, .none, .none] }) rfl
    rw [hz] at e; exact e
  exact ⟨⟨_, he, rfl⟩, h _ he ⟨_, Heap.get?_push_of_some _ (Heap.get?_push_size _ rfl), rfl, rfl⟩ fun b o x => Heap.get?_push_of_some _ (Heap.get?_push_of_some _ x)⟩
end
/-- (i, the tuple's item i), in new pairs -/
def IteT (K : PySem.W.Frag) (a : Addr) : L2.It :=
  ⟨fun i H => ∃ (xs : List V) (x : V), SqT K H a xs ∧ xs[i]? = some x, fun i H v H' => ∃ T x, v = .ref T ∧ H T = none ∧ H' = upd H T (.tup [.int (i : Nat), x]) ∧ ∀ xs, SqT K H a xs → xs[i]? = some x, fun i H => ∃ xs : List V, SqT K H a xs ∧ xs.length ≤ i⟩
theorem turn_enumT {P : Program} {w : World} {K : PySem.W.Frag} {elts : List PySem.Expr} {kk : Nat} {tpos : Pos} (a e it : Addr) :
    Turn P w K (.Tuple elts kk tpos) (IteT K a) [e, it] e (fun i h => (∃ old, IsEnum h e it ((i : Nat) : Int) old) ∧ h.IsTupleIter it a i ∧ e ≠ it) where
  mem := by simp
  obj := fun i h st b hb => by
    obtain ⟨⟨old, he⟩, ⟨o, ho, hc, hd⟩, _⟩ := st
    rcases (show b = e ∨ b = it by simpa using hb) with rfl | rfl
    · exact ⟨_, he, fun v q => nomatch q⟩
    · exact ⟨o, ho, fun v q => by rw [hd] at q; cases q⟩
  keep := fun i h h' st k => by
    obtain ⟨⟨old, he⟩, hi, hne⟩ := st
    exact ⟨⟨old, k e (by simp) _ he⟩, hi.at fun o q => k it (by simp) o q, hne⟩
  item := by
    intro X hP hw hK hc i pins s σ H E I hf st hg
    subst hP hw hK
    obtain ⟨⟨old, he⟩, hit, hne⟩ := st
    obtain ⟨xs, x, hq, hx⟩ := hg
    obtain ⟨its, rv, p, hz⟩ := I.tuple hq
    obtain ⟨u, hu, ru⟩ := rv.get hx
    have hT : s.heap.IsTuple a its.toArray := p
    have hel : e < s.heap.objs.size := (Heap.lt_size he)
    have hil : it < s.heap.objs.size := let ⟨_, q, _⟩ := hit; Heap.lt_size q
    have hai : a ≠ it := fun z => by
      obtain ⟨o1, e1, c1, _⟩ := hit
      obtain ⟨o2, e2, c2, _⟩ := hT
      rw [z, e1] at e2; cases e2; rw [c1] at c2; injection c2 with c2; exact absurd c2 (by decide)
    have hae : e ≠ a := fun z => by
      obtain ⟨o2, e2, c2, _⟩ := hT
      rw [← z, he] at e2; cases e2; injection c2 with c2; exact absurd c2 (by decide)
    have hlt : i < its.toArray.size := by
      have := (List.getElem?_eq_some_iff.mp hu).1
      simpa using this
    have Dr := Draws.tuple (prog := X.prog) (w := X.w) (A := X.A.in1) (I.ok.hd hc) it a hai its.toArray
    refine wpAny_pyNext_enum_itemD Dr he ⟨hit, hT⟩ hlt hne (by simp [hne, hae]) fun y h' tk hy ho hst' hn hsz hk => ?_
    have ey : y = u := by
      have h1 : its[i]? = some y := by simpa using hy
      rw [hu] at h1; exact (Option.some.inj h1).symm
    subst ey
    refine ⟨_, rfl, wpAny_letOwnedTupleGo_enum (s := { s with heap := h', toks := tk + 1 }) ho fun h'' he' sb => ?_⟩
    have hT2 : h''.get? s.heap.objs.size = some { cls := .type "tuple", data := .seq #[.int i tk, y] } := (sb.2 _ (Nat.ne_of_gt hel)).trans hn
    have new : ObjOk X.prog X.w (upd H s.heap.objs.size (.tup [.int (i : Nat), x])) h'' s.heap.objs.size (.tup [.int (i : Nat), x]) :=
      ⟨by show 2 ≤ sizeLine; decide, [.int i tk, y], .cons ⟨_, rfl⟩ (.cons ru .nil), ⟨_, hT2, rfl, _, rfl⟩⟩
    have I1 : Inv X pins σ (upd H s.heap.objs.size (.tup [.int (i : Nat), x])) { s with heap := h'', toks := tk + 1 } :=
      I.turnedNew (ch := [e, it]) (fun b ob hb q => ((sb.2 b fun z => hb (by simp [z])).trans (hk b ob (fun z => hb (by simp [z])) (fun z => hb (by simp [z])) q))) hf (Nat.le_refl _) new
    refine ⟨.ref s.heap.objs.size, _, I1, rfl, ⟨_, x, rfl, I.hok.fresh (Nat.le_refl _), rfl, fun ys hy => by rw [I.tuple_inj hy hq]; exact hx⟩, ⟨⟨y, ?_⟩, hst'.1.at fun o q => ((sb.2 it (Ne.symm hne)).trans q), hne⟩, fun b hb => ?_⟩
    · rw [show ((i + 1 : Nat) : Int) = (i : Int) + 1 by omega]; exact he'
    · have hb' : b < s.heap.objs.size := by
        rcases (show b = e ∨ b = it by simpa using hb) with z | z <;> rw [z] <;> assumption
      rw [upd_ne (Nat.ne_of_lt hb')]; exact (hf b hb).1
  done := by
    intro X hP hw hK hc i pins s σ H E I hf st hg
    subst hP hw hK
    obtain ⟨⟨old, he⟩, hit, hne⟩ := st
    obtain ⟨xs, hq, hx⟩ := hg
    obtain ⟨its, rv, p, hz⟩ := I.tuple hq
    have hT : s.heap.IsTuple a its.toArray := p
    have hai : a ≠ it := fun z => by
      obtain ⟨o1, e1, c1, _⟩ := hit
      obtain ⟨o2, e2, c2, _⟩ := hT
      rw [z, e1] at e2; cases e2; rw [c1] at c2; injection c2 with c2; exact absurd c2 (by decide)
    obtain ⟨f0, f1, f2, f3, f4, f5⟩ := hf it (by simp)
    have hl := rv.length
    have hxn : its.toArray[i]? = none := by simp; omega
    have D0 : Draws X.prog X.w X.A.in1 it [it, a] 0 (fun _ _ => False) (fun _ h => h.IsTupleIter it a i ∧ h.IsTuple a its.toArray) :=
      { live := fun _ _ st => let ⟨o, ho, _⟩ := st.1; ⟨o, ho⟩
        frame := fun _ _ _ st hk => ⟨st.1.at fun o e => hk it (by simp) o e, st.2.at fun o e => hk a (by simp) o e⟩
        item := fun j _ _ _ hj => absurd hj (Nat.not_lt_zero j)
        done := fun s Q E st hE => wpAny_nextOf_tuple_end (I.ok.hd hc) st.1 st.2 hxn hE }
    exact wpAny_pyNext_enum_endD D0 he ⟨hit, hT⟩ fun h' eb => ⟨rfl, I.turned (t' := s.toks) (fun b o hb q => eb b o hb q) f0 f1 f3 f4 f5⟩
  self := fun A i s Q E st h => wpAny_pyIter_enum st.1.choose_spec h
/-- enumerate(x), x a list or a tuple -/
def iEnumA (K : PySem.W.Frag) (ta : TA) : TI := fun σ H R => ta σ H fun vs H1 => ∃ a xs, vs = [.ref a] ∧ ((SqL K H1 a xs ∧ R (Ite K a) H1) ∨ (SqT K H1 a xs ∧ R (IteT K a) H1))
theorem pi_enumA {X : Cx} {e : PySem.Expr} {ta : TA} {p pos tpos : Pos} {elts : List PySem.Expr} {kk : Nat} (hg : Gl X "enumerate") (hm : X.mg "enumerate" = none) (ha : PA X [e] ta) (hs : starEach [e] X.env = [(false, eval e X.env)]) :
    PI X (.Tuple elts kk tpos) (.Call (.Name "enumerate" p) [e] [] pos) (iEnumA X.K ta) := by
  refine ⟨fun pins s σ H R I h => ?_⟩
  refine Call_ (ld_blt I hg hm boot_enumerate (PyProof.Rows.callWith_type1 (thn (ha.run pos pins s σ H _ I h) fun us s1 ⟨vs, H1, I1, r1, a, xs, ex, q1⟩ => ?_) hs rfl))
  subst ex
  obtain ⟨u, rfl, ru⟩ := Vals.one r1
  cases ru
  have fin : ∀ (h' : Heap) (J : L2.It) (tn : Nat → Heap → Prop), (∀ b o, s1.heap.get? b = some o → h'.get? b = some o) → Turn X.prog X.w X.K (.Tuple elts kk tpos) J [s1.heap.objs.size + 1, s1.heap.objs.size] (s1.heap.objs.size + 1) tn → tn 0 h' → R J H1 →
      PIE X pins σ (.Tuple elts kk tpos) R (.ref (s1.heap.objs.size + 1)) { s1 with heap := h' } := fun h' J tn hk ht h0 q => by
    have I2 : Inv X pins σ H1 { s1 with heap := h' } := I1.kept (t' := s1.toks) hk
    refine ⟨s1.heap.objs.size + 1, [s1.heap.objs.size + 1, s1.heap.objs.size], tn, J, H1, rfl, I2, ht, h0, fun b hb => ?_, q⟩
    have hle : s1.heap.objs.size ≤ b := by
      rcases (show b = s1.heap.objs.size + 1 ∨ b = s1.heap.objs.size by simpa using hb) with z | z <;> rw [z]
      · exact Nat.le_add_right _ _
      · exact Nat.le_refl _
    exact I1.fpOk hle (I1.hok.fresh hle)
  rcases q1 with ⟨hq, q⟩ | ⟨hq, q⟩
  · obtain ⟨its, rv, p', hz⟩ := I1.list hq
    exact call_enumerate_list p'.isList fun h' he hit hsz hk => wpAny_pyIter_enum he (fin h' _ _ hk (turn_enum a _ _) ⟨⟨.none, he⟩, hit, Nat.succ_ne_self _⟩ q)
  · obtain ⟨its, rv, p', hz⟩ := I1.tuple hq
    exact call_enumT (its := its.toArray) p' fun h' he hit hk => wpAny_pyIter_enum he (fin h' _ _ hk (turn_enumT a _ _) ⟨⟨.none, he⟩, hit, Nat.succ_ne_self _⟩ q)
theorem enum_get {ds : List D} {i : Nat} {d : D} (h : (enumD ds)[i]? = some d) : ∃ x, ds[i]? = some x ∧ d = .tuple [.int i, x] := by
  unfold enumD at h
  rw [List.getElem?_map, List.getElem?_zipIdx] at h
  cases hx : ds[i]? with
  | none => rw [hx] at h; cases h
  | some x => rw [hx] at h; simp at h; exact ⟨x, rfl, h.symm⟩
theorem enum_len (ds : List D) : (enumD ds).length = ds.length := by unfold enumD; simp
theorem no_starI : ∀ {xs : List PySem.Expr} {env : PySem.Env} {pos : Pos}, xs.all notStar = true → (backTo pos (starEach xs env)).any (·.1) = false
  | [], _, _, _ => rfl
  | x :: xs, env, pos, h => by
    rw [List.all_cons, Bool.and_eq_true] at h
    rw [star_eq h.1]
    show (false || (backTo pos (starEach xs env)).any (·.1)) = false
    rw [no_starI h.2]; rfl
section
variable {C : Calls} {X : Cx} {tg : PySem.Expr}
theorem walks_enumL {K : PySem.W.Frag} {M N : Zn} {H : Hp} {a : Addr} {vs : List V} {ds : List D} (hl : ds.length ≤ sizeLine) (ha : H a = some (.lst vs)) (nM : ¬ M a) (r : RpAll N H vs ds) (f : Fit N H) (hM : ∀ b, M b → N b) : Wk M N H (Ite K a) (enumD ds) where
  len := by rw [enum_len]; exact hl
  go := fun i H' d e h => by
    obtain ⟨x, hx, rfl⟩ := enum_get h
    obtain ⟨v, hv, _⟩ := r.get' hx
    exact ⟨vs, v, SqL.of (e _ _ ha nM), hv⟩
  yld := fun i H' d x H2 e h y => by
    obtain ⟨z, hz, rfl⟩ := enum_get h
    obtain ⟨T, u, rfl, hT, rfl, hu⟩ := y
    obtain ⟨d1, h1, rd1⟩ := r.get (hu vs (SqL.of (e _ _ ha nM)))
    rw [hz] at h1; cases h1
    have en : Ext No H' (upd H' T (.tup [.int (i : Nat), u])) := Ext.new hT
    exact ⟨en, fun N' hN => .tup upd_same (.cons (.int _) (.cons (rd1.move ((e.mono hM).trans (en.any N)) f hN) .nil))⟩
  stop := fun i H' e h => ⟨vs, SqL.of (e _ _ ha nM), by rw [enum_len] at h; rw [r.length]; exact h⟩
theorem walks_enumT {K : PySem.W.Frag} {M N : Zn} {H : Hp} {a : Addr} {vs : List V} {ds : List D} (hl : ds.length ≤ sizeLine) (ha : H a = some (.tup vs)) (nM : ¬ M a) (r : RpAll N H vs ds) (f : Fit N H) (hM : ∀ b, M b → N b) : Wk M N H (IteT K a) (enumD ds) where
  len := by rw [enum_len]; exact hl
  go := fun i H' d e h => by
    obtain ⟨x, hx, rfl⟩ := enum_get h
    obtain ⟨v, hv, _⟩ := r.get' hx
    exact ⟨vs, v, SqT.of (e _ _ ha nM), hv⟩
  yld := fun i H' d x H2 e h y => by
    obtain ⟨z, hz, rfl⟩ := enum_get h
    obtain ⟨T, u, rfl, hT, rfl, hu⟩ := y
    obtain ⟨d1, h1, rd1⟩ := r.get (hu vs (SqT.of (e _ _ ha nM)))
    rw [hz] at h1; cases h1
    have en : Ext No H' (upd H' T (.tup [.int (i : Nat), u])) := Ext.new hT
    exact ⟨en, fun N' hN => .tup upd_same (.cons (.int _) (.cons (rd1.move ((e.mono hM).trans (en.any N)) f hN) .nil))⟩
  stop := fun i H' e h => ⟨vs, SqT.of (e _ _ ha nM), by rw [enum_len] at h; rw [r.length]; exact h⟩
theorem walks_enumH {K : PySem.W.Frag} {M N : Zn} {H : Hp} {a : Addr} {vs : List V} {ds : List D} (hl : ds.length ≤ sizeLine) {o : Obj} (ha : H a = some (.frz o (.tup vs))) (nM : ¬ M a) (r : RpAll N H vs ds) (f : Fit N H) (hM : ∀ b, M b → N b) : Wk M N H (IteT K a) (enumD ds) where
  len := by rw [enum_len]; exact hl
  go := fun i H' d e h => by
    obtain ⟨x, hx, rfl⟩ := enum_get h
    obtain ⟨v, hv, _⟩ := r.get' hx
    exact ⟨vs, v, (show SqT K _ a vs from .inl (.inr ⟨o, e _ _ ha nM⟩)), hv⟩
  yld := fun i H' d x H2 e h y => by
    obtain ⟨z, hz, rfl⟩ := enum_get h
    obtain ⟨T, u, rfl, hT, rfl, hu⟩ := y
    obtain ⟨d1, h1, rd1⟩ := r.get (hu vs ((show SqT K _ a vs from .inl (.inr ⟨o, e _ _ ha nM⟩))))
    rw [hz] at h1; cases h1
    have en : Ext No H' (upd H' T (.tup [.int (i : Nat), u])) := Ext.new hT
    exact ⟨en, fun N' hN => .tup upd_same (.cons (.int _) (.cons (rd1.move ((e.mono hM).trans (en.any N)) f hN) .nil))⟩
  stop := fun i H' e h => ⟨vs, (show SqT K _ a vs from .inl (.inr ⟨o, e _ _ ha nM⟩)), by rw [enum_len] at h; rw [r.length]; exact h⟩
theorem enum_run {K : PySem.W.Frag} {M N : Zn} {H : Hp} {x : V} {d : D} {ds : List D} {R : L2.It → Hp → Prop} (r : RpB N H x d) (hd : ltD d = some ds) (f : Fit N H) (hM : ∀ b, M b → N b) (n1 : ∀ a, x = .ref a → ¬ M a) (sz : ds.length ≤ sizeLine) (q : ∀ J, Wk M N H J (enumD ds) → R J H) :
    ∃ a xs, [x] = [.ref a] ∧ ((SqL K H a xs ∧ R (Ite K a) H) ∨ (SqT K H a xs ∧ R (IteT K a) H)) := by
  unfold ltD at hd
  split at hd
  · cases hd
    obtain ⟨a, xs, rfl, ha, rr⟩ := r.list_of
    exact ⟨a, xs, rfl, .inl ⟨SqL.of ha, q _ (walks_enumL sz ha (n1 a rfl) rr f hM)⟩⟩
  · cases hd
    obtain ⟨a, xs, rfl, ha, rr⟩ := r.tup_of
    exact ⟨a, xs, rfl, .inr ⟨SqT.of ha, q _ (walks_enumT sz ha (n1 a rfl) rr f hM)⟩⟩
  · rw [unH_of hd] at r
    obtain ⟨a, o, xs, rfl, ha, _, rr⟩ := r.hrd_of
    exact ⟨a, xs, rfl, .inr ⟨.inl (.inr ⟨o, ha⟩), q _ (walks_enumH sz ha (n1 a rfl) rr f hM)⟩⟩
  · cases hd
theorem it_enum (b : Bool) {e : E} {x : PySem.Expr} {p p2 tpos : Pos} {elts : List PySem.Expr} {kk : Nat} (hg : Gl X "enumerate") (hm : X.mg "enumerate" = none) (hs : notStar x = true) (hxB : PE X x (tBo C e)) (hxE : PE X x (tE C e)) :
    PI X (.Tuple elts kk tpos) (.Call (.Name "enumerate" p) [x] [] p2) (tI C b (.enum e)) := by
  have hst : starEach [x] X.env = [(false, eval x X.env)] := star_eq hs
  cases b with
  | true =>
    refine PI.weak (pi_enumA hg hm (pa_cons (size_of hxB) pa_nil hst) hst) fun σ H R ⟨S, P, ρ, Q0, R', h, q⟩ => ?_
    refine ⟨S, P, ρ, _, R', h, fun d hd v H1 e1 i1 r1 sz => ?_⟩
    have R1 := R'.ext e1 i1
    obtain ⟨ds, eds, q0⟩ := hd
    exact enum_run r1.1 eds R1.fit R1.domN r1.2 (sz _ d ds r1.1 eds) fun J w => q _ q0 J H1 e1 i1 w
  | false =>
    refine PI.weak (pi_enumA hg hm (pa_cons (size_of hxE) pa_nil hst) hst) fun σ H R ⟨S, P, ρ, Q0, R', h, q⟩ => ?_
    refine ⟨S, P, ρ, _, R', h, fun d hd v H1 e1 i1 r1 _ sz => ?_⟩
    have R1 := R'.ext e1 i1
    obtain ⟨ds, eds, q0⟩ := hd
    exact enum_run (.of r1) eds R1.fit (fun _ z => z) (rp_top r1 R1.fit) (sz _ d ds (.of r1) eds) fun J w => q _ q0 J H1 e1 i1 w
/-! range with a step -/
theorem rng3_of {lo hi st : D} {ds : List D} (h : rng3D lo hi st = some ds) : ∃ a b c n, lo = .int a ∧ hi = .int b ∧ st = .int c ∧ RgC a b c n ∧ n ≤ sizeLine ∧ ds = (List.range n).map fun i : Nat => .int (a + (i : Int) * c) := by
  unfold rng3D at h
  split at h
  · rename_i a b c
    split at h
    · rename_i hc
      cases h
      exact ⟨a, b, c, _, rfl, rfl, rfl, ⟨hc.1, hc.2.1, hc.2.2.1, hc.2.2.2.1⟩, hc.2.2.2.2, rfl⟩
    · cases h
  · cases h
theorem walks_rng3 {M N : Zn} {H : Hp} {a c : Int} {n : Nat} (hn : n ≤ sizeLine) : Wk M N H (Itc a c n) ((List.range n).map fun i : Nat => .int (a + (i : Int) * c)) where
  len := by simpa using hn
  go := fun i H' d e q => by
    have := (List.getElem?_eq_some_iff.mp q).1
    show i < n
    simpa using this
  yld := fun i H' d x H2 e q y => by
    obtain ⟨rfl, rfl⟩ := y
    rw [List.getElem?_map] at q
    obtain ⟨j, hj, rfl⟩ := Option.map_eq_some_iff.mp q
    obtain ⟨h1, h2⟩ := List.getElem?_eq_some_iff.mp hj
    rw [List.getElem_range] at h2
    subst h2
    exact ⟨Ext.refl, fun N' _ => .int _⟩
  stop := fun i H' e h => by show n ≤ i; simpa using h
theorem it_rng3 (b : Bool) {lo hi st : E} {x y z : PySem.Expr} {p p2 : Pos} (hg : Gl X "range") (hm : X.mg "range" = none) (hs : notStar x = true) (hs2 : notStar y = true) (hs3 : notStar z = true) (hl : PE X x (tE C lo)) (hh : PE X y (tE C hi)) (hst : PE X z (tE C st)) :
    PI X tg (.Call (.Name "range" p) [x, y, z] [] p2) (tI C b (.rng3 lo hi st)) := by
  have e3 : starEach [z] X.env = [(false, eval z X.env)] := star_eq hs3
  have hpl : (backTo p2 (starEach [y, z] X.env)).any (·.1) = false := no_starI (by simp [hs2, hs3])
  refine PI.weak (pi_range3 hg hm (pa_cons hl (pa_cons hh (pa_cons hst pa_nil e3) (star_eq hs2)) (star_eq hs)) (star_eq hs) hpl) fun σ H R ⟨S, P, ρ, Q0, R', h, q⟩ => ?_
  refine ⟨S, P, ρ, _, R', h, fun d hd v H1 e1 i1 r1 _ => ?_⟩
  have R1 := R'.ext e1 i1
  refine ⟨S, P, ρ, _, R1, hd, fun d2 hd2 v2 H2 e2 i2 r2 _ => ?_⟩
  have R2 := R1.ext e2 i2
  refine ⟨S, P, ρ, _, R2, hd2, fun d3 hd3 v3 H3 e3 i3 r3 _ => ?_⟩
  obtain ⟨ds, eds, q0⟩ := hd3
  obtain ⟨a, c, k, n, rfl, rfl, rfl, hr, hn, rfl⟩ := rng3_of eds
  cases (RpB.of r1).int_of
  cases (RpB.of r2).int_of
  cases (RpB.of r3).int_of
  exact ⟨a, c, k, n, rfl, hr, q _ q0 _ H3 ((e1.trans e2).trans e3) i3 (walks_rng3 hn)⟩
end
end
/-! PDle: list comprehensions over a dict of one's own, which they do not use. -/
section
open PySem L2 RZ
variable [Tb]
section
variable {N N' : Zn} {H : Hp} {p : Addr} {ob : Obj} {u : HO}
theorem frz_ne (hd : H p = some (.frz ob u)) {a : Addr} {o : HO} (q : H a = some o) (h : ∀ ob u, o ≠ .frz ob u) : a ≠ p := fun e => by
  subst e
  rw [hd] at q
  exact h ob u (Option.some.inj q).symm
mutual
theorem Rp.unl (hd : H p = some (.frz ob u)) (hu : ∀ xs, u ≠ .tup xs) (h : ∀ a, N' a → N a ∨ a = p) : ∀ {v : V} {d : D}, Rp N H v d → Rp N' (upd H p u) v d
  | _, _, .non => .non
  | _, _, .bl b => .bl b
  | _, _, .int i => .int i
  | _, _, .str x => .str x
  | _, _, .lst n q r => by
    have ne := frz_ne hd q (by intro _ _ e; cases e)
    exact .lst (fun z => (h _ z).elim n ne) (by rw [upd_ne ne]; exact q) (RpAll.unl hd hu h r)
  | _, _, .tup q r => by
    have ne := frz_ne hd q (by intro _ _ e; cases e)
    exact .tup (by rw [upd_ne ne]; exact q) (RpAll.unl hd hu h r)
  | _, _, .hrd (a := a) q z r => by
    have ne : a ≠ p := fun e => by
      subst e
      rw [hd] at q
      cases q
      exact hu _ rfl
    exact .hrd (by rw [upd_ne ne]; exact q) z (RpAll.unl hd hu h r)
  | _, _, .dK n q r => by
    have ne := frz_ne hd q (by intro _ _ e; cases e)
    exact .dK (fun z => (h _ z).elim n ne) (by rw [upd_ne ne]; exact q) (RpAll.unl hd hu h r)
  | _, _, .dT n k q r => by
    have ne := frz_ne hd q (by intro _ _ e; cases e)
    exact .dT (fun z => (h _ z).elim n ne) k (by rw [upd_ne ne]; exact q) (RpAll.unl hd hu h r)
theorem RpAll.unl (hd : H p = some (.frz ob u)) (hu : ∀ xs, u ≠ .tup xs) (h : ∀ a, N' a → N a ∨ a = p) : ∀ {vs : List V} {ds : List D}, RpAll N H vs ds → RpAll N' (upd H p u) vs ds
  | _, _, .nil => .nil
  | _, _, .cons r t => .cons (Rp.unl hd hu h r) (RpAll.unl hd hu h t)
end
end
section
variable {S : Src} {P : Zn} {ρ : Nv} {σ : L2.St} {H : Hp}
theorem rp_ky {N : Zn} (k : Key) : Rp N H (kV k) (keyD k) := by
  cases k with
  | inl i => exact .int i
  | inr x => exact .str x
theorem rp_kys {N : Zn} : ∀ ks : List Key, RpAll N H (ks.map kV) (ks.map keyD)
  | [] => .nil
  | k :: ks => .cons (rp_ky k) (rp_kys ks)
theorem own_sNo {i : Nat} {a : Addr} (z : OwnAt (ρ.set i none) σ a) : OwnAt ρ σ a := by
  obtain ⟨j, d, h1, h2⟩ := z
  by_cases e : j = i
  · subst e
    rw [List.getElem?_set] at h1
    simp only [if_true] at h1
    split at h1 <;> cases h1
  · rw [List.getElem?_set_ne (Ne.symm e)] at h1
    exact ⟨j, d, h1, h2⟩
/-- the dict is put aside -/
theorem Rel.lock (R : Rel S P ρ σ H) {i : Nat} {kvs : List (D × D)} {p : Addr} {o : HO} (hi : ρ[i]? = some (some (.own (.dict kvs)))) (hs : σ[i]? = some (some (.ref p))) (np : ¬ P p) : Rel S P (ρ.set i none) σ (upd H p o) := by
  have nset : ∀ {j : Nat} {x : B}, (ρ.set i none)[j]? = some (some x) → j ≠ i ∧ ρ[j]? = some (some x) := fun {j x} h => by
    by_cases e : j = i
    · subst e
      rw [List.getElem?_set] at h
      simp only [if_true] at h
      split at h <;> cases h
    · rw [List.getElem?_set_ne (Ne.symm e)] at h
      exact ⟨e, h⟩
  have less : ∀ a, Nn P (ρ.set i none) σ a → Nn P ρ σ a := fun a z => z.elim .inl fun z => .inr (own_sNo z)
  have ex : Ext (Nn P ρ σ) H (upd H p o) := fun a q ha n => by
    have ne : a ≠ p := fun e => by subst e; exact n (.inr ⟨i, _, hi, hs⟩)
    rw [upd_ne ne]; exact ha
  have pne : ∀ a, P a → a ≠ p := fun a z e => by subst e; exact np z
  exact {
    len := by rw [List.length_set]; exact R.len
    sub := R.sub
    fitP := ⟨fun a z => by
      obtain ⟨q, hq, m⟩ := R.fitP.dom a z
      exact ⟨q, by rw [upd_ne (pne a z)]; exact hq, m⟩⟩
    inv := S.upd R.inv (fun z => pne p (R.sub p z) rfl) (by
      obtain ⟨a, q, _, r, _⟩ := R.own i _ hi
      rw [hs] at q; cases q
      exact r.noExt)
    sh := fun j d h => by
      obtain ⟨_, h⟩ := nset h
      obtain ⟨v, hv, r⟩ := R.sh j d h
      exact ⟨v, hv, (r.ext ex R.fit).less less⟩
    own := fun j d h => by
      obtain ⟨ne, h⟩ := nset h
      obtain ⟨a, ha, l, r, na⟩ := R.own j d h
      refine ⟨a, ha, l, (r.extA R.fit ex fun b q eb hb => ?_).less less, na⟩
      cases eb
      have nb : a ≠ p := fun e => by subst e; exact ne (R.dis j i _ _ _ h hi ha hs)
      rw [upd_ne nb]
      exact hb
    dis := fun j k d e a h1 h2 => R.dis j k d e a (nset h1).2 (nset h2).2
    src := fun j h => R.src j (nset h).2 }
theorem zip_fst {α : Type} : ∀ {xs : List α} {ds : List D}, xs.length = ds.length → (xs.zip ds).map (·.1) = xs
  | [], [], _ => rfl
  | x :: xs, d :: ds, h => by rw [List.zip_cons_cons, List.map_cons, zip_fst (by simpa using h)]
  | [], _ :: _, h => nomatch h
  | _ :: _, [], h => nomatch h
theorem wk_keys {M N : Zn} {H1 : Hp} {p : Addr} {od : Obj} {kvs : List (Key × V)} (hz : kvs.length ≤ sizeLine) (hp : H1 p = some (.frz od (.dK kvs))) (nM : ¬ M p) : Wk M N H1 (Itk p od kvs) (kvs.map fun q => keyD q.1) where
  len := by rw [List.length_map]; exact hz
  go := fun i H d e h => by
    obtain ⟨hi, _⟩ := List.getElem?_eq_some_iff.mp h
    exact ⟨e _ _ hp nM, by simpa using hi⟩
  yld := fun i H d x H' e h y => by
    obtain ⟨rfl, k, v, hk, rfl⟩ := y
    rw [List.getElem?_map, hk] at h
    cases h
    exact ⟨Ext.refl, fun _ _ => rp_ky k⟩
  stop := fun i H e h => ⟨e _ _ hp nM, by simpa using h⟩
theorem wk_keysT {M N : Zn} {H1 : Hp} {p : Addr} {od : Obj} {kvs : List (List Key × V)} (hz : kvs.length ≤ sizeLine) (hp : H1 p = some (.frz od (.dT kvs))) (nM : ¬ M p) : Wk M N H1 (Itkt p od kvs) (kvs.map fun q => tkeyD q.1) where
  len := by rw [List.length_map]; exact hz
  go := fun i H d e h => by
    obtain ⟨hi, _⟩ := List.getElem?_eq_some_iff.mp h
    exact ⟨e _ _ hp nM, by simpa using hi⟩
  yld := fun i H d x H' e h y => by
    obtain ⟨rfl, k, v, q, hk, rfl, hq⟩ := y
    rw [List.getElem?_map, hk] at h
    cases h
    exact ⟨Ext.refl, fun _ _ => .tup hq (rp_kys k)⟩
  stop := fun i H e h => ⟨e _ _ hp nM, by simpa using h⟩
/-- the dict of an own slot -/
theorem own_dict (R : Rel S P ρ σ H) {i : Nat} {kvs : List (D × D)} (hi : ρ[i]? = some (some (.own (.dict kvs)))) : ∃ p, σ[i]? = some (some (.ref p)) ∧ ¬ P p ∧ ((∃ ks : List (Key × V), H p = some (.dK ks) ∧ ks.map (fun q => keyD q.1) = kvs.map (·.1)) ∨ ∃ ks : List (List Key × V), H p = some (.dT ks) ∧ ks.map (fun q => tkeyD q.1) = kvs.map (·.1)) := by
  obtain ⟨p, hs, l, r, np⟩ := R.own i _ hi
  refine ⟨p, hs, np, ?_⟩
  generalize hk : PyData.dict kvs = x at r
  cases r with
  | of r => cases r with
    | lst _ _ _ => cases hk
    | tup _ _ => cases hk
    | hrd _ _ _ => rw [hk] at l; simp [isL, mkH, nmK] at l
    | dK n _ _ => exact absurd (.inr ⟨i, _, hi, hs⟩) n
    | dT n _ _ _ => exact absurd (.inr ⟨i, _, hi, hs⟩) n
  | lst _ _ => cases hk
  | dK q r =>
    cases hk
    have := r.length
    exact .inl ⟨_, q, (zip_fst (by simpa using this)).symm⟩
  | dT _ q r =>
    cases hk
    have := r.length
    exact .inr ⟨_, q, (zip_fst (by simpa using this)).symm⟩
end
section
variable {C : Calls} {X : Cx} {tg : PySem.Expr}
theorem ev_lck {vs : List Nat} {g : G} {i : Nat} {c : To} {elt : E} {iter x : PySem.Expr} {ifs : List PySem.Expr} {scope : Scope} {own : List (Str × Nat)} {pos : Pos} (hc : X.calm = true) (hN : X.N.Nodup) (hi : PE X iter (tVar i)) (ok : BlkOk X.N X.env.scope scope own) (hv : own.map (·.2) = vs) (hgs : gSlots g = vs)
    (hg : ∀ (s : Shared) (H : Hp) (Cc : Addr) (cl : List (Str × Addr)) (fp : List Addr), PG (X.blk s H scope (compEnvC scope cl Cc X.env) fp) tg (tG g)) (ht : ∀ (s : Shared) (H : Hp) (Cc : Addr) (cl : List (Str × Addr)) (fp : List Addr), PTs (X.blk s H scope (compEnvC scope cl Cc X.env) fp) ifs (tTo C c))
    (he : ∀ (s : Shared) (H : Hp) (Cc : Addr) (cl : List (Str × Addr)) (fp : List Addr), PE (X.blk s H scope (compEnvC scope cl Cc X.env) fp) x (tE C elt)) (hs : ∀ z, foldedSetIterable iter X.env z = pure z) :
    PE X (.ListComp x [⟨tg, iter, ifs, 0⟩] scope pos) (tE C (.lck vs g i c elt)) := by
  refine PE.weak (pe_lock (pe_lc hc hN (pi_keys hi) ok hg ht he hs)) fun σ H Q ⟨S, P, ρ, Q0, R, ⟨kvs, hk, hz, hf, h⟩, q⟩ => ?_
  rw [hv]
  obtain ⟨p, hp, np, hd⟩ := own_dict R hk
  have nS : ¬ S.dom p := fun z => np (R.sub p z)
  have fin : ∀ (u : HO) (od : Obj) (J : L2.It), H p = some u → Mut (some u) → Wk S.dom (Nn P (ρ.set i none) σ) (upd H p (.frz od u)) J (kvs.map (·.1)) → tLc (fun _ _ R => R J (upd H p (.frz od u))) (tG g) (tTo C c) (tE C elt) vs σ (upd H p (.frz od u)) fun v H' => H' p = some (.frz od u) ∧ Q v (upd H' p u) := fun u od J hu m w => by
    refine lc_body hgs (R.lock hk hp np) hf w h fun ads hq D acc H' e2 i2 hD hD2 ra => ?_
    have hp' : H' p = some (.frz od u) := e2 _ _ upd_same nS
    have hDp : D ≠ p := fun e => by rw [e, upd_same] at hD; cases hD
    have hDH : H D = none := by rw [upd_ne hDp] at hD; exact hD
    have le : ∀ a, Nn P ρ σ a → Nn P (ρ.set i none) σ a ∨ a = p := fun a z => by
      rcases z with z | ⟨j, d, h1, h2⟩
      · exact .inl (.inl z)
      · by_cases e : j = i
        · subst e
          rw [hp] at h2; cases h2
          exact .inr rfl
        · exact .inl (.inr ⟨j, d, by rw [List.getElem?_set_ne (Ne.symm e)]; exact h1, h2⟩)
    have ra' : RpAll (fun a => Nn P ρ σ a ∨ a = D) (upd H' p u) acc ads := ra.unl hp' (fun xs e => by subst e; exact m) fun a z => z.elim (fun z => (le a z).elim (fun z => .inl (.inl z)) .inr) fun z => .inl (.inr z)
    refine ⟨hp', q _ hq _ _ (fun a o ha n => ?_) (S.upd i2 nS (by rw [hp']; exact fun f z => nomatch z)) (.lst (R.fit.ne hDH) (by rw [upd_ne hDp]; exact hD2) (ra'.less fun a z => .inl z)) fun _ _ => ⟨D, rfl, hDH, .lst (by rw [upd_ne hDp]; exact hD2) ra'⟩⟩
    by_cases e : a = p
    · rw [e, upd_same, ← hu, ← e]; exact ha
    · rw [upd_ne e]
      exact e2 a o (by rw [upd_ne e]; exact ha) n
  rcases hd with ⟨ks, hks, ek⟩ | ⟨ks, hks, ek⟩
  · have hl : ks.length ≤ sizeLine := by
      have := congrArg List.length ek
      simp only [List.length_map] at this
      omega
    refine ⟨p, _, hks, trivial, fun od => ?_⟩
    refine ⟨_, hp, p, od, rfl, .inl ⟨ks, upd_same, ?_⟩⟩
    exact fin _ od _ hks trivial (ek ▸ wk_keys hl upd_same nS)
  · have hl : ks.length ≤ sizeLine := by
      have := congrArg List.length ek
      simp only [List.length_map] at this
      omega
    refine ⟨p, _, hks, trivial, fun od => ?_⟩
    refine ⟨_, hp, p, od, rfl, .inr ⟨ks, upd_same, ?_⟩⟩
    exact fin _ od _ hks trivial (ek ▸ wk_keysT hl upd_same nS)
end
end
set_option maxHeartbeats 4000000
/-! PDls: the set of a list of ints (HandS has the one of a tuple). -/
section
open PySem L2 PySem.Spec PyProof.Rows
variable [Tb]
/-- a new set, as this world makes it -/
abbrev mtSet (w : World) : Obj := { cls := .type "set", dict := none, data := .set #[] 0 (.fresh 0 0 (!w.params.followText "set-order")) }
section
variable {P : Program} {w : World} {A : Around} {E : Value → Shared → Prop} {s : Shared}
/-- what __init__ leaves behind -/
def Filled (w : World) (s : Shared) (ns : List Int) (r : Value) (s2 : Shared) : Prop :=
  r = .none ∧ ∃ (h' : Heap) (tk c : Nat), s2 = { s with heap := h', toks := tk } ∧ SetR w h' s.heap.objs.size (fun j => decide (j ∈ ns)) c ∧ c ≤ ns.length ∧ ∀ b o, s.heap.get? b = some o → h'.get? b = some o
theorem lst_vals {items : Array Value} {ns : List Int} (hit : IntsAre items.toList ns) (len : items.size = ns.length) : ∀ (i : Nat) (v : Value), items[i]? = some v → ∃ k t, ns[i]? = some k ∧ v = .int k t := by
  intro i v hv
  have hi : i < ns.length := len ▸ (Array.getElem?_eq_some_iff.mp hv).1
  obtain ⟨t, rfl⟩ := PyProof.Rows.IntsAre.int_at hit i v (by rw [Array.getElem?_toList]; exact hv)
  have hg := List.getElem?_eq_getElem hi
  exact ⟨_, t, hg, by rw [List.getD_eq_getElem?_getD, hg]; rfl⟩
/-- the loop over the list, from the new set on -/
theorem fill_list {A : Around} {l : Addr} {items : Array Value} {ns : List Int} {R : Result → Shared → Prop} (hh : A.in1.handled = none) (hl : s.heap.IsList l items) (hit : IntsAre items.toList ns) (hb : ns.length + 1 < scanBound)
    (q : ∀ (h' : Heap) (tk c : Nat), SetR w h' s.heap.objs.size (fun j => decide (j ∈ ns)) c → c ≤ ns.length → (∀ b o, s.heap.get? b = some o → h'.get? b = some o) → R (.ok (.ret .none)) { s with heap := h', toks := tk }) :
    codeAny (model P w) A (.builtin "set.update.loop" ⟨[.ref s.heap.objs.size, .ref (s.heap.objs.size + 1)], []⟩) R { s with heap := (s.heap.push (mtSet w)).push { cls := .type "list_iterator", data := .fields #[.ref l, .int 0 0] } } := by
  have len : items.size = ns.length := by
    rw [← Array.length_toList]; exact IntsAre.length hit
  have hlS : l < s.heap.objs.size := by
    obtain ⟨o, ho, _⟩ := hl
    exact Heap.lt_size ho
  have z1 : (s.heap.push (mtSet w)).objs.size = s.heap.objs.size + 1 := Heap.size_push ..
  have hI : ((s.heap.push (mtSet w)).push { cls := .type "list_iterator", data := .fields #[.ref l, .int 0 0] }).get? (s.heap.objs.size + 1) = some { cls := .type "list_iterator", data := .fields #[.ref l, .int 0 0] } := by
    rw [← z1]; exact Heap.get?_push_size _ rfl
  have hS0 : ((s.heap.push (mtSet w)).push { cls := .type "list_iterator", data := .fields #[.ref l, .int 0 0] }).get? s.heap.objs.size = some (mtSet w) := Heap.get?_push_of_some _ (Heap.get?_push_size _ rfl)
  have out : s.heap.objs.size ∉ [s.heap.objs.size + 1, l] := fun z => by
    rcases List.mem_cons.mp z with z | z
    · exact absurd z (Nat.ne_of_lt (Nat.lt_succ_self _))
    · exact absurd (List.mem_singleton.mp z) (Nat.ne_of_gt hlS)
  refine set_update_ints ((Walks.list hh _ l (Nat.ne_of_lt (Nat.lt_succ_of_lt hlS)) items).toS) s.heap.objs.size out ns len hb (lst_vals hit len) (items.size - 0) 0 _ (by omega) (Nat.zero_le _) ⟨⟨_, hI, rfl, rfl⟩, (hl.push _).push _⟩ ⟨0, Nat.le_refl 0, setR_new_at hS0⟩ ?_
  rintro ⟨h', g, d, tk, os⟩ c hm hc hR
  obtain rfl : g = s.gens := hm.gens
  obtain rfl : d = s.drawn := hm.drawn
  obtain rfl : os = s.os := hm.os
  refine q h' tk c hR (by omega) fun b o e => ?_
  have hb0 := Heap.lt_size e
  have off : b ∉ [s.heap.objs.size, s.heap.objs.size + 1] := fun z => by
    rcases List.mem_cons.mp z with z | z
    · exact absurd z (Nat.ne_of_lt hb0)
    · exact absurd (List.mem_singleton.mp z) (Nat.ne_of_lt (Nat.lt_succ_of_lt hb0))
  exact hm.heap b o off (Heap.get?_push_of_some _ (Heap.get?_push_of_some _ e))
set_option maxHeartbeats 8000000 in
/-- __init__ of the new set -/
theorem init_list {A : Around} {l : Addr} {items : Array Value} {ns : List Int} (hh : A.handled = none) (hl : s.heap.IsList l items) (hit : IntsAre items.toList ns) (hb : ns.length + 1 < scanBound) :
    codeAny (model P w) A (.call (.builtin "set.__init__") ⟨[.ref s.heap.objs.size, .ref l], []⟩) (wants (Filled w s ns) E) { s with heap := s.heap.push (mtSet w) } := by
  have hS : (s.heap.push (mtSet w)).get? s.heap.objs.size = some (mtSet w) := Heap.get?_push_size _ rfl
  have hT : Shared.TypeIs { s with heap := s.heap.push (mtSet w) } (.ref s.heap.objs.size) "set" := ⟨_, hS, rfl⟩
  refine codeAny_call_builtin F.called_set.init.plain F.entry_set_init (check_set_init_1 hT ?_)
  have sl := F.sub_list_set
  have sf := F.sub_list_frozenset
  have nd : (Value.type "list" == Value.type "dict") = false := by decide
  have hl1 : (s.heap.push (mtSet w)).IsList l items := hl.push _
  obtain ⟨ol, hol, hcl, nl, hdl⟩ := id hl
  obtain ⟨ocls, odict, odata, oslots⟩ := ol
  simp only at hcl hdl
  subst hcl
  subst hdl
  have hol' : (s.heap.push (mtSet w)).get? l = some { cls := .type "list", dict := odict, data := .seq items nl, slots := oslots } := Heap.get?_push_of_some _ hol
  unfold Builtin.«set.__init__» noKeywords Builtin.Frozenset.updateFrom
  generalize hP : pyIter = PI
  wp_walk
  subst hP
  refine wpAny_pyIter_list hl1 ?_
  refine wpAny_bind (wpAny_runValue ?_)
  have z1 : (s.heap.push (mtSet w)).objs.size = s.heap.objs.size + 1 := Heap.size_push ..
  show codeAny _ _ (.builtin "set.update.loop" ⟨[.ref s.heap.objs.size, .ref (s.heap.push (mtSet w)).objs.size], []⟩) _ _
  rw [z1]
  refine fill_list (s := s) (by simp [hh]) hl hit hb fun h' tk c r1 r2 r3 => ?_
  show wpAny _ _ _ _ _ _
  refine wpAny_pure ?_
  show wpAny _ _ (ret Value.none) _ _ _
  exact wpAny_pure ⟨rfl, h', tk, c, rfl, r1, r2, r3⟩
set_option maxHeartbeats 8000000 in
/-- set(xs), xs a list of ints -/
theorem call_set_lst {l : Addr} {items : Array Value} (ns : List Int) {Q : Value → Shared → Prop} (hh : A.handled = none) (hl : s.heap.IsList l items) (hit : IntsAre items.toList ns) (hb : ns.length + 1 < scanBound)
    (q : ∀ (h' : Heap) (tk c : Nat), SetR w h' s.heap.objs.size (fun j => decide (j ∈ ns)) c → c ≤ ns.length → (∀ b o, s.heap.get? b = some o → h'.get? b = some o) → Q (.ref s.heap.objs.size) { s with heap := h', toks := tk }) :
    wpAny (model P w) A (call (.type "set") [.ref l]) Q E s := by
  refine wpAny_call (codeAny_of_tree ?_)
  show wpAny _ _ (callAny (.type "set") _) _ _ _
  refine wpAny_pure ⟨Code.quiet_builtin _ (by decide +kernel), codeAny_builtin F.entry_type_call ?_⟩
  rw [Around.under_plain (weight_type_call_type "set" [.ref l] []) rfl]
  obtain ⟨c, tl, hmro⟩ := F.called_set.mro
  have a1 := F.called_set.made
  have a2 := F.called_set.sub
  have a3 := F.called_set.notType
  have a4 := F.called_set.canCreate
  have a5 := F.typeCall_set_1 (.ref l)
  have a6 := F.called_set.init.lookup
  repeat (any_goals (first | assumption | wp_step))
  refine codeAny_mono (code_set_led1 (.ref l) (E := E) (Q₁ := fun v s1 => v = .ref s.heap.objs.size ∧ s1 = { s with heap := s.heap.push (mtSet w) }) ⟨rfl, rfl⟩) fun r s1 hr => ?_
  match r, hr with
  | .error e, hr => exact hr
  | .ok (.ret v), hr =>
    obtain ⟨rfl, rfl⟩ := hr
    have hS : (s.heap.push (mtSet w)).get? s.heap.objs.size = some (mtSet w) := Heap.get?_push_size _ rfl
    have hT : Shared.TypeIs { s with heap := s.heap.push (mtSet w) } (.ref s.heap.objs.size) "set" := ⟨_, hS, rfl⟩
    have a7 := F.called_set.init.bind (.ref s.heap.objs.size)
    repeat (any_goals (first | assumption | wp_step))
    refine codeAny_mono (init_list (E := E) (by simp [hh]) hl hit hb) fun r2 s2 h2 => ?_
    match r2, h2 with
    | .error e, h2 => exact h2
    | .ok (.ret v), h2 =>
      obtain ⟨rfl, h', tk, c2, rfl, r1, r2, r3⟩ := h2
      repeat (any_goals (first | assumption | wp_step))
      exact q _ _ _ r1 r2 r3
end
end
/-! PDm: calls, tests, and: every expression is as its compact form says. -/
section
open PySem L2
variable [Tb]

section
variable {C : Calls} {X : Cx} {tb : List (Str × Nat)}
theorem gl_of {x : Str} (h : glB X.env.scope x = true) : Gl X x := by
  unfold glB at h
  split at h
  · assumption
  · cases h
theorem no_star : ∀ {xs : List PySem.Expr} {env : PySem.Env} {pos : Pos}, xs.all notStar = true → (backTo pos (starEach xs env)).any (·.1) = false
  | [], _, _, _ => rfl
  | x :: xs, env, pos, h => by
    rw [List.all_cons, Bool.and_eq_true] at h
    rw [star_eq h.1]
    show (false || (backTo pos (starEach xs env)).any (·.1)) = false
    rw [no_star h.2]; rfl
theorem ev_call (G : Good tb C X) {f : Nat} {nm : Str} {np : Nat} {as : Es} {x : PySem.Expr} {xs : List PySem.Expr} {p pos : Pos} (hf : tb[f]? = some (nm, np)) (hg : glB X.env.scope nm = true) (hn : okName nm = true) (hs : (x :: xs).all notStar = true) (hl : (x :: xs).length = np)
    (ha : PA X (x :: xs) (tEa C as)) : PE X (.Call (.Name nm p) (x :: xs) [] pos) (tE C (.call f as)) := by
  obtain ⟨k, a, fd, ps, hr, hm, hk, hb, F⟩ := G.fns f nm np hf
  unfold okName at hn
  simp only [Bool.and_eq_true, Bool.not_eq_true'] at hn
  rw [List.all_cons, Bool.and_eq_true] at hs
  refine PE.weak (pe_callG F hr G.grd (gl_of hg) hm hk hb ha hn.1.1 (star_eq hs.1) (no_star hs.2)) fun σ H Q ⟨S, P, ρ, Q0, R, h, q⟩ => ?_
  refine ⟨S, P, ρ, _, R, h, fun bs hbs vs H1 e1 i1 r1 => ?_⟩
  have R1 := R.ext e1 i1
  exact ⟨S, _, bs, Q0, R1.domN, R1.fit, i1, r1, hbs, fun d hd v H2 e2 i2 r2 => q d hd v H2 (e1.trans e2) i2 r2 (fun z => nomatch z)⟩
/-- a built-in called -/
theorem w_prim {p : Prim} {as : Es} {σ : L2.St} {H : Hp} {Q : VK} (h : tE C (.prim p as) σ H Q) :
    tCB (fun xs H Q => ∃ S N ds r, Fit N H ∧ RpBs S N H xs ds ∧ primD p ds = some r ∧ Out true N H r Q) (tEb C as) σ H Q := by
  obtain ⟨S, P, ρ, Q0, R, h, q⟩ := h
  refine ⟨S, P, ρ, _, R, h, fun ds hds vs H1 e1 i1 r1 => ?_⟩
  have R1 := R.ext e1 i1
  obtain ⟨r, er, q0⟩ := hds
  refine ⟨S, _, ds, r, R1.fit, r1, er, fun v' H' e' rp fs => q r q0 v' H' (e1.trans (e'.any _)) (S.ext i1 e') rp fun f l => (fs rfl l).back i1 e1⟩
theorem ev_primB {p : Prim} {as : Es} {nm : Str} {id : String} {x : PySem.Expr} {xs : List PySem.Expr} {pp pos : Pos} (hc : PrR X p (.builtin id)) (hg : glB X.env.scope nm = true) (hm : X.mg nm = none) (hv : bootBuiltins nm = some (.builtin id)) (h1 : nm ≠ "__name__") (h2 : (nm == ("__debug__" : Str)) = false) (hs : (x :: xs).all notStar = true)
    (ha : PA X (x :: xs) (tEb C as)) : PE X (.Call (.Name nm pp) (x :: xs) [] pos) (tE C (.prim p as)) := by
  rw [List.all_cons, Bool.and_eq_true] at hs
  exact PE.weak (pe_callB hc (gl_of hg) hm hv ha h1 h2 (star_eq hs.1) (no_star hs.2)) fun σ H Q h => w_prim h
theorem ev_primT {p : Prim} {as : Es} {nm : Str} {id : String} {x : PySem.Expr} {xs : List PySem.Expr} {pp pos : Pos} (hc : PrR X p (.type id)) (hg : glB X.env.scope nm = true) (hm : X.mg nm = none) (hv : bootBuiltins nm = some (.type id)) (h1 : nm ≠ "__name__") (h2 : (nm == ("__debug__" : Str)) = false) (hs : (x :: xs).all notStar = true)
    (ha : PA X (x :: xs) (tEb C as)) : PE X (.Call (.Name nm pp) (x :: xs) [] pos) (tE C (.prim p as)) := by
  rw [List.all_cons, Bool.and_eq_true] at hs
  exact PE.weak (pe_callTy hc (gl_of hg) hm hv ha h1 h2 (star_eq hs.1) (no_star hs.2)) fun σ H Q h => w_prim h
theorem pr_repr (G : Good tb C X) : PrR X .repr (.builtin "repr") := by
  intro pins s σ H xs us Q I r h
  obtain ⟨S, N, ds, r0, f, rb, hp, o⟩ := h
  unfold primD at hp
  split at hp <;> (try (rename_i e; cases e)) <;> (try cases hp)
  rename_i d
  have ok : showOk (er d) = true ∧ r0 = .str (er d).shown := by
    split at hp
    · rename_i ok
      have h1 : d.showable = true := by
        unfold showOk at ok
        simp only [Bool.and_eq_true] at ok
        exact ok.1.1
      rw [er_show _ h1]
      cases hp
      exact ⟨ok, rfl⟩
    · split at hp
      · rename_i ok
        cases hp
        exact ⟨ok, rfl⟩
      · cases hp
  obtain ⟨ok, rfl⟩ := ok
  unfold showOk at ok
  simp only [Bool.and_eq_true, decide_eq_true_eq] at ok
  obtain ⟨⟨h1, h2⟩, h3⟩ := ok
  have hu := G.units
  obtain ⟨x, rfl, q⟩ := rb.one
  obtain ⟨u, rfl, rx⟩ := r.one
  obtain ⟨as, rd, hd⟩ := q.reads I rx
  generalize er d = d at h1 h2 h3 rd o
  have sm : PyData.hasDict d = true → sysModules ∉ as := fun _ z => by
    obtain ⟨ob, hob⟩ := G.smod
    obtain ⟨_, hn⟩ := I.bs _ _ hob
    obtain ⟨o', ho'⟩ := hd _ z
    rw [hn] at ho'; cases ho'
  have fin : ∀ (t : Tok) (s' : Shared), Inv X pins σ H s' → EP X pins σ Q (.str d.shown t) s' := fun t s' I' => ⟨.str _, H, I', ⟨t, rfl⟩, o.imm (.str _) rfl⟩
  cases rd with
  | none =>
    exact PySem.P.repr_of_none (fin _ _ (I.tok _))
  | bool b =>
    have e : (PyData.bool b).shown = (if b then "True" else "False" : Str) := by simp only [PyData.shown]
    rw [e] at fin
    exact PySem.P.repr_of_bool (fin _ _ (I.tok _))
  | int i t =>
    have e : (PyData.int i).shown = (toString i : Str) := by simp only [PyData.shown]
    rw [e] at fin
    exact PySem.P.repr_of_int (by simpa [PyData.showable] using h1) (fin _ _ (I.tok _))
  | str x t =>
    have e : (PyData.str x).shown = reprText x := by simp only [PyData.shown]
    rw [e] at fin h3
    exact PySem.P.repr_of_str (fin _ _ (I.tok _)) h3
  | list a1 a2 a3 a4 =>
    exact repr_of_reads' (h₀ := s.heap) (.list a1 a2 a3 a4) h1 sm G.grd (by omega) (fun _ _ q => q) (fun h' u tk hk => fin _ _ (I.kept hk)) h3
  | tuple a1 a2 a3 a4 =>
    exact repr_of_reads' (h₀ := s.heap) (.tuple a1 a2 a3 a4) h1 sm G.grd (by omega) (fun _ _ q => q) (fun h' u tk hk => fin _ _ (I.kept hk)) h3
  | dict a1 a2 a3 a4 a5 =>
    exact repr_of_reads' (h₀ := s.heap) (.dict a1 a2 a3 a4 a5) h1 sm G.grd (by omega) (fun _ _ q => q) (fun h' u tk hk => fin _ _ (I.kept hk)) h3
theorem ev_prim (G : Good tb C X) {p : Prim} {as : Es} {nm : Str} {ty : Bool} {id : String} {x : PySem.Expr} {xs : List PySem.Expr} {pp pos : Pos} (hp : primName p = some (nm, ty, id)) (hg : glB X.env.scope nm = true) (hs : (x :: xs).all notStar = true)
    (ha : PA X (x :: xs) (tEb C as)) : PE X (.Call (.Name nm pp) (x :: xs) [] pos) (tE C (.prim p as)) := by
  cases p <;> simp only [primName] at hp <;> (try cases hp)
  · exact ev_primB (pr_len G.units) hg (G.blt _ (by simp)) (by decide +kernel) (by decide) (by decide) hs ha
  · exact ev_primT pr_tuple hg (G.blt _ (by simp)) (by decide +kernel) (by decide) (by decide) hs ha
  · exact ev_primT pr_tupleH hg (G.blt _ (by simp)) (by decide +kernel) (by decide) (by decide) hs ha
  · exact ev_primT (pr_list G.calm) hg (G.blt _ (by simp)) (by decide +kernel) (by decide) (by decide) hs ha
  · exact ev_primB (pr_sorted G.calm G.units) hg (G.blt _ (by simp)) (by decide +kernel) (by decide) (by decide) hs ha
  · exact ev_primB (pr_sum G.calm) hg (G.blt _ (by simp)) (by decide +kernel) (by decide) (by decide) hs ha
  · exact ev_primB (pr_max G.calm G.units) hg (G.blt _ (by simp)) (by decide +kernel) (by decide) (by decide) hs ha
  · exact ev_primB (pr_min G.calm G.units) hg (G.blt _ (by simp)) (by decide +kernel) (by decide) (by decide) hs ha
  · exact ev_primB pr_abs hg (G.blt _ (by simp)) (by decide +kernel) (by decide) (by decide) hs ha
  · exact ev_primB (pr_all G.calm) hg (G.blt _ (by simp)) (by decide +kernel) (by decide) (by decide) hs ha
  · exact ev_primB (pr_any G.calm) hg (G.blt _ (by simp)) (by decide +kernel) (by decide) (by decide) hs ha
  · exact ev_primT pr_int hg (G.blt _ (by simp)) (by decide +kernel) (by decide) (by decide) hs ha
  · exact ev_primB (pr_repr G) hg (G.blt _ (by simp)) (by decide +kernel) (by decide) (by decide) hs ha
  · exact ev_primT (pr_dictOf G.calm G.units) hg (G.blt _ (by simp)) (by decide +kernel) (by decide) (by decide) hs ha
/-! isinstance -/
def tyN : Ty → String
  | .int => "int" | .bool => "bool" | .str => "str" | .list => "list" | .tuple => "tuple" | .dict => "dict"
def tyOfD : D → String
  | .none => "NoneType" | .bool _ => "bool" | .int _ => "int" | .str _ => "str" | .list _ => "list" | .tuple _ => "tuple" | .dict kvs => if nmK kvs then "dict" else "tuple"
theorem ty_of {N : Zn} {H : Hp} {x : V} {d : D} (h : RpB N H x d) : TyX X.K H x (.type (tyOfD d)) := by
  cases d with
  | none => cases h.non_of; exact .base .non
  | bool b => cases h.bl_of; exact .base (.bl b)
  | int i => cases h.int_of; exact .base (.int i)
  | str z => cases h.str_of; exact .base (.str z)
  | list xs => obtain ⟨a, ys, rfl, ha, _⟩ := h.list_of; exact .base (.lst ha)
  | tuple xs => obtain ⟨a, ys, rfl, ha, _⟩ := h.tup_of; exact .base (.tup ha)
  | dict xs =>
    show TyX X.K H x (.type (if nmK xs = true then "dict" else "tuple"))
    by_cases hk : nmK xs = true
    · rw [if_pos hk]
      obtain ⟨a, rfl, ⟨_, _, ha, _⟩ | ⟨_, _, _, ha, _⟩⟩ := h.dict_of hk
      · exact .base (.dK ha)
      · exact .base (.dT ha)
    · rw [if_neg hk]
      obtain ⟨ds, e⟩ := h.mk_of (by simpa using hk)
      rw [e] at h
      obtain ⟨a, o, ys, rfl, ha, _⟩ := h.hrd_of
      exact .fTuple ha
theorem kit_of (d : D) (t : Ty) : PySem.W.kitOne X.K (.type (tyOfD d)) (.type (tyN t)) = some (isiD d [t]) := by
  refine kit_ty (K := X.K) ?_
  cases d with
  | dict kvs =>
    by_cases hk : nmK kvs = true
    · cases t <;> (dsimp only [tyOfD, tyN, isiD, List.any]; rw [if_pos hk]; try rw [hk]) <;> decide +kernel
    · have hk : nmK kvs = false := by simpa using hk
      cases t <;> (dsimp only [tyOfD, tyN, isiD, List.any]; rw [if_neg (by rw [hk]; decide)]; try rw [hk]) <;> decide +kernel
  | _ => cases t <;> (dsimp only [tyOfD, tyN, isiD, List.any]; decide +kernel)
def rIsiD : List V → Hp → VK → Prop := fun xs H Q => ∃ N x d t, xs = [x, .ty (tyN t)] ∧ RpB N H x d ∧ Q (.bl (isiD d [t])) H
theorem cr_isi : CallR X (.builtin "isinstance") rIsiD := by
  intro pins s σ H xs us Q I r h
  obtain ⟨N, x, d, t, rfl, rb, q⟩ := h
  obtain ⟨u, v, rfl, r1, r2⟩ := r.two
  cases r2
  obtain ⟨P, k1, k2, k3⟩ := L2.kit_of I r1 (ty_of rb)
  exact PySem.W.kia_one k1 I.kIn k2 (kit_of d t) k3 fun tk => ⟨.bl _, H, I.tok _, rfl, q⟩
theorem ev_isi (G : Good tb C X) {a : E} {t : Ty} {x : PySem.Expr} {tn : Str} {p p2 pos : Pos} (ht : bootBuiltins tn = some (.type (tyN t))) (hm : X.mg tn = none) (hn : tn ≠ "__name__") (hdb : (tn == ("__debug__" : Str)) = false) (hg : glB X.env.scope "isinstance" = true) (hg2 : glB X.env.scope tn = true) (hs : notStar x = true)
    (ha : PE X x (tBo C a)) : PE X (.Call (.Name "isinstance" p) [x, .Name tn p2] [] pos) (tE C (.isi a [t])) :=
  PE.weak (pe_callB cr_isi (gl_of hg) (G.blt _ (by simp)) (by decide +kernel) (pa_cons ha (pa_cons (pe_bltn (v := .ty (tyN t)) (gl_of hg2) hm ht rfl hn hdb) pa_nil) (star_eq hs)) (by decide) (by decide) (star_eq hs)) fun σ H Q ⟨S, P, ρ, Q0, R, h, q⟩ =>
    ⟨S, P, ρ, _, R, h, fun d hd v H1 e1 i1 r1 => ⟨_, v, d, t, rfl, r1.1, q _ hd _ H1 e1 i1 (.bl _) (fun z => nomatch z)⟩⟩
/-! list(range(..)), tuple(range(..)) -/
def tRgE (C : Calls) (lo : Eo) (hi : E) : L2.St → Hp → (Int → Int → Hp → Prop) → Prop := fun σ H Q => ∃ S P ρ Q0, Rel S P ρ σ H ∧ (evo C lo ρ fun l => ev C hi ρ fun h => lift (rngD (.int (l.getD 0)) h) Q0) ∧ ∀ a b, RgOk a b → Q0 (rangeI a b) → ∀ H', Ext S.dom H H' → S.inv H' → Q a b H'
theorem prg_e1 (G : Good tb C X) {hi : E} {x : PySem.Expr} {p pos : Pos} (hg : glB X.env.scope "range" = true) (hs : notStar x = true) (h : PE X x (tE C hi)) : PRg X (.Call (.Name "range" p) [x] [] pos) (tRgE C .no hi) :=
  fun pins s σ H Q I ⟨S, P, ρ, Q0, R, hh, q⟩ => prg_1 (gl_of hg) (G.blt _ (by simp)) h (star_eq hs) pins s σ H Q I ⟨S, P, ρ, _, R, hh, fun d hd v H1 e1 i1 r1 _ => by
    obtain ⟨ds, eds, q0⟩ := hd
    obtain ⟨a, c, ea, rfl, hr, rfl⟩ := rngD_of eds
    cases ea
    exact ⟨c, (RpB.of r1).int_of, q _ _ hr q0 H1 e1 i1⟩⟩
theorem prg_e2 (G : Good tb C X) {lo hi : E} {x y : PySem.Expr} {p pos : Pos} (hg : glB X.env.scope "range" = true) (hs : notStar x = true) (hs2 : notStar y = true) (hl : PE X x (tE C lo)) (h : PE X y (tE C hi)) : PRg X (.Call (.Name "range" p) [x, y] [] pos) (tRgE C (.yes lo) hi) :=
  fun pins s σ H Q I ⟨S, P, ρ, Q0, R, hh, q⟩ => prg_2 (gl_of hg) (G.blt _ (by simp)) hl h (star_eq hs) (star_eq hs2) (no_star (by simp [hs2])) pins s σ H Q I ⟨S, P, ρ, _, R, hh, fun d hd v H1 e1 i1 r1 _ => by
    obtain ⟨j, rfl, hd⟩ := hd
    refine ⟨S, P, ρ, _, R.ext e1 i1, hd, fun d2 hd2 v2 H2 e2 i2 r2 _ => ?_⟩
    obtain ⟨ds, eds, q0⟩ := hd2
    obtain ⟨a, c, ea, rfl, hr, rfl⟩ := rngD_of eds
    cases ea
    exact ⟨j, c, (RpB.of r1).int_of, (RpB.of r2).int_of, q _ _ hr q0 H2 (e1.trans e2) i2⟩⟩
theorem rgV_rp {N : Zn} {H : Hp} (a b : Int) : RpAll N H (rgV a b) (rangeI a b) := by
  unfold rgV rangeI
  generalize List.range (b - a).toNat = l
  induction l with
  | nil => exact .nil
  | cons i l ih => exact .cons (.int _) ih
theorem ev_rg (G : Good tb C X) {t : Bool} {lo : Eo} {hi : E} {x : PySem.Expr} {p pos : Pos} (hg : glB X.env.scope (if t then "tuple" else "list") = true) (hs : notStar x = true) (h : PRg X x (tRgE C lo hi)) : PE X (.Call (.Name (if t then "tuple" else "list") p) [x] [] pos) (tE C (.rg t lo hi)) := by
  cases t with
  | true =>
    refine PE.weak (pe_tupRg G.calm (gl_of hg) (G.blt _ (by simp)) h (star_eq hs)) fun σ H Q ⟨S, P, ρ, Q0, R, hh, q⟩ => ⟨S, P, ρ, _, R, hh, fun a b hr q0 H1 e1 i1 => ⟨hr, fun z hz => ?_⟩⟩
    exact q _ q0 _ _ (e1.trans (Ext.new hz)) (S.ext i1 (Ext.new hz)) (.tup upd_same (rgV_rp a b)) (fun z => nomatch z)
  | false =>
    refine PE.weak (pe_listRg G.calm (gl_of hg) (G.blt _ (by simp)) h (star_eq hs)) fun σ H Q ⟨S, P, ρ, Q0, R, hh, q⟩ => ⟨S, P, ρ, _, R, hh, fun a b hr q0 H1 e1 i1 => ⟨hr, fun z hz => ?_⟩⟩
    exact q _ q0 _ _ (e1.trans (Ext.new hz)) (S.ext i1 (Ext.new hz)) (.lst ((R.ext e1 i1).fit.ne hz) upd_same (rgV_rp a b)) (fun _ _ => (freshL (R.ext e1 i1).fit (rgV_rp a b) hz).back i1 e1)
/-! tests -/
theorem t_plain {a : E} {x : PySem.Expr} (hp : plainTest x = true) (h : PE X x (tBo C a)) : PT X x (tT C (.e a)) :=
  PT.weak (pt_truth h (by intro w; cases x <;> first | rfl | cases hp)) fun σ H Q ⟨S, P, ρ, Q0, R, hh, q⟩ => ⟨S, P, ρ, _, R, hh, fun d hd v H1 e1 i1 r1 => by
    obtain ⟨k, ek, q0⟩ := hd
    exact ⟨k, truV_of r1.1 ek, q k q0 H1 e1 i1⟩⟩
theorem t_cmp (hu : X.A.units + 64 < cLine) {op : COp} {a b : E} {x y : PySem.Expr} {p : Pos} (ha : PE X x (tBo C a)) (hb : PE X y (tBo C b)) (hs : notSet y = true) : PT X (.Compare x [copF op] [y] p) (tT C (.e (.cmp op a b))) :=
  PT.weak (pt_cmpR (op2_cop hu op) ha hb (by cases y <;> first | rfl | cases hs)) fun σ H Q ⟨S, P, ρ, Q0, R, h, q⟩ => by
    refine w_op2s (C := C) (a := a) (b := b) (sem := copD op) (fr := false) ⟨S, P, ρ, (fun d => lift (truD d) Q0), R, h, fun d hd hb v H1 e1 i1 r1 _ => ?_⟩
    obtain ⟨k, ek, q0⟩ := hd
    obtain ⟨_, _, eb⟩ := hb
    obtain ⟨k', rfl⟩ := copD_bool eb
    cases ek
    exact ⟨_, (RpB.of r1).bl_of, q _ q0 H1 e1 i1⟩
theorem t_chain (hu : X.A.units + 64 < cLine) {o1 o2 : COp} {a b c : E} {x y z : PySem.Expr} {p : Pos} (ha : PE X x (tBo C a)) (hb : PE X y (tBo C b)) (hc : PE X z (tBo C c)) (hs : notSet z = true) :
    PT X (.Compare x [copF o1, copF o2] [y, z] p) (tT C (.e (.chain o1 o2 a b c))) := by
  refine PT.weak (pt_chain (op2_cop hu o1) (op2_cop hu o2) ha hb hc (by
    show behindInMarks (copF o2) z = false
    cases z <;> first | rfl | cases hs)) fun σ H Q ⟨S, P, ρ, Q0, R, h, q⟩ => ?_
  refine ⟨S, P, ρ, _, R, h, fun d hd v H1 e1 i1 r1 => ?_⟩
  have R1 := R.ext e1 i1
  refine ⟨S, P, ρ, _, R1, hd, fun d2 hd2 v2 H2 e2 i2 r2 => ?_⟩
  have R2 := R1.ext e2 i2
  obtain ⟨w, ew, k, ek, hk⟩ := hd2
  refine ⟨_, d, d2, w, R2.fit, (r1.ext R1.fit R1.domN e2).1, r2.1, ew, fun v' H' e' rp _ => ?_⟩
  obtain ⟨k', rfl⟩ := copD_bool ew
  cases ek
  cases (RpB.of rp).bl_of
  refine ⟨_, rfl, ?_⟩
  have R3 := R2.ext0 e'
  cases k with
  | false =>
    simp only [Bool.false_eq_true, if_false] at hk ⊢
    obtain ⟨k2, ek2, q0⟩ := hk
    cases ek2
    exact ⟨_, rfl, q _ q0 H' ((e1.trans e2).trans (e'.any _)) R3.inv⟩
  | true =>
    simp only [if_true] at hk ⊢
    refine ⟨S, P, ρ, _, R3, hk, fun d3 hd3 v3 H3 e3 i3 r3 => ?_⟩
    have R4 := R3.ext e3 i3
    obtain ⟨u, eu, k2, ek2, q0⟩ := hd3
    refine ⟨_, d2, d3, u, R4.fit, ((r2.ext R2.fit R2.domN (e'.any _)).ext R3.fit R3.domN e3).1, r3.1, eu, fun v4 H4 e4 rp4 _ => ?_⟩
    obtain ⟨k3, rfl⟩ := copD_bool eu
    cases ek2
    exact ⟨_, (RpB.of rp4).bl_of, q _ q0 H4 ((((e1.trans e2).trans (e'.any _)).trans e3).trans (e4.any _)) (S.ext i3 e4)⟩
theorem t_and {a b : T} {x y : PySem.Expr} {r : List PySem.Expr} {p : Pos} (ha : PT X x (tT C a)) (hb : PW X (.BoolOp .And (y :: r) p) (tT C b)) : PW X (.BoolOp .And (x :: y :: r) p) (tT C (.and a b)) :=
  ⟨fun whole pins s σ H Q I ⟨S, P, ρ, Q0, R, h, q⟩ => (pw_and ha hb).run whole pins s σ H Q I ⟨S, P, ρ, _, R, h, fun c hc H1 e1 i1 => by
    cases c with
    | true =>
      simp only [if_true] at hc ⊢
      exact ⟨S, P, ρ, _, R.ext e1 i1, hc, fun k hk H2 e2 i2 => q k hk H2 (e1.trans e2) i2⟩
    | false =>
      simp only [Bool.false_eq_true, if_false] at hc ⊢
      exact q _ hc H1 e1 i1⟩⟩
theorem t_or {a b : T} {x y : PySem.Expr} {r : List PySem.Expr} {p : Pos} (ha : PT X x (tT C a)) (hb : PW X (.BoolOp .Or (y :: r) p) (tT C b)) : PW X (.BoolOp .Or (x :: y :: r) p) (tT C (.or a b)) :=
  ⟨fun whole pins s σ H Q I ⟨S, P, ρ, Q0, R, h, q⟩ => (pw_or ha hb).run whole pins s σ H Q I ⟨S, P, ρ, _, R, h, fun c hc H1 e1 i1 => by
    cases c with
    | true =>
      simp only [if_true] at hc ⊢
      exact q _ hc H1 e1 i1
    | false =>
      simp only [Bool.false_eq_true, if_false] at hc ⊢
      exact ⟨S, P, ρ, _, R.ext e1 i1, hc, fun k hk H2 e2 i2 => q k hk H2 (e1.trans e2) i2⟩⟩⟩
theorem t_not {a : T} {x : PySem.Expr} {p : Pos} (ha : PT X x (tT C a)) : PT X (.UnaryOp .Not x p) (tT C (.not a)) :=
  PT.weak (pt_not ha) fun σ H Q ⟨S, P, ρ, Q0, R, h, q⟩ => ⟨S, P, ρ, _, R, h, fun c hc H1 e1 i1 => q _ hc H1 e1 i1⟩
end
end
/-! PDrp: repr of a displayed list of slots, own ones too. -/
section
open PySem L2
variable [Tb]
section
variable {C : Calls} {tb : List (Str × Nat)} {X : Cx}
def tVs : List Nat → TA
  | [] => tNil
  | i :: r => tCons (tVar i) (tVs r)
theorem pa_vs : ∀ {is : List Nat} {xs : List PySem.Expr}, chkVs X.N X.env.scope is xs = true → PA X xs (tVs is)
  | [], [], _ => pa_nil
  | i :: r, .Name x p :: xs, h => by
    unfold chkVs at h
    rw [Bool.and_eq_true] at h
    obtain ⟨h1, h2⟩ := h
    exact pa_cons (var_of rfl h1) (pa_vs h2) rfl
theorem RpB.toNo {N : Zn} {H : Hp} {v : V} {d : D} (h : RpB N H v d) : Rp No H v d := by
  have z : ∀ a, No a → N a := fun _ q => q.elim
  cases h with
  | of r => exact r.less z
  | lst q r => exact .lst id q (r.less z)
  | dK q r => exact .dK id q (r.less z)
  | dT n q r => exact .dT id n q (r.less z)
theorem vs_run {S : Src} {P : Zn} {ρ : Nv} {σ : L2.St} {H : Hp} (R : Rel S P ρ σ H) : ∀ {is : List Nat} {ds : List D} {Q : List V → Hp → Prop}, lookBs ρ is = some ds → (∀ vs, RpAll No H vs ds → Q vs H) → tVs is σ H Q
  | [], ds, Q, h, q => by
    cases h
    exact q [] .nil
  | i :: r, ds, Q, h, q => by
    unfold lookBs at h
    split at h
    · rename_i d ds' h1 h2
      cases h
      have hv : ∃ v, σ[i]? = some (some v) ∧ Rp No H v d := by
        unfold lookB at h1
        split at h1
        · rename_i e he
          cases h1
          obtain ⟨v, h3, h4⟩ := R.sh i _ he
          exact ⟨v, h3, h4.less fun _ z => z.elim⟩
        · rename_i e he
          cases h1
          obtain ⟨a, h3, _, h4, _⟩ := R.own i _ he
          exact ⟨_, h3, h4.toNo⟩
        · cases h1
      obtain ⟨v, h3, h4⟩ := hv
      exact ⟨v, h3, vs_run R h2 fun vs hvs => q _ (.cons h4 hvs)⟩
    · cases h
theorem ev_repl (G : Good tb C X) {is : List Nat} {xs : List PySem.Expr} {p1 p2 p3 : Pos} (hg : glB X.env.scope "repr" = true) (hc : chkVs X.N X.env.scope is xs = true) : PE X (.Call (.Name "repr" p1) [.List xs p2] [] p3) (tE C (.repl is)) := by
  refine PE.weak (pe_callB (pr_repr G) (gl_of hg) (G.blt _ (by simp)) (by decide +kernel) (pa_cons (pe_lst (pa_vs hc)) pa_nil rfl) (by decide) (by decide) rfl rfl) fun σ H Q ⟨S, P, ρ, Q0, R, ⟨ds, h1, h2, r, h3, h4⟩, q⟩ => ?_
  refine vs_run R h1 fun vs hvs => ⟨by rw [hvs.length]; exact h2, fun p hp => ?_⟩
  have nd : ¬ S.dom p := fun z => by
    obtain ⟨o, ho, _⟩ := (S.fit H R.inv).dom p z
    rw [hp] at ho; cases ho
  have e1 : Ext No H (upd H p (.lst vs)) := Ext.new hp
  refine ⟨S, No, [.list ds], r, ⟨fun a z => z.elim⟩, .cons ⟨.lst upd_same (hvs.ext e1 ⟨fun a z => z.elim⟩), fun a e => by cases e; exact nd⟩ .nil, h3, fun v H' e2 rp fr => ?_⟩
  have es : ∃ z, r = .str z := by
    simp only [primD] at h3
    split at h3
    · cases h3; exact ⟨_, rfl⟩
    · split at h3
      · cases h3; exact ⟨_, rfl⟩
      · cases h3
  obtain ⟨z, rfl⟩ := es
  have e3 : Ext S.dom H H' := (e1.any _).trans (e2.any _)
  have i3 : S.inv H' := S.ext (S.ext R.inv e1) e2
  cases rp with
  | str _ => exact q _ h4 _ _ e3 i3 (.str z) fun _ l => by cases l
end
end
set_option maxHeartbeats 2000000
/-! PDmb: methods asked of data (list.index); dicts displayed. -/
section
open PySem L2 PyProof.Rows
variable [Tb]
section
variable {C : Calls} {X : Cx} {tb : List (Str × Nat)}
theorem indexD_of {xs : List D} {d r : D} (h : indexD xs d = some r) : d.canLay0 = true ∧ PyData.canLayAll0 xs = true ∧ min (PyData.depthAll xs) d.depth ≤ 60 ∧ ∃ j, j < xs.length ∧ r = .int (j : Nat) ∧ (∃ z, xs[j]? = some z ∧ PyData.eqv z d = true) ∧ ∀ m z, m < j → xs[m]? = some z → PyData.eqv z d = false := by
  unfold indexD at h
  split at h
  · rename_i hc
    simp only [Bool.and_eq_true, decide_eq_true_eq] at hc
    cases h
    obtain ⟨⟨⟨h1, h2⟩, h3⟩, h4⟩ := hc
    have hj : (xs.findIdx fun y => PyData.eqv y d) < xs.length := List.findIdx_lt_length_of_exists (by simpa using h4)
    refine ⟨h1, h2, h3, _, hj, rfl, ⟨xs[xs.findIdx fun y => PyData.eqv y d], List.getElem?_eq_getElem hj, List.findIdx_getElem (w := hj)⟩, fun m z hm hz => ?_⟩
    obtain ⟨hl, e⟩ := List.getElem?_eq_some_iff.mp hz
    have := List.not_of_lt_findIdx hm
    rw [e] at this
    simpa using this
  · cases h
theorem index_list {pins : List (Addr × Obj)} {s : Shared} {σ : L2.St} {H : Hp} {N : Zn} {a : Addr} {vs : List V} {ds : List D} {y : V} {d r : D} {uy : Value} {Q : VK} (hu : X.A.units + 64 < cLine) (I : Inv X pins σ H s) (ha : H a = some (.lst vs)) (rr : RpAll N H vs ds) (ry : RpB N H y d) (rv : RelV y uy) (h : indexD ds d = some r) (q : ∀ i : Int, r = .int i → Q (.int i) H) :
    wpAny (model X.prog X.w) X.A (call (.builtin "list.index") [.ref a, uy]) (EP X pins σ Q) X.xe s := by
  obtain ⟨c1, c2, c3, j, hj, rfl, ⟨z, hz, hzd⟩, hno⟩ := indexD_of h
  obtain ⟨as, r1, _⟩ := (RpB.lst ha rr : RpB N H (.ref a) (.list ds)).reads I (show RelV (.ref a) (.ref a) from rfl)
  rw [er, erL_lay _ c2] at r1
  obtain ⟨bs, r2, _⟩ := ry.reads I rv
  rw [er_lay _ c1] at r2
  obtain ⟨its, rvs, ⟨⟨cls, dd, data, sls⟩, n, ho, hc, hdn, hdt⟩, hlen⟩ := I.list (SqL.of (K := X.K) ha)
  simp only at hc hdt
  subst hc hdt
  obtain ⟨as', h4⟩ : ∃ as', ReadsAll s.heap its ds as' := by
    cases r1 with
    | list e1 e2 e3 e4 =>
      rw [ho] at e1; cases e1; cases e3
      exact ⟨_, by simpa using e4⟩
  have hn : its.length = ds.length := SeqAt.ReadsAll.length ds its as' h4
  have hmap : its.map (SeqAt.readOf s.heap) = ds := SeqAt.readsAll_map ds its as' c2 h4
  have hvl := rvs.length
  have hsl := sizeLine_eq
  have hjs : j < its.toArray.size := by simp; omega
  have at_ : ∀ (m : Nat) (hm : m < its.toArray.size) (z' : D), ds[m]? = some z' → SeqAt.readOf s.heap its.toArray[m] = z' := by
    intro m hm z' hz'
    have hml : m < its.length := by simpa using hm
    rw [← hmap, List.getElem?_map, List.getElem?_eq_getElem hml] at hz'
    have e1 : SeqAt.readOf s.heap its[m] = z' := Option.some.inj hz'
    simpa using e1
  have e0 : PyData.eqv (SeqAt.readOf s.heap its.toArray[j]) d = true := by rw [at_ j hjs z hz]; exact hzd
  have e1 : ∀ m (hm : m < its.toArray.size), m < j → PyData.eqv (SeqAt.readOf s.heap its.toArray[m]) d = false := fun m hm hmj => by
    have hz' : ds[m]? = some ds[m] := List.getElem?_eq_getElem (by omega)
    rw [at_ m hm _ hz']
    exact hno m _ hmj hz'
  exact call_meets PySem.F.slot_list_index ⟨_, ho, rfl⟩ PySem.F.entry_list_index (PySem.F.args_list_index_2 _ _) (SeqAt.list_indexAt a its.toArray n dd sls uy (fun u => PyData.eqv (SeqAt.readOf s.heap u) d) j hjs (by omega) e0 e1)
    ⟨ho, SeqAt.items_eqAt (vs := its.toArray) (show ReadsAll s.heap its.toArray.toList ds as' from h4) r2 c2 c1 (by omega), ⟨.int (j : Nat), H, I.tok _, ⟨_, rfl⟩, q _ rfl⟩⟩
theorem index_tup {pins : List (Addr × Obj)} {s : Shared} {σ : L2.St} {H : Hp} {N : Zn} {a : Addr} {vs : List V} {ds : List D} {y : V} {d r : D} {uy : Value} {Q : VK} (hu : X.A.units + 64 < cLine) (I : Inv X pins σ H s) {o : Obj} (ha : H a = some (.frz o (.tup vs))) (rr : RpAll N H vs ds) (ry : RpB N H y d) (rv : RelV y uy) (h : indexD ds d = some r) (q : ∀ i : Int, r = .int i → Q (.int i) H) :
    wpAny (model X.prog X.w) X.A (call (.builtin "tuple.index") [.ref a, uy]) (EP X pins σ Q) X.xe s := by
  obtain ⟨c1, c2, c3, j, hj, rfl, ⟨z, hz, hzd⟩, hno⟩ := indexD_of h
  obtain ⟨bs, r2, _⟩ := ry.reads I rv
  rw [er_lay _ c1] at r2
  obtain ⟨its, rvs, ⟨⟨cls, dd, data, sls⟩, ho, hc, n, hdt⟩, hlen⟩ := I.tuple (show SqT X.K H a vs from .inl (.inr ⟨o, ha⟩))
  simp only at hc hdt
  subst hc hdt
  obtain ⟨as', h4, _⟩ := RpAll.reads I rr rvs
  rw [erL_lay _ c2] at h4
  have hn : its.length = ds.length := SeqAt.ReadsAll.length ds its as' h4
  have hmap : its.map (SeqAt.readOf s.heap) = ds := SeqAt.readsAll_map ds its as' c2 h4
  have hvl := rvs.length
  have hsl := sizeLine_eq
  have hjs : j < its.toArray.size := by simp; omega
  have at_ : ∀ (m : Nat) (hm : m < its.toArray.size) (z' : D), ds[m]? = some z' → SeqAt.readOf s.heap its.toArray[m] = z' := by
    intro m hm z' hz'
    have hml : m < its.length := by simpa using hm
    rw [← hmap, List.getElem?_map, List.getElem?_eq_getElem hml] at hz'
    have e1 : SeqAt.readOf s.heap its[m] = z' := Option.some.inj hz'
    simpa using e1
  have e0 : PyData.eqv (SeqAt.readOf s.heap its.toArray[j]) d = true := by rw [at_ j hjs z hz]; exact hzd
  have e1 : ∀ m (hm : m < its.toArray.size), m < j → PyData.eqv (SeqAt.readOf s.heap its.toArray[m]) d = false := fun m hm hmj => by
    have hz' : ds[m]? = some ds[m] := List.getElem?_eq_getElem (by omega)
    rw [at_ m hm _ hz']
    exact hno m _ hmj hz'
  exact call_meets PySem.F.slot_tuple_index ⟨_, ho, rfl⟩ PySem.F.entry_tuple_index (PySem.F.args_tuple_index_2 _ _) (TI.tuple_indexAt a its.toArray n dd sls uy (fun u => PyData.eqv (SeqAt.readOf s.heap u) d) j hjs e0 e1)
    ⟨ho, SeqAt.items_eqAt (vs := its.toArray) (show ReadsAll s.heap its.toArray.toList ds as' from h4) r2 c2 c1 (by omega), ⟨.int (j : Nat), H, I.tok _, ⟨_, rfl⟩, q _ rfl⟩⟩
theorem ev_meth (G : Good tb C X) {p : Prim} {a : E} {as : Es} {o x : PySem.Expr} {m : Str} {ap cp : Pos} (hp : methS p = some m) (hl : (ap.endLine == cp.line) = true) (hs : notStar x = true) (hb : plainO o = true) (ho : PE X o (tBo C a)) (ha : PA X [x] (tEb C as)) : PE X (.Call (.Attribute o m ap) [x] [] cp) (tE C (.meth p a as)) := by
  have hst : starEach [x] X.env = [(false, eval x X.env)] := star_eq hs
  refine ⟨fun pins s σ H Q I ⟨S, P, ρ, Q0, R, h, q⟩ => ?_⟩
  refine wpAny_Call_method_late (by cases o <;> first | rfl | cases hb) (by rw [hst]; rfl) hl rfl (thn (ho.run pins s σ H (fun v H1 => ∃ d, mOk p d = true ∧ S.inv H1 ∧ Ext S.dom H H1 ∧ RpS S (Nn P ρ σ) H1 v d ∧ evb C as ρ fun ds => lift (primD p (d :: ds)) Q0) I ⟨S, P, ρ, _, R, h, fun d hd v H1 e1 i1 r1 => ⟨d, hd.1, i1, e1, r1, hd.2⟩⟩) fun v s1 ⟨xv, H1, I1, rv, d, hm, i1, e1, r1, hd⟩ => ?_)
  have R1 := R.ext e1 i1
  cases p <;> cases d <;> first | (cases hm; done) | skip
  · rename_i ds
    cases hp
    obtain ⟨l, vs, rfl, hl1, rr⟩ := r1.1.list_of
    obtain ⟨t1, t2⟩ := tyV_is (T := "list") I1 rv (.inl ⟨rfl, vs, SqL.of hl1⟩)
    refine ⟨"list", "list.index", PySem.F.plainAttrs_list, PySem.F.slot_list_index, PySem.F.type_list_index, t1, t2, ?_⟩
    have hA := ha.run cp pins s1 σ H1 (fun us H2 => ∃ e r, us.length = 1 ∧ S.inv H2 ∧ Ext S.dom H1 H2 ∧ (∀ y, us = [y] → RpS S (Nn P ρ σ) H2 y e) ∧ indexD ds e = some r ∧ Q0 r) I1 ⟨S, P, ρ, _, R1, hd, fun es hes us H2 e2 i2 r2 => by
      obtain ⟨r, er, q0⟩ := hes
      unfold primD at er
      cases es with
      | nil => cases er
      | cons e es => cases es with
        | nil =>
          cases r2 with
          | cons r21 r22 => cases r22; exact ⟨e, r, rfl, i2, e2, fun y hy => by cases hy; exact r21, er, q0⟩
        | cons _ _ => cases er⟩
    rw [hst] at hA ⊢
    refine Calls.callWith_builtin rfl (Calls.evalArgs_plain (thn hA fun us s2 ⟨ys, H2, I2, r2, e, r, hy1, i2, e2, re, er, q0⟩ => ?_))
    obtain ⟨y, rfl⟩ : ∃ y, ys = [y] := by
      cases ys with
      | nil => cases hy1
      | cons y t => cases t with
        | nil => exact ⟨y, rfl⟩
        | cons _ _ => cases hy1
    obtain ⟨uy, rfl, ry⟩ := Vals.one r2
    cases rv
    have hl2 : H2 l = some (.lst vs) := e2 _ _ hl1 (r1.2 l rfl)
    have rr2 : RpAll (Nn P ρ σ) H2 vs ds := rr.ext (e2.mono R1.domN) R1.fit
    exact index_list G.units I2 hl2 rr2 (re y rfl).1 ry er fun i hi => by
      subst hi
      exact q _ q0 _ H2 (e1.trans e2) i2 (.int i) fun _ z => nomatch z
  · rename_i kvs
    cases hp
    have hm : (unH kvs).isSome = true := hm
    obtain ⟨ds, eds⟩ := Option.isSome_iff_exists.mp hm
    have r1' := r1.1
    rw [unH_of eds] at r1'
    obtain ⟨l, ob, vs, rfl, hl1, hdn, rr⟩ := r1'.hrd_of
    cases rv
    obtain ⟨hob, _, _, _, o2, ho2, hc2, _⟩ := (show ObjOk X.prog X.w H1 s1.heap l (.frz ob (.tup vs)) from I1.hok _ _ hl1)
    have eob : o2 = ob := by rw [hob] at ho2; exact (Option.some.inj ho2).symm
    subst eob
    have t1 : s1.TypeIs (.ref l) "tuple" := ⟨_, hob, hc2⟩
    refine ⟨"tuple", "tuple.index", PySem.F.plainAttrs_tuple, PySem.F.slot_tuple_index, PySem.F.type_tuple_index, t1, fun a e => by cases e; exact ⟨_, hob, hdn⟩, ?_⟩
    have hA := ha.run cp pins s1 σ H1 (fun us H2 => ∃ e r, us.length = 1 ∧ S.inv H2 ∧ Ext S.dom H1 H2 ∧ (∀ y, us = [y] → RpS S (Nn P ρ σ) H2 y e) ∧ indexD ds e = some r ∧ Q0 r) I1 ⟨S, P, ρ, _, R1, hd, fun es hes us H2 e2 i2 r2 => by
      obtain ⟨r, er, q0⟩ := hes
      unfold primD at er
      cases es with
      | nil => cases er
      | cons e es => cases es with
        | nil =>
          simp only [eds, Option.bind_some] at er
          cases r2 with
          | cons r21 r22 => cases r22; exact ⟨e, r, rfl, i2, e2, fun y hy => by cases hy; exact r21, er, q0⟩
        | cons _ _ => cases er⟩
    rw [hst] at hA ⊢
    refine Calls.callWith_builtin rfl (Calls.evalArgs_plain (thn hA fun us s2 ⟨ys, H2, I2, r2, e, r, hy1, i2, e2, re, er, q0⟩ => ?_))
    obtain ⟨y, rfl⟩ : ∃ y, ys = [y] := by
      cases ys with
      | nil => cases hy1
      | cons y t => cases t with
        | nil => exact ⟨y, rfl⟩
        | cons _ _ => cases hy1
    obtain ⟨uy, rfl, ry⟩ := Vals.one r2
    have hl2 : H2 l = some (.frz o2 (.tup vs)) := e2 _ _ hl1 (r1.2 l rfl)
    have rr2 : RpAll (Nn P ρ σ) H2 vs ds := rr.ext (e2.mono R1.domN) R1.fit
    exact index_tup G.units I2 hl2 rr2 (re y rfl).1 ry er fun i hi => by
      subst hi
      exact q _ q0 _ H2 (e1.trans e2) i2 (.int i) fun _ z => nomatch z
/-! sorted(set(t)) -/
theorem insU_mem (x k : Int) : ∀ l : List Int, k ∈ insU x l ↔ k = x ∨ k ∈ l
  | [] => by simp [insU]
  | y :: r => by
    unfold insU
    by_cases h1 : x < y
    · rw [if_pos h1]; simp
    · rw [if_neg h1]
      by_cases h2 : x = y
      · rw [if_pos h2]; subst h2; simp
      · rw [if_neg h2, List.mem_cons, insU_mem x k r, List.mem_cons]
        constructor
        · rintro (h | h | h)
          · exact .inr (.inl h)
          · exact .inl h
          · exact .inr (.inr h)
        · rintro (h | h | h)
          · exact .inr (.inl h)
          · exact .inl h
          · exact .inr (.inr h)
theorem insU_srt (x : Int) : ∀ {l : List Int}, l.Pairwise (· < ·) → (insU x l).Pairwise (· < ·)
  | [], _ => by simp [insU]
  | y :: r, h => by
    have h := List.pairwise_cons.mp h
    unfold insU
    by_cases h1 : x < y
    · rw [if_pos h1]
      refine List.pairwise_cons.mpr ⟨fun z hz => ?_, List.pairwise_cons.mpr h⟩
      rcases List.mem_cons.mp hz with rfl | hz
      · exact h1
      · exact Int.lt_trans h1 (h.1 z hz)
    · rw [if_neg h1]
      by_cases h2 : x = y
      · rw [if_pos h2]; exact List.pairwise_cons.mpr h
      · rw [if_neg h2]
        refine List.pairwise_cons.mpr ⟨fun z hz => ?_, insU_srt x h.2⟩
        rcases (insU_mem x z r).mp hz with rfl | hz
        · omega
        · exact h.1 z hz
theorem sortU_mem (k : Int) : ∀ l : List Int, k ∈ sortU l ↔ k ∈ l
  | [] => by simp [sortU]
  | x :: r => by
    show k ∈ insU x (sortU r) ↔ _
    rw [insU_mem, sortU_mem k r, List.mem_cons]
theorem sortU_srt : ∀ l : List Int, (sortU l).Pairwise (· < ·)
  | [] => .nil
  | x :: r => insU_srt x (sortU_srt r)
theorem rise_ext : ∀ {xs ys : List Int}, xs.Pairwise (· < ·) → ys.Pairwise (· < ·) → (∀ a, a ∈ xs ↔ a ∈ ys) → xs = ys
  | [], [], _, _, _ => rfl
  | [], y :: ys, _, _, h => by have := (h y).mpr (List.mem_cons_self ..); simp at this
  | x :: xs, [], _, _, h => by have := (h x).mp (List.mem_cons_self ..); simp at this
  | x :: xs, y :: ys, hx, hy, h => by
    have hx := List.pairwise_cons.mp hx
    have hy := List.pairwise_cons.mp hy
    have e : x = y := by
      have h1 := (h x).mp (List.mem_cons_self ..)
      have h2 := (h y).mpr (List.mem_cons_self ..)
      rcases List.mem_cons.mp h1 with h1 | h1
      · exact h1
      · rcases List.mem_cons.mp h2 with h2 | h2
        · exact h2.symm
        · have a1 := hy.1 x h1
          have a2 := hx.1 y h2
          omega
    subst e
    rw [rise_ext hx.2 hy.2 fun a => ?_]
    constructor
    · intro ha
      rcases List.mem_cons.mp ((h a).mp (List.mem_cons_of_mem _ ha)) with e | e
      · have := hx.1 a ha; omega
      · exact e
    · intro ha
      rcases List.mem_cons.mp ((h a).mpr (List.mem_cons_of_mem _ ha)) with e | e
      · have := hy.1 a ha; omega
      · exact e
def rSetT (K : PySem.W.Frag) (w : World) : List V → Hp → VK → Prop := fun xs H Q => ∃ (l : Addr) (ns : List Int), xs = [V.ref l] ∧ SqT K H l (ns.map V.int) ∧ ns.length < 64 ∧ ∀ p c, H p = none → c ≤ ns.length → Q (.ref p) (upd H p (SetO w p (fun j => decide (j ∈ ns)) c))
theorem cr_setT (hc : X.calm = true) : CallR X (.type "set") (rSetT X.K X.w) := by
  intro pins s σ H xs us Q I r h
  obtain ⟨l, ns, rfl, hq, hl, q⟩ := h
  obtain ⟨u, rfl, ru⟩ := Vals.one r
  cases ru
  obtain ⟨its, rv, pt, hz⟩ := I.tuple hq
  refine call_set_tupI ns (I.ok.hd hc) (show s.heap.IsTuple l its.toArray from pt) (ints_of_vals rv) (by unfold scanBound; omega) fun h' tk c R hcn k => ?_
  exact ⟨.ref _, upd H s.heap.objs.size (SetO X.w s.heap.objs.size (fun j => decide (j ∈ ns)) c), I.laid (t' := tk) k (Nat.le_refl _) (setO_new R), rfl, q _ c (I.hok.fresh (Nat.le_refl _)) hcn⟩
def rSetLs (K : PySem.W.Frag) (w : World) : List V → Hp → VK → Prop := fun xs H Q => ∃ (l : Addr) (ns : List Int), xs = [V.ref l] ∧ SqL K H l (ns.map V.int) ∧ ns.length < 64 ∧ ∀ p c, H p = none → c ≤ ns.length → Q (.ref p) (upd H p (SetO w p (fun j => decide (j ∈ ns)) c))
theorem cr_setLs (hc : X.calm = true) : CallR X (.type "set") (rSetLs X.K X.w) := by
  intro pins s σ H xs us Q I r h
  obtain ⟨l, ns, rfl, hq, hl, q⟩ := h
  obtain ⟨u, rfl, ru⟩ := Vals.one r
  cases ru
  obtain ⟨its, rv, pt, hz⟩ := I.list hq
  refine call_set_lst ns (I.ok.hd hc) pt.isList (ints_of_vals rv) (by unfold scanBound; omega) fun h' tk c R hcn k => ?_
  exact ⟨.ref _, upd H s.heap.objs.size (SetO X.w s.heap.objs.size (fun j => decide (j ∈ ns)) c), I.laid (t' := tk) k (Nat.le_refl _) (setO_new R), rfl, q _ c (I.hok.fresh (Nat.le_refl _)) hcn⟩
theorem cr_or {f : Value} {r1 r2 : List V → Hp → VK → Prop} (h1 : CallR X f r1) (h2 : CallR X f r2) : CallR X f (fun xs H Q => r1 xs H Q ∨ r2 xs H Q) := by
  intro pins s σ H xs us Q I r h
  exact h.elim (h1 pins s σ H xs us Q I r) (h2 pins s σ H xs us Q I r)
theorem ints_all : ∀ {ds : List D} {ns : List Int}, intsD ds = some ns → ds = ns.map .int
  | [], ns, h => by cases h; rfl
  | d :: ds, ns, h => by
    unfold intsD at h
    split at h
    · rename_i e; cases e
    · rename_i i r e
      cases e
      obtain ⟨ms, h1, rfl⟩ := Option.map_eq_some_iff.mp h
      rw [ints_all h1]; rfl
    · cases h
theorem ssetD_of {d r : D} (h : ssetD d = some r) : ∃ ns : List Int, (d = .tuple (ns.map .int) ∨ d = .list (ns.map .int)) ∧ ns.length < 64 ∧ r = .list ((sortU ns).map .int) := by
  unfold ssetD at h
  split at h
  · split at h
    · rename_i ns hns
      split at h
      · cases h
        exact ⟨ns, .inr (by rw [ints_all hns]), by assumption, rfl⟩
      · cases h
    · cases h
  · split at h
    · rename_i ns hns
      split at h
      · cases h
        exact ⟨ns, .inl (by rw [ints_all hns]), by assumption, rfl⟩
      · cases h
    · cases h
  · cases h
theorem ev_sset (G : Good tb C X) {a : E} {x : PySem.Expr} {p1 p2 q1 q2 : Pos} (hg : glB X.env.scope "sorted" = true) (hg2 : glB X.env.scope "set" = true) (hs : notStar x = true) (ha : PE X x (tBo C a)) : PE X (.Call (.Name "sorted" p1) [.Call (.Name "set" p2) [x] [] q2] [] q1) (tE C (.sset a)) := by
  have hst : starEach [x] X.env = [(false, eval x X.env)] := star_eq hs
  refine PE.weak (pe_callB (cr_sortedSet G.calm) (gl_of hg) (G.blt _ (by simp)) (by decide +kernel) (pa_cons (pe_callTy (cr_or (cr_setT G.calm) (cr_setLs G.calm)) (gl_of hg2) (G.blt _ (by simp)) (by decide +kernel) (pa_cons ha pa_nil hst) (by decide) (by decide) hst rfl) pa_nil rfl) (by decide) (by decide) rfl rfl) fun σ H Q ⟨S, P, ρ, Q0, R, h, q⟩ => ?_
  refine ⟨S, P, ρ, _, R, h, fun d hd v H1 e1 i1 r1 => ?_⟩
  have R1 := R.ext e1 i1
  obtain ⟨r, er, q0⟩ := hd
  obtain ⟨ns, ed, hlen, rfl⟩ := ssetD_of er
  have fin : ∀ (p : Addr) (c : Nat), H1 p = none → c ≤ ns.length → rSortedSet X.w [.ref p] (upd H1 p (SetO X.w p (fun j => decide (j ∈ ns)) c)) Q := fun p c hp hc => by
    refine ⟨p, _, c, rfl, upd_same, by omega, fun ms p2 hm1 hm2 hm3 hp2 => ?_⟩
    have em : ms = sortU ns := rise_ext hm1 (sortU_srt ns) fun k => by rw [hm2, sortU_mem, decide_eq_true_iff]
    subst em
    have hne : p2 ≠ p := fun z => by rw [z, upd_same] at hp2; cases hp2
    have hp2' : H1 p2 = none := by rw [upd_ne hne] at hp2; exact hp2
    have ex : Ext No H1 (upd (upd H1 p (SetO X.w p (fun j => decide (j ∈ ns)) c)) p2 (.lst ((sortU ns).map V.int))) := (Ext.new hp).trans (Ext.new hp2)
    have nn : ¬ Nn P ρ σ p2 := R1.fit.ne hp2'
    have hpn : H p2 = none := fresh_trans i1 e1 hp2'
    exact q _ q0 _ _ (e1.trans (ex.any _)) (S.ext i1 ex) (.lst nn upd_same (RpAll.ofInts _)) fun _ _ => ⟨p2, rfl, hpn, .lst upd_same (RpAll.ofInts _)⟩
  rcases ed with rfl | rfl
  · obtain ⟨l, vs, rfl, hl, rr⟩ := r1.1.tup_of
    have ev := rr.ints
    subst ev
    exact .inl ⟨l, ns, rfl, SqT.of hl, hlen, fin⟩
  · obtain ⟨l, vs, rfl, hl, rr⟩ := r1.1.list_of
    have ev := rr.ints
    subst ev
    exact .inr ⟨l, ns, rfl, SqL.of hl, hlen, fin⟩
end
end
set_option maxHeartbeats 2000000
/-! PDmc: dicts displayed. -/
section
open PySem L2 PyProof.Rows
variable [Tb]
section
variable {S : Src} {P : Zn} {ρ : Nv} {σ : L2.St} {H : Hp}
theorem Rel.prot2 {H1 : Hp} (R : Rel S P ρ σ H) (e : Ext S.dom H H1) (i : S.inv H1) {p : Addr} {o : HO} (hp : H p = none) (ho : H1 p = some o) (m : Mut (some o)) : Rel S (fun a => P a ∨ a = p) ρ σ H1 := by
  have hN : ∀ a, Nn (fun a => P a ∨ a = p) ρ σ a → Nn P ρ σ a ∨ H a = none := fun a h => by
    rcases h with (h | h) | h
    · exact .inl (.inl h)
    · exact .inr (h ▸ hp)
    · exact .inl (.inr h)
  have eN := e.mono R.domN
  refine ⟨R.len, fun a h => .inl (R.sub a h), ⟨fun a h => ?_⟩, i, fun j d h => ?_, fun j d h => ?_, R.dis, R.src⟩
  · rcases h with h | rfl
    · exact (R.ext e i).fitP.dom a h
    · exact ⟨o, ho, .of m⟩
  · obtain ⟨v, q, r⟩ := R.sh j d h
    exact ⟨v, q, r.move eN R.fit hN⟩
  · obtain ⟨a, q, l, r, n⟩ := R.own j d h
    refine ⟨a, q, l, r.move eN R.fit hN (fun b o' eb hb => by cases eb; exact e _ o' hb fun z => n (R.sub _ z)), fun z => ?_⟩
    rcases z with z | z
    · exact n z
    · obtain ⟨o', ho', _⟩ := r.list_at l
      rw [z, hp] at ho'; cases ho'
end
def trsOf (C : Calls) : Ps → List (TE × TE)
  | .nil => []
  | .cons k v r => (tE C k, tE C v) :: trsOf C r
theorem bndB {a b : Bool} (h : (a && b) = true) : a = true ∧ b = true := by rwa [Bool.and_eq_true] at h
section
variable {C : Calls} {tb : List (Str × Nat)} {X : Cx} {S : Src} {P : Zn} {ρ : Nv} {σ : L2.St}
theorem w_ps : ∀ {ps : Ps} {H : Hp} {Q0 : List (D × D) → Prop} {Q : List (V × V) → Hp → Prop}, Rel S P ρ σ H → evp C ps ρ Q0 → (∀ qs, Q0 qs → ∀ vs H', Ext S.dom H H' → S.inv H' → RpAll (Nn P ρ σ) H' (vs.map (·.1)) (qs.map (·.1)) → RpAll (Nn P ρ σ) H' (vs.map (·.2)) (qs.map (·.2)) → Q vs H') → tPairs (trsOf C ps) σ H Q
  | .nil, H, Q0, Q, R, h, q => q [] h [] H Ext.refl R.inv .nil .nil
  | .cons k v r, H, Q0, Q, R, h, q => by
    refine ⟨S, P, ρ, _, R, h, fun x hx vx H1 e1 i1 r1 _ => ?_⟩
    have R1 := R.ext e1 i1
    refine ⟨S, P, ρ, _, R1, hx, fun y hy vy H2 e2 i2 r2 _ => ?_⟩
    have R2 := R1.ext e2 i2
    refine w_ps (ps := r) R2 hy fun qs hqs vs H3 e3 i3 rk rv => ?_
    refine q _ hqs _ H3 ((e1.trans e2).trans e3) i3 (.cons ((r1.ext (e2.mono R1.domN) R1.fit).ext (e3.mono R2.domN) R2.fit) rk) (.cons (r2.ext (e3.mono R2.domN) R2.fit) rv)
theorem disp_keysT {N : Zn} {H : Hp} : ∀ {vs : List (V × V)} {qs : List (D × D)}, RpAll N H (vs.map (·.1)) (qs.map (·.1)) → qs.all (fun p => isTk p.1) = true → ∃ ks : List (List Key × Addr), vs.map (·.1) = ks.map (fun k => V.ref k.2) ∧ qs.map (·.1) = ks.map (fun k => tkeyD k.1) ∧ ∀ k ∈ ks, H k.2 = some (.tup (k.1.map kV))
  | [], [], _, _ => ⟨[], rfl, rfl, by simp⟩
  | v :: vs, q :: qs, .cons r rs, h => by
    rw [List.all_cons, Bool.and_eq_true] at h
    obtain ⟨ks, e1, e2, e3⟩ := disp_keysT rs h.2
    have h1 := h.1
    unfold isTk at h1
    split at h1
    · rename_i ds hd
      obtain ⟨ks1, rfl⟩ := key1s_of h1
      have r : Rp N H v.1 q.1 := r
      rw [hd] at r
      obtain ⟨b, hb, ht⟩ := Rp.tkey (.of r)
      refine ⟨(ks1, b) :: ks, by simp [hb, e1], by simp [hd, e2, tkeyD], fun k hk => ?_⟩
      rcases List.mem_cons.mp hk with rfl | hk
      · exact ht
      · exact e3 k hk
    · cases h1
/-- {t: v, ..}, the keys tuples -/
def tDispT (trs : List (TE × TE)) : TE := fun σ H Q => ∀ p, H p = none → tPairs trs σ (upd H p (.dT [])) fun ps H2 => H2 p = some (.dT []) ∧ ∃ qs : List ((List Key × Addr) × V), ps = qs.map (fun q => (V.ref q.1.2, q.2)) ∧ (∀ q ∈ qs, H2 q.1.2 = some (.tup (q.1.1.map kV))) ∧ qs.length ≤ 15 ∧ Q (.ref p) (upd H2 p (.dT (putAll [] (qs.map fun q => (q.1.1, q.2)))))
theorem carriesT {H : Hp} {s : Shared} {w : World} {Pr : Program} (ok : HOk Pr w H s.heap) : ∀ {qs : List ((List Key × Addr) × V)} {ws : List (Value × Value)}, VV (qs.map fun q => (V.ref q.1.2, q.2)) ws → (∀ q ∈ qs, H q.1.2 = some (.tup (q.1.1.map kV))) → ∃ ps, CarriesH (tupleKind (mixKind Pr w)) s.heap ws ps ∧ KT H (qs.map fun q => (q.1.1, q.2)) ps
  | [], _, r, _ => by rw [List.map_nil] at r; cases r; exact ⟨[], trivial, .nil⟩
  | q :: qs, _, r, h => by
    rw [List.map_cons] at r
    cases r with
    | @cons a b as bs h1 t =>
      obtain ⟨b1, b2⟩ := b
      obtain ⟨ps, c, k⟩ := carriesT ok t fun x hx => h x (List.mem_cons_of_mem _ hx)
      have hq := h q (List.mem_cons_self ..)
      have e1 : b1 = Value.ref q.1.2 := h1.1
      exact ⟨(q.1.1, q.1.2, b2) :: ps, ⟨e1, rfl, key_of ok hq, c⟩, .cons ⟨rfl, hq, h1.2⟩ k⟩
theorem pe_dispT (hu : X.A.units + 64 < cLine) {pos : Pos} {keys : List (Option PySem.Expr)} {values : List PySem.Expr} {trs : List (TE × TE)} (h : PPs X pos keys values trs) (hall : keys.all (·.isSome) = true) (hl : keys.length = values.length) (h0 : keys ≠ []) (h15 : keys.length ≤ 15) : PE X (.Dict keys values pos) (tDispT trs) := by
  refine ⟨fun pins s σ H Q I q => ?_⟩
  have hn := I.hok.fresh (Nat.le_refl s.heap.objs.size)
  have I1 := I.laid (a := s.heap.objs.size) (o := .dT []) (h' := s.heap.push { cls := .type "dict", data := .dict #[] }) (t' := s.toks) (fun _ _ q => Heap.get?_push_of_some _ q) (Nat.le_refl _) (dt_empty s.heap I.big)
  have hpl := pairTrees_length keys values X.env pos hall hl
  rw [arm_eval_Dict, zip_pairTrees keys values X.env pos hall hl, dictDisplay_pairs _ (by intro z; rw [z] at hpl; exact h0 (List.length_eq_zero_iff.mp hpl.symm)) (by omega)]
  refine wpAny_bind (wpAny_standAt (wpAny_bind (wpAny_subDictH (knd := tupleKind (mixKind X.prog X.w)) (by show X.A.units < cLine; omega) (by omega) (thn (h.run pins _ σ _ _ I1 (q _ hn)) fun ws s2 ⟨ps, H2, I2, rel, e, qs, ep, hk, lk, q2⟩ => ?_))))
  subst ep
  obtain ⟨prs, c, kt⟩ := carriesT I2.hok rel hk
  obtain ⟨z, hd, xs0, r0, dd⟩ := dt_of I2.hok e
  cases r0
  refine ⟨prs, c, dd, fun h' tk dd' hs => wpAny_pure ⟨.ref s.heap.objs.size, _, ?_, rfl, q2⟩⟩
  have hne : ∀ b o, H2 b = some o → (∃ ys, o = .tup ys) → b ≠ s.heap.objs.size := fun b o hb ⟨ys, ho⟩ z => by rw [z, e] at hb; cases hb; cases ho
  have kt2 : KT H2 (putAll [] (qs.map fun q => (q.1.1, q.2))) (storedAllH [] prs) := KT.all .nil kt
  have hz : (putAll [] (qs.map fun q => (q.1.1, q.2))).length ≤ sizeLine := by
    have h1 := putAll_len (qs.map fun q => (q.1.1, q.2)) ([] : List (List Key × V))
    rw [List.length_nil, List.length_map] at h1
    rw [sizeLine_eq]; omega
  obtain ⟨qo, ents, ep, g1, g2, g3, g4, _, g6⟩ := dd'
  refine d_write I2 (by rw [e]; exact True.intro) hs ⟨_, g1⟩ ⟨hz, hd, storedAllH [] prs, kt2.keeps fun b ys eb => ?_, qo, ents, ep, g1, g2, g3, g4, g6⟩
  rw [upd_ne (hne b _ eb ⟨_, rfl⟩)]; exact eb
/-- the new dict behind the pairs -/
theorem disp_end {H H2 : Hp} {p : Addr} {o1 o2 : HO} (R : Rel S P ρ σ H) (hp : H p = none) (e : Ext S.dom (upd H p o1) H2) (i2 : S.inv H2) (m : Mut (some o2)) (hm : ∃ o, H2 p = some o ∧ Mut (some o) ∧ ∀ f, o ≠ .ext f) :
    ¬ S.dom p ∧ ¬ Nn P ρ σ p ∧ Ext S.dom H (upd H2 p o2) ∧ S.inv (upd H2 p o2) ∧ ∀ vs ds, RpAll (Nn (fun a => P a ∨ a = p) ρ σ) H2 vs ds → RpAll (Nn P ρ σ) (upd H2 p o2) vs ds ∧ RpAll (fun a => Nn P ρ σ a ∨ a = p) (upd H2 p o2) vs ds := by
  have nd : ¬ S.dom p := fun z => by
    obtain ⟨o, ho, _⟩ := (S.fit H R.inv).dom p z
    rw [hp] at ho; cases ho
  have nn : ¬ Nn P ρ σ p := fun z => by
    obtain ⟨o, ho, _⟩ := R.fit.dom p z
    rw [hp] at ho; cases ho
  refine ⟨nd, nn, fun a o ha n => ?_, S.upd i2 nd (by
    obtain ⟨o, h1, _, h3⟩ := hm
    rw [h1]; exact fun f z => h3 f (Option.some.inj z)), fun vs ds r => ?_⟩
  · have hne : a ≠ p := ne_of_none ha hp
    rw [upd_ne hne]
    exact e a o (by rw [upd_ne hne]; exact ha) n
  · have f2 : Fit (Nn (fun a => P a ∨ a = p) ρ σ) H2 := by
      have R2 := R.prot2 (H1 := H2) (p := p) (fun a o ha n => e a o (by rw [upd_ne (ne_of_none ha hp)]; exact ha) n) i2 hp hm.choose_spec.1 hm.choose_spec.2.1
      exact R2.fit
    have ex : Ext (Nn (fun a => P a ∨ a = p) ρ σ) H2 (upd H2 p o2) := fun a o ha n => by
      have hne : a ≠ p := fun z => n (.inl (.inr z))
      rw [upd_ne hne]; exact ha
    have r2 := r.ext ex f2
    refine ⟨r2.less fun a z => ?_, r2.less fun a z => ?_⟩
    · rcases z with z | z
      · exact .inl (.inl z)
      · exact .inr z
    · rcases z with (z | z) | z
      · exact .inl (.inl z)
      · exact .inr z
      · exact .inl (.inr z)
theorem ev_disp (hu : X.A.units + 64 < cLine) {tk : Bool} {ps : Ps} {pos : Pos} {keys : List (Option PySem.Expr)} {values : List PySem.Expr} (h : PPs X pos keys values (trsOf C ps)) (hall : keys.all (·.isSome) = true) (hl : keys.length = values.length) (h0 : keys ≠ []) (h15 : keys.length ≤ 15) : PE X (.Dict keys values pos) (tE C (.disp tk ps)) := by
  cases tk with
  | false =>
    refine PE.weak (pe_disp h hall hl h0 h15) fun σ H Q ⟨S, P, ρ, Q0, R, hh, q⟩ p hp => ?_
    have np : ¬ P p := fun z => by
      obtain ⟨o, ho, _⟩ := R.fitP.dom p z
      rw [hp] at ho; cases ho
    have R1 := R.prot2 (H1 := upd H p (.dK [])) (p := p) (Ext.any S.dom (Ext.new hp)) (S.ext R.inv (Ext.new hp)) hp upd_same trivial
    refine w_ps R1 hh fun qs hqs vs H2 e2 i2 rk rv => ?_
    have nd : ¬ S.dom p := fun z => np (R.sub p z)
    have h2p : H2 p = some (.dK []) := e2 p _ upd_same nd
    obtain ⟨d, ed, q0⟩ := hqs
    rw [show dispD false qs = if (decide (qs.length ≤ 15) && qs.all (fun p => isKey1 p.1) && !qs.isEmpty) = true then some (.dict (dputs [] qs)) else none from rfl] at ed
    by_cases hc : (decide (qs.length ≤ 15) && qs.all (fun p => isKey1 p.1) && !qs.isEmpty) = true
    · rw [if_pos hc] at ed
      cases ed
      simp only [Bool.and_eq_true, decide_eq_true_eq] at hc
      have hc := hc.1
      obtain ⟨ks, ek⟩ := key1s_of (ds := qs.map (·.1)) (by rw [List.all_map]; exact hc.2)
      rw [ek] at rk
      have ek2 := Rp.keys rk
      obtain ⟨a1, a2, a3, a4, a5⟩ := disp_end (o2 := .dK (mergeK [] (ks.zip (vs.map (·.2))))) R hp e2 i2 trivial ⟨_, h2p, trivial, fun f z => nomatch z⟩
      have hlv : vs.length = qs.length := by have := rv.length; simpa using this
      have hlk : ks.length = vs.length := by have := congrArg List.length ek2; simpa using this.symm
      have zl : (ks.zip (vs.map (·.2))).map (·.2) = vs.map (·.2) := List.map_snd_zip (by simp [hlk])
      have zk : (ks.zip (vs.map (·.2))).map (·.1) = ks := List.map_fst_zip (by simp [hlk])
      refine ⟨h2p, ks.zip (vs.map (·.2)), ?_, by simp; omega, ?_⟩
      · have g : ∀ (ks : List Key) (vs : List (V × V)), vs.map (·.1) = ks.map kV → vs = (ks.zip (vs.map (·.2))).map fun kv => (kV kv.1, kv.2) := by
          intro ks
          induction ks with
          | nil => intro vs h; cases vs with
            | nil => rfl
            | cons _ _ => simp at h
          | cons k ks ih => intro vs h; cases vs with
            | nil => simp at h
            | cons v vs =>
              simp only [List.map_cons, List.cons.injEq] at h
              simp only [List.map_cons, List.zip_cons_cons]
              rw [← ih vs h.2, ← h.1]
        exact g ks vs ek2
      · obtain ⟨b1, b2⟩ := a5 _ _ rv
        have e3 : qs.map (·.1) = (ks.zip (vs.map (·.2))).map (fun q => keyD q.1) := by rw [ek]; rw [show (fun q : Key × V => keyD q.1) = keyD ∘ (·.1) from rfl, ← List.map_map, zk]
        obtain ⟨es, re, he⟩ := puts_rp keyD keyD_eqv (kvs := []) (ds := []) .nil e3 (by rw [zl]; exact b1)
        obtain ⟨es', re', he'⟩ := puts_rp keyD keyD_eqv (kvs := []) (ds := []) .nil e3 (by rw [zl]; exact b2)
        have hd : dputs [] qs = _ := he
        have hd' : dputs [] qs = _ := he'
        have m := q _ q0 (.ref p) _ a3 a4 (by rw [hd]; exact .dK a2 upd_same re) fun _ _ => ⟨p, rfl, hp, by rw [hd']; exact .dK upd_same re'⟩
        exact m
    · rw [if_neg hc] at ed; cases ed
  | true =>
    refine PE.weak (pe_dispT hu h hall hl h0 h15) fun σ H Q ⟨S, P, ρ, Q0, R, hh, q⟩ p hp => ?_
    have np : ¬ P p := fun z => by
      obtain ⟨o, ho, _⟩ := R.fitP.dom p z
      rw [hp] at ho; cases ho
    have R1 := R.prot2 (H1 := upd H p (.dT [])) (p := p) (Ext.any S.dom (Ext.new hp)) (S.ext R.inv (Ext.new hp)) hp upd_same trivial
    refine w_ps R1 hh fun qs hqs vs H2 e2 i2 rk rv => ?_
    have nd : ¬ S.dom p := fun z => np (R.sub p z)
    have h2p : H2 p = some (.dT []) := e2 p _ upd_same nd
    obtain ⟨d, ed, q0⟩ := hqs
    rw [show dispD true qs = if (decide (qs.length ≤ 15) && qs.all (fun p => isTk p.1) && !qs.isEmpty) = true then some (.dict (dputs [] qs)) else none from rfl] at ed
    by_cases hc : (decide (qs.length ≤ 15) && qs.all (fun p => isTk p.1) && !qs.isEmpty) = true
    · rw [if_pos hc] at ed
      cases ed
      simp only [Bool.and_eq_true, decide_eq_true_eq] at hc
      have hq0 := hc.2
      have hc := hc.1
      obtain ⟨ks, k1, k2, k3⟩ := disp_keysT rk hc.2
      have hlv : vs.length = qs.length := by have := rv.length; simpa using this
      have hlk : ks.length = vs.length := by have := congrArg List.length k1; simpa using this.symm
      let zs : List ((List Key × Addr) × V) := ks.zip (vs.map (·.2))
      have zl : (zs.map fun z => (z.1.1, z.2)).map (·.2) = vs.map (·.2) := by
        rw [List.map_map]; exact List.map_snd_zip (by simp [hlk])
      have zk : zs.map (·.1) = ks := List.map_fst_zip (by simp [hlk])
      obtain ⟨a1, a2, a3, a4, a5⟩ := disp_end (o2 := .dT (putAll [] (zs.map fun z => (z.1.1, z.2)))) R hp e2 i2 trivial ⟨_, h2p, trivial, fun f z => nomatch z⟩
      refine ⟨h2p, zs, ?_, fun z hz => k3 _ (List.of_mem_zip hz).1, by simp [zs]; omega, ?_⟩
      · have g : ∀ (ks : List (List Key × Addr)) (vs : List (V × V)), vs.map (·.1) = ks.map (fun k => V.ref k.2) → vs = (ks.zip (vs.map (·.2))).map fun kv => (V.ref kv.1.2, kv.2) := by
          intro ks
          induction ks with
          | nil => intro vs h; cases vs with
            | nil => rfl
            | cons _ _ => simp at h
          | cons k ks ih => intro vs h; cases vs with
            | nil => simp at h
            | cons v vs =>
              simp only [List.map_cons, List.cons.injEq] at h
              simp only [List.map_cons, List.zip_cons_cons]
              rw [← ih vs h.2, ← h.1]
        exact g ks vs k1
      · obtain ⟨b1, b2⟩ := a5 _ _ rv
        have e3 : qs.map (·.1) = (zs.map fun z => (z.1.1, z.2)).map (fun q => tkeyD q.1) := by
          rw [k2, List.map_map, ← zk, List.map_map]; rfl
        obtain ⟨es, re, he⟩ := puts_rp tkeyD tkeyD_eqv (kvs := []) (ds := []) .nil e3 (by rw [zl]; exact b1)
        obtain ⟨es', re', he'⟩ := puts_rp tkeyD tkeyD_eqv (kvs := []) (ds := []) .nil e3 (by rw [zl]; exact b2)
        have hd : dputs [] qs = _ := he
        have hd' : dputs [] qs = _ := he'
        cases hz : zs with
        | nil =>
          have hq : qs = [] := by
            have h3 : zs.map (·.1) = [] := by rw [hz]; rfl
            rw [zk] at h3
            rw [h3] at hlk
            exact List.eq_nil_of_length_eq_zero (by rw [← hlv, ← hlk]; rfl)
          subst hq; cases hq0
        | cons z0 zr =>
          have hne : putAll [] (zs.map fun z => (z.1.1, z.2)) ≠ [] := by
            rw [hz]
            have : ∀ (l acc : List (List Key × V)), acc ≠ [] → putAll acc l ≠ [] := by
              intro l
              induction l with
              | nil => intro acc h; exact h
              | cons a l ih => intro acc _; exact ih _ putK_ne
            show putAll (putK [] z0.1.1 z0.2) (zr.map fun z => (z.1.1, z.2)) ≠ []
            exact this _ _ putK_ne
          rw [← hz]
          exact q _ q0 (.ref p) _ a3 a4 (by rw [hd]; exact .dT a2 hne upd_same re) fun _ _ => ⟨p, rfl, hp, by rw [hd']; exact .dT hne upd_same re'⟩
    · rw [if_neg hc] at ed; cases ed
end
end
set_option maxHeartbeats 4000000
/-! PDdc: dict comprehensions, keys of any sort. -/
section
open PySem L2 PySem.Spec PyProof.Rows
variable [Tb]
section
variable {X : Cx} {pins : List (Addr × Obj)} {σ : L2.St} {H : Hp} {s : Shared}
theorem dset_put {H' : Hp} {E : Value → Shared → Prop} {Q : Unit → Shared → Prop} {D : Addr} {y v : V} {u r : Value} (hu : X.A.units < cLine) (I : Inv X pins σ H s) (g : DPut H D y v H') (ry : RelV y u) (rv : RelV v r) (q : ∀ t, Inv X pins σ H' t → Q () t) :
    wpAny (model X.prog X.w) X.A (dictSet D u r) Q E s := by
  rcases g with ⟨ks, k, e, rfl, hz, rfl⟩ | ⟨ks, k, b, e, rfl, eb, hz, rfl⟩
  · exact d_dictSet I e hz ry rv q
  · cases (show u = Value.ref b from ry)
    obtain ⟨hl, hd, rows, rel, dd⟩ := dt_of I.hok e
    have hrows : rows.length ≤ sizeLine := Paired.length rel ▸ hl
    have grow := length_putK ks k v
    refine wpAny_dictSet_heap (hsz := hrows) (show X.A.units < cLine from hu) (key_of I.hok eb) dd fun g dg hs => q _ ?_
    obtain ⟨ob, es, ep, hob, p1, p2, p3, _, p4⟩ := dg
    refine d_write I (e ▸ True.intro) hs ⟨ob, hob⟩ ⟨Nat.le_trans grow hz, hd, _, (rel.put k eb rv).keeps (fun c zs ec => ?_), ob, es, ep, hob, p1, p2, p3, p4⟩
    have hne : c ≠ D := ne_of ec e (by intro w; cases w)
    exact (upd_ne hne).trans ec
/-- a dict takes a key -/
def tStD : TSet := fun o y v H Q => ∃ N a kvs k x l', o = .ref a ∧ N a ∧ Fit N H ∧ RpB N H (.ref a) (.dict kvs) ∧ RpB N H y k ∧ Rp N H v x ∧ setK kvs k x = some l' ∧ ∀ ob, Mut (some ob) → RpB N (upd H a ob) (.ref a) (.dict l') → Q (upd H a ob)
theorem dset_any {E : Value → Shared → Prop} {Q : Hp → Prop} {R : Unit → Shared → Prop} {D : Addr} {y v : V} {u r : Value} (hu : X.A.units + 64 < cLine) (I : Inv X pins σ H s) (h : tStD (.ref D) y v H Q) (ry : RelV y u) (rv : RelV v r) (q : ∀ t H', Inv X pins σ H' t → Q H' → R () t) :
    wpAny (model X.prog X.w) X.A (dictSet D u r) R E s := by
  obtain ⟨N, a, kvs, k, x, l', ea, na, f, rl, rk, rx, hs, hq⟩ := h
  cases ea
  have up : ∀ ob, Ext N H (upd H D ob) := fun ob b o hb n => by rw [upd_ne (fun z => n (by rw [z]; exact na))]; exact hb
  have hd : setK kvs k x = if isKey k && kindOk kvs k && decide (kvs.length < sizeLine) then some (dput kvs k x) else none := rfl
  rw [hd] at hs
  split at hs
  · rename_i hc
    simp only [Bool.and_eq_true, decide_eq_true_eq] at hc
    obtain ⟨⟨k1, k2⟩, k3⟩ := hc
    cases hs
    obtain ⟨a', ea, ⟨ks, es, ha, r, rfl⟩ | ⟨ks, es, hne, ha, r, rfl⟩⟩ := rl.dict_of (nmK_of_kind k2)
    · cases ea
      have hl : ks.length = es.length := by simpa using r.length
      have hz : ks.length < sizeLine := by simp [List.length_zip, hl] at k3; omega
      rcases key_cases k1 with ⟨k, rfl⟩ | ⟨k, rfl⟩
      · obtain ⟨es', re, he⟩ := put_rp keyD keyD_eqv k rx r
        have hdp : DPut H D y v (upd H D (.dK (putK ks k v))) := by rw [Rp.key rk]; exact DPut.k ha hz
        refine dset_put (by omega) I hdp ry rv fun t I' => q _ _ I' (hq _ trivial ?_)
        rw [he]
        exact .dK upd_same (re.ext (up _) f)
      · obtain rfl := kindOk_K hl k2
        cases r
        obtain ⟨b, rfl, hb⟩ := Rp.tkey rk
        have hne : b ≠ D := ne_of hb ha (by intro z; cases z)
        have hdp : DPut (upd H D (.dT [])) D (.ref b) v (upd (upd H D (.dT [])) D (.dT (putK [] k v))) := DPut.t upd_same (by rw [upd_ne hne]; exact hb) hz
        rw [upd_upd] at hdp
        obtain ⟨es', re, he⟩ := put_rp tkeyD tkeyD_eqv k rx (kvs := []) (ds := []) .nil
        refine dset_put (by omega) (Inv.toT I ha) hdp ry rv fun t I' => q _ _ I' (hq _ trivial ?_)
        have he' : dput [] (tkeyD k) x = _ := he
        simp only [List.map_nil, List.zip_nil_right] at *
        rw [he']
        exact .dT putK_ne upd_same (re.ext (up _) f)
    · cases ea
      have hl : ks.length = es.length := by simpa using r.length
      have hz : ks.length < sizeLine := by simp [List.length_zip, hl] at k3; omega
      rcases key_cases k1 with ⟨k, rfl⟩ | ⟨k, rfl⟩
      · exact absurd (kindOk_T hl k2) hne
      · obtain ⟨b, rfl, hb⟩ := Rp.tkey rk
        obtain ⟨es', re, he⟩ := put_rp tkeyD tkeyD_eqv k rx r
        refine dset_put (by omega) I (DPut.t ha hb hz) ry rv fun t I' => q _ _ I' (hq _ trivial ?_)
        rw [he]
        exact .dT putK_ne upd_same (re.ext (up _) f)
  · cases hs
/-- {k: x for target in iter if ..}: D is the new dict -/
def tDg (wi : TI) (g : TG) (tt : TT) (tk tv : TE) (vs : List Nat) : TE := fun σ H Q => wi σ H fun J H1 => ∀ D, H1 D = none → ∃ M : Nat → Nat → Hp → Prop, (∃ m, M 0 m (upd H1 D (.dK []))) ∧ ∀ i m H, M i m H →
  (J.stop i H ∧ Q (.ref D) H) ∨ (J.go i H ∧ ∃ Nx : Hp → Prop, (∀ K, Nx K → ∃ m', m' < m ∧ M (i + 1) m' K) ∧ ∀ x K, J.yld i H x K → g x (wipe σ vs) K fun σ2 K2 => wipe σ2 vs = wipe σ vs ∧ tt σ2 K2 fun b K3 =>
    if b = true then tk σ2 K3 fun y K4 => tv σ2 K4 fun z K5 => tStD (.ref D) y z K5 Nx else Nx K3)

variable {kx vx tg iter : PySem.Expr} {ifs : List PySem.Expr} {scope : Scope} {own : List (Str × Nat)} {pos pos' : Pos} {wi : TI} {g : TG} {tt : TT} {tk tv : TE}
set_option maxHeartbeats 8000000 in
theorem dg_core {Q : VK} {use : Option (Value → Sem Unit)} {Qf : Value → Shared → Prop} (hu : X.A.units + 64 < cLine)
    (calm : X.calm = true) (nd : X.N.Nodup) (I : Inv X pins σ H s) (pi : PI X tg iter wi) (bok : BlkOk X.N X.env.scope scope own)
    (hg : ∀ (u : Shared) (K : Hp) (c : Addr) (cl : List (Str × Addr)) (fp : List Addr), PG (X.blk u K scope (compEnvC scope cl c X.env) fp) tg g)
    (ht : ∀ (u : Shared) (K : Hp) (c : Addr) (cl : List (Str × Addr)) (fp : List Addr), PTs (X.blk u K scope (compEnvC scope cl c X.env) fp) ifs tt)
    (hk : ∀ (u : Shared) (K : Hp) (c : Addr) (cl : List (Str × Addr)) (fp : List Addr), PE (X.blk u K scope (compEnvC scope cl c X.env) fp) kx tk)
    (hv : ∀ (u : Shared) (K : Hp) (c : Addr) (cl : List (Str × Addr)) (fp : List Addr), PE (X.blk u K scope (compEnvC scope cl c X.env) fp) vx tv)
    (fold : ∀ z, foldedSetIterable iter X.env z = pure z) (h : tDg wi g tt tk tv (own.map (·.2)) σ H Q)
    (fin : ∀ D c t m K, Inv X pins σ K t → Q (.ref D) K → t.heap.Ns c m → FpOk X pins K c → compPost (model X.prog X.w) X.A X.xe use Qf (.ref D) c (.ok .next) t) :
    wpAny (model X.prog X.w) X.A (comprehension (.DictComp kx vx [⟨tg, iter, ifs, 0⟩] scope pos) scope X.env pos' newDict false (eval iter X.env) use) Qf X.xe s := by
  have cellsAt : ∀ y ∈ scope.names, y.2 = .free → ∃ c, X.env.cells.lookup y.1 = some c := by
    intro y hy e
    exact (bok.free y hy e).elim (fun k => I.ok.has _ (.inl k)) fun k => I.ok.has _ (.inr k)
  refine wpAny_comprehension_free (use := use) rfl fold (closure_ok cellsAt) bok.kind (fun y hy e => by rw [bok.uniq y hy, e])
    (thn (pi.run pins s σ H _ I h) fun _ u1 z1 => thn z1 fun itv u2 z2 => ?_)
  obtain ⟨it, fp, tn, J, K2, rfl, I2, T, st2, f2, q⟩ := z2
  refine wpAny_newObj_type (newEnv_comp ?_)
  generalize eD : u2.heap.objs.size = D
  have nD : K2 D = none := I2.hok.fresh (Nat.le_of_eq eD)
  obtain ⟨M, ⟨m0, w0⟩, turn⟩ := q D nD
  generalize e3 : ({ u2 with heap := u2.heap.push { cls := .type "dict", data := .dict #[] } } : Shared) = u3
  have I3 : Inv X pins σ (upd K2 D (.dK [])) u3 := by
    rw [← e3]
    refine I2.laid (t' := u2.toks) (fun _ _ e => Heap.get?_push_of_some _ e) (Nat.le_of_eq eD) ?_
    rw [← eD]
    exact dk_empty u2.heap I2.big
  have p3 : u3.heap = u2.heap.push { cls := .type "dict", data := .dict #[] } := by rw [← e3]
  have below : ∀ b ∈ fp, b < u2.heap.objs.size := fun b hb => Heap.lt_size (T.obj _ _ st2 b hb).choose_spec.1
  have f3 : ∀ b ∈ fp, FpOk X pins (upd K2 D (.dK [])) b ∧ b < u3.heap.objs.size := by
    intro b hb
    have lt := below b hb
    have ne : b ≠ D := eD ▸ Nat.ne_of_lt lt
    exact ⟨⟨(upd_ne ne).trans (f2 b hb).1, (f2 b hb).2⟩, by rw [p3, Heap.size_push]; exact Nat.lt_succ_of_lt lt⟩
  have st3 : tn 0 u3.heap := T.keep _ _ _ st2 fun _ _ _ e => p3 ▸ Heap.get?_push_of_some _ e
  have I4 := block_start I3 bok nd f3
  have rg := hg u3 (upd K2 D (.dK [])) u3.heap.objs.size (cellsFrom (u3.heap.objs.size + 1) scope.names (cloFrom X.env.cells scope.names [])) fp
  have rt := ht u3 (upd K2 D (.dK [])) u3.heap.objs.size (cellsFrom (u3.heap.objs.size + 1) scope.names (cloFrom X.env.cells scope.names [])) fp
  have rk := hk u3 (upd K2 D (.dK [])) u3.heap.objs.size (cellsFrom (u3.heap.objs.size + 1) scope.names (cloFrom X.env.cells scope.names [])) fp
  have rv := hv u3 (upd K2 D (.dK [])) u3.heap.objs.size (cellsFrom (u3.heap.objs.size + 1) scope.names (cloFrom X.env.cells scope.names [])) fp
  have out3 : ∀ b ∈ fp, (upd K2 D (.dK [])) b = none := fun b hb => (f3 b hb).1.1
  show codeAny _ _ (.compStart (.DictComp kx vx [⟨tg, iter, ifs, 0⟩] scope pos) 0 (.ref it) (.ref D) (compEnvC scope (cellsFrom (u3.heap.objs.size + 1) scope.names (cloFrom X.env.cells scope.names [])) u3.heap.objs.size X.env)) (compPost (model X.prog X.w) X.A X.xe use Qf (.ref D) u3.heap.objs.size) { u3 with heap := pushCells (u3.heap.push { cls := .type "dict", data := .dict #[] }) scope.names }
  generalize ece : compEnvC scope (cellsFrom (u3.heap.objs.size + 1) scope.names (cloFrom X.env.cells scope.names [])) u3.heap.objs.size X.env = ce at I4 rg rt rk rv ⊢
  have hL : ce.locals = u3.heap.objs.size := by subst ece; rfl
  generalize eK3 : upd K2 D (.dK []) = K3 at I3 I4 rg rt rk rv w0 out3 f3
  generalize e4 : ({ u3 with heap := pushCells (u3.heap.push { cls := .type "dict", data := .dict #[] }) scope.names } : Shared) = u4 at I4 ⊢
  have st4 : tn 0 u4.heap := T.keep _ _ _ st3 fun b _ o e => by rw [← e4]; exact pushCells_keeps _ _ _ _ (Heap.get?_push_of_some _ e)
  have still : ∀ {τ : L2.St} {K' : Hp} {t : Shared}, Inv (X.blk u3 K3 scope ce fp) [] τ K' t → (∀ b ∈ fp, K' b = none) → ∀ b ∈ fp, FpOk (X.blk u3 K3 scope ce fp) [] K' b := by
    intro τ K' t J' hn b hb
    exact ⟨hn b hb, (J'.ok.exf b hb).1, J'.ok.exfs b hb, .inl hb, fun x c e => (J'.ok.exf b hb).2 x c e, fun p hp => nomatch (show p ∈ ([] : List (Addr × Obj)) ++ [] from hp)⟩
  have whole : codeAny (model X.prog X.w) X.A (.compLoop (.DictComp kx vx [⟨tg, iter, ifs, 0⟩] scope pos) 0 (.ref it) (.ref D) ce) (compPost (model X.prog X.w) X.A X.xe use Qf (.ref D) u3.heap.objs.size) u4 := by
    refine compLoop_anyD (fun n t => ∃ i K', Inv (X.blk u3 K3 scope ce fp) [] (wipe σ (own.map (·.2))) K' t ∧ tn i t.heap ∧ (∀ b ∈ fp, K' b = none) ∧ M i n K') ?_ m0 ⟨0, K3, I4, st4, out3, w0⟩
    rintro n u5 ⟨i, K5, I5, st5, n5, w5⟩
    rcases turn i n K5 w5 with ⟨stop, last⟩ | ⟨go, Nx, hNx, step⟩
    · have td := T.done (X.blk u3 K3 scope ce fp) rfl rfl rfl calm i [] u5 _ K5 (fun _ _ => False) I5 (still I5 n5) st5 stop
      refine thnF td fun r u6 ⟨hr, I6⟩ => ?_
      subst hr
      have I7 : Inv X pins σ K5 u6 := I3.call' (ch := fp) I6.os I6.base I6.hok I6.bare fun b hb => ⟨(f3 b hb).1.2.2.2.1, (f3 b hb).1.2.1, (f3 b hb).1.2.2.2.2.1, (f3 b hb).1.2.2.2.2.2⟩
      have no : K5 u3.heap.objs.size = none := hL ▸ (show K5 ce.locals = none from I6.free)
      obtain ⟨m, hns, _⟩ := I6.loc
      have hns : u6.heap.Ns u3.heap.objs.size m := hL ▸ (show u6.heap.Ns ce.locals m from hns)
      exact fin D u3.heap.objs.size u6 m K5 I7 last hns (I3.fpOk (Nat.le_refl _) no)
    · have ti := T.item (X.blk u3 K3 scope ce fp) rfl rfl rfl calm i [] u5 _ K5 (fun _ _ => False) I5 (still I5 n5) st5 go
      refine thnF ti fun r u6 ⟨u, hr, z6⟩ => ?_
      subst hr
      refine thnF z6 fun _ u7 ⟨x, K7, I7, r7, y7, st7, n7⟩ => ?_
      have I7' := I7.pinned (still I7 n7) (T.obj _ _ st7)
      refine thnF (rg.run _ u7 _ K7 x u _ I7' r7 (step x K7 y7)) fun _ u8 ⟨σ8, K8, I8, hw8, q8⟩ => ?_
      refine thnF (rt.run _ u8 σ8 K8 _ I8 q8) fun b u9 ⟨K9, I9, q9⟩ => ?_
      have on : ∀ {t : Shared} {K' : Hp}, Inv (X.blk u3 K3 scope ce fp) ([] ++ pinsAt fp u7.heap) σ8 K' t → Nx K' → ∃ m, m < n ∧ ∃ i K', Inv (X.blk u3 K3 scope ce fp) [] (wipe σ (own.map (·.2))) K' t ∧ tn i t.heap ∧ (∀ b ∈ fp, K' b = none) ∧ M i m K' := by
        intro t K' I' nx
        obtain ⟨m', lt, w'⟩ := hNx K' nx
        have pinned : ∀ b ∈ fp, ∀ o, u7.heap.get? b = some o → t.heap.get? b = some o ∧ K' b = none := fun b hb o e => by
          have z := I'.pin (b, o) (List.mem_append_right _ (List.mem_append_right _ (mem_pinsAt hb e)))
          exact ⟨z.1, z.2.1⟩
        have hl : (wipe σ (own.map (·.2))).length = σ8.length := by rw [← hw8, wipe_length]
        refine ⟨m', lt, i + 1, K', (I'.unpinned (pins := [])).weak hl (fun j v e => (wipe_some (hw8 ▸ e)).1), T.keep _ _ _ st7 fun b hb o e => (pinned b hb o e).1, fun b hb => ?_, w'⟩
        obtain ⟨o, e, _⟩ := T.obj _ _ st7 b hb
        exact (pinned b hb o e).2
      cases b with
      | false =>
        simp only [Bool.false_eq_true, if_false] at q9 ⊢
        exact on I9 q9
      | true =>
        simp only [if_true] at q9 ⊢
        refine thnF (rk.run _ u9 σ8 K9 _ I9 q9) fun z u10 ⟨yk, K10, I10, r10, q10⟩ => ?_
        refine thnF (rv.run _ u10 σ8 K10 _ I10 q10) fun z2 u11 ⟨yv, K11, I11, r11, q11⟩ => ?_
        exact dset_any (X := X.blk u3 K3 scope ce fp) hu I11 q11 r10 r11 fun t K' I12 nx => on I12 nx
  exact codeAny_compStart_dict whole (T.self X.A 0 _ _ _ st4 whole)
theorem pe_dg (hu : X.A.units + 64 < cLine) (calm : X.calm = true) (nd : X.N.Nodup) (pi : PI X tg iter wi) (bok : BlkOk X.N X.env.scope scope own)
    (hg : ∀ (u : Shared) (K : Hp) (c : Addr) (cl : List (Str × Addr)) (fp : List Addr), PG (X.blk u K scope (compEnvC scope cl c X.env) fp) tg g)
    (ht : ∀ (u : Shared) (K : Hp) (c : Addr) (cl : List (Str × Addr)) (fp : List Addr), PTs (X.blk u K scope (compEnvC scope cl c X.env) fp) ifs tt)
    (hk : ∀ (u : Shared) (K : Hp) (c : Addr) (cl : List (Str × Addr)) (fp : List Addr), PE (X.blk u K scope (compEnvC scope cl c X.env) fp) kx tk)
    (hv : ∀ (u : Shared) (K : Hp) (c : Addr) (cl : List (Str × Addr)) (fp : List Addr), PE (X.blk u K scope (compEnvC scope cl c X.env) fp) vx tv)
    (fold : ∀ z, foldedSetIterable iter X.env z = pure z) : PE X (.DictComp kx vx [⟨tg, iter, ifs, 0⟩] scope pos) (tDg wi g tt tk tv (own.map (·.2))) := by
  constructor
  intro pins s σ H Q I h
  rw [arm_eval_DictComp]
  refine dg_core hu calm nd I pi bok hg ht hk hv fold h fun D c t m K I' hq hns f => ⟨m, hns, fun h2 sb => ?_⟩
  obtain ⟨a0, a1, _, a3, a4, a5⟩ := f
  exact ⟨.ref D, K, I'.turned (t' := t.toks) (fun b o hb e => (sb.2 b hb).trans e) a0 a1 a3 a4 a5, rfl, hq⟩
end
theorem RpB.keepOut {N : Zn} {H : Hp} {D : Addr} {kvs : List (PD.D × PD.D)} (n : ¬ N D) (h : RpB (fun a => N a ∨ a = D) H (.ref D) (.dict kvs)) : Rp N H (.ref D) (.dict kvs) := by
  generalize e : PyData.dict kvs = d at h
  cases h with
  | of r => exact r.less fun a z => .inl z
  | lst _ _ => cases e
  | dK q r => exact .dK n q (r.less fun a z => .inl z)
  | dT z q r => exact .dT n z q (r.less fun a z => .inl z)
section
variable {C : Calls} {X : Cx} {tg : PySem.Expr}
/-- the turns of a dict comprehension -/
theorem dg_body {S : Src} {P : Zn} {ρ : Nv} {σ : L2.St} {H1 : Hp} {J : L2.It} {ds : List PD.D} {Q0 : PD.D → Prop} {Q : VK} {vs : List Nat} {g : G} {c : To} {k x : E} (hgs : gSlots g = vs) (R1 : Rel S P ρ σ H1) (hf : free ρ vs = true) (w : Wk S.dom (Nn P ρ σ) H1 J ds)
    (hds : dcW (fun d K => lift (asg g d (wipeN ρ vs)) fun ρ' => evc C c ρ' fun t => if t = true then ev C k ρ' (fun y => ev C x ρ' fun z => K (some (y, z))) else K none) ds [] fun r => Q0 (.dict r))
    (q : ∀ kvs, Q0 (.dict kvs) → ∀ (D : Addr) (H' : Hp), Ext S.dom H1 H' → S.inv H' → H1 D = none → RpB (fun a => Nn P ρ σ a ∨ a = D) H' (.ref D) (.dict kvs) → Q (.ref D) H') :
    tDg (fun _ _ R => R J H1) (tG g) (tTo C c) (tE C k) (tE C x) vs σ H1 Q := by
  intro D hD
  have i1 := R1.inv
  have Rp1 : Rel S (fun a => P a ∨ a = D) (wipeN ρ vs) (wipe σ vs) (upd H1 D (.dK [])) := (R1.shrink vs).prot hD trivial
  generalize hP' : (fun a => P a ∨ a = D) = P' at Rp1
  have hPD : P' D := by rw [← hP']; exact .inr rfl
  have hPP : ∀ a, P' a → P a ∨ a = D := fun a z => by rw [← hP'] at z; exact z
  have hNN : ∀ a, Nn P' (wipeN ρ vs) (wipe σ vs) a → Nn P ρ σ a ∨ H1 a = none := fun a z => by
    rcases z with z | z
    · exact (hPP a z).elim (fun z => .inl (.inl z)) fun z => .inr (z ▸ hD)
    · exact .inl (.inr (own_wipe z))
  have hNb : ∀ a, Nn P ρ σ a → Nn P' (wipeN ρ vs) (wipe σ vs) a := fun a z => by
    rcases z with z | z
    · exact .inl (by rw [← hP']; exact .inl z)
    · exact .inr (own_free hf z)
  have nD : ¬ S.dom D := fun z => by
    obtain ⟨o, ho, _⟩ := (S.fit H1 i1).dom D z
    rw [hD] at ho; cases ho
  have hff : free (wipeN ρ vs) vs = true := by
    unfold free
    rw [List.all_eq_true]
    intro j hj
    split
    · rename_i hh
      exact absurd hj (wipeN_some hh).2
    · rfl
  refine ⟨fun i m H => ∃ kvs, i ≤ ds.length ∧ m = ds.length - i ∧ RpB (Nn P' (wipeN ρ vs) (wipe σ vs)) H (.ref D) (.dict kvs) ∧ Rel S P' (wipeN ρ vs) (wipe σ vs) H ∧ Ext S.dom H1 H ∧
    dcW (fun d K => lift (asg g d (wipeN ρ vs)) fun ρ' => evc C c ρ' fun t => if t = true then ev C k ρ' (fun y => ev C x ρ' fun z => K (some (y, z))) else K none) (ds.drop i) kvs fun r => Q0 (.dict r),
    ⟨ds.length, [], Nat.zero_le _, rfl, .dK upd_same .nil, Rp1, Ext.new hD, by simpa using hds⟩, ?_⟩
  rintro i m H2 ⟨kvs, hi, rfl, rb, R2, e2, hw⟩
  by_cases hlt : i < ds.length
  · right
    have hgd : ds[i]? = some ds[i] := List.getElem?_eq_getElem hlt
    refine ⟨w.go i H2 _ e2 hgd, fun H' => ∃ m', m' < ds.length - i ∧ ∃ kvs, i + 1 ≤ ds.length ∧ m' = ds.length - (i + 1) ∧ RpB (Nn P' (wipeN ρ vs) (wipe σ vs)) H' (.ref D) (.dict kvs) ∧ Rel S P' (wipeN ρ vs) (wipe σ vs) H' ∧ Ext S.dom H1 H' ∧
      dcW (fun d K => lift (asg g d (wipeN ρ vs)) fun ρ' => evc C c ρ' fun t => if t = true then ev C k ρ' (fun y => ev C x ρ' fun z => K (some (y, z))) else K none) (ds.drop (i + 1)) kvs fun r => Q0 (.dict r), fun H' z => z, fun v H3 hy => ?_⟩
    obtain ⟨e3, hrp⟩ := w.yld i H2 _ v H3 e2 hgd hy
    have R3 := R2.ext0 e3
    rw [List.drop_eq_getElem_cons hlt] at hw
    obtain ⟨ρ', ea, hw⟩ := hw
    refine ⟨S, P', _, ds[i], ρ', R3, hrp _ hNN, ea, fun σ' R4 st n4 => ?_⟩
    rw [hgs] at st
    have hlen : σ'.length = (wipe σ vs).length := by
      have a1 := R4.len
      have a2 := R3.len
      have a3 : ρ'.length = (wipeN ρ vs).length := asg_len ea
      omega
    refine ⟨by rw [st.wipe hlen, wipe_wipe], S, P', ρ', _, R4, hw, fun b hb H5 e5 i5 => ?_⟩
    have R5 := R4.ext e5 i5
    have R5w := R3.ext e5 i5
    have rb3 := rb.extA R2.fit (e3.any _) fun a o _ ho => e3 a o ho fun z => z
    have rb5 : RpB (Nn P' (wipeN ρ vs) (wipe σ vs)) H5 (.ref D) (.dict kvs) := rb3.extA R3.fit (e5.mono R3.domN) fun a o ea' ho => by cases ea'; exact e5 D o ho nD
    cases b with
    | false =>
      simp only [Bool.false_eq_true, if_false] at hb ⊢
      exact ⟨_, by omega, kvs, hlt, rfl, rb5, R5w, (e2.trans (e3.any _)).trans e5, hb⟩
    | true =>
      simp only [if_true] at hb ⊢
      refine ⟨S, P', ρ', _, R5, hb, fun d hd v6 H6 e6 i6 r6 _ => ?_⟩
      have R6 := R5.ext e6 i6
      have R6w := R5w.ext e6 i6
      refine ⟨S, P', ρ', _, R6, hd, fun d2 hd2 v7 H7 e7 i7 r7 _ => ?_⟩
      have R7w := R6w.ext e7 i7
      obtain ⟨kvs', hset, hrest⟩ := hd2
      have lessN : ∀ a, Nn P' (wipeN ρ vs) (wipe σ vs) a → Nn P' ρ' σ' a := fun a z => z.elim .inl fun z => .inr (st.own hff z)
      have rb7 : RpB (Nn P' (wipeN ρ vs) (wipe σ vs)) H7 (.ref D) (.dict kvs) :=
        (rb5.extA R5w.fit (e6.mono R5w.domN) fun a o ea' ho => by cases ea'; exact e6 D o ho nD).extA R6w.fit (e7.mono R6w.domN) fun a o ea' ho => by cases ea'; exact e7 D o ho nD
      have r6' : Rp (Nn P' (wipeN ρ vs) (wipe σ vs)) H7 v6 d := (r6.ext (e7.mono R6.domN) R6.fit).less lessN
      refine ⟨Nn P' (wipeN ρ vs) (wipe σ vs), D, kvs, d, d2, kvs', rfl, .inl hPD, R7w.fit, rb7, .of r6', r7.less lessN, hset, fun ob mob rb' => ⟨_, by omega, kvs', hlt, rfl, rb', ?_, ?_, hrest⟩⟩
      · refine R7w.extP (M := fun a => a = D) (fun a z => (show a = D from z) ▸ hPD) (fun a o ho n => by rw [upd_ne n]; exact ho) (S.upd i7 nD rb7.noExt) ⟨fun a z => ?_⟩
        by_cases hz : a = D
        · exact ⟨ob, by rw [hz]; exact upd_same, .of mob⟩
        · obtain ⟨o, ho, m⟩ := R7w.fitP.dom a z
          exact ⟨o, by rw [upd_ne hz]; exact ho, m⟩
      · exact ((e2.trans (e3.any _)).trans ((e5.trans e6).trans e7)).mut hD
  · left
    have hi' : i = ds.length := by omega
    subst hi'
    refine ⟨w.stop _ H2 e2 (Nat.le_refl _), ?_⟩
    rw [List.drop_length] at hw
    exact q kvs hw D H2 e2 R2.inv hD (rb.less fun a z => z.elim (hNb a) fun z => .inl (by rw [z]; exact hPD))
theorem ev_dc {vs : List Nat} {g : G} {it : PD.It} {c : To} {k x : E} {iter kx vx : PySem.Expr} {ifs : List PySem.Expr} {scope : Scope} {own : List (Str × Nat)} {pos : Pos} (hu : X.A.units + 64 < cLine) (hc : X.calm = true) (hN : X.N.Nodup) (hi : PI X tg iter (tI C true it)) (ok : BlkOk X.N X.env.scope scope own) (hv : own.map (·.2) = vs) (hgs : gSlots g = vs)
    (hg : ∀ (s : Shared) (H : Hp) (Cc : Addr) (cl : List (Str × Addr)) (fp : List Addr), PG (X.blk s H scope (compEnvC scope cl Cc X.env) fp) tg (tG g)) (ht : ∀ (s : Shared) (H : Hp) (Cc : Addr) (cl : List (Str × Addr)) (fp : List Addr), PTs (X.blk s H scope (compEnvC scope cl Cc X.env) fp) ifs (tTo C c))
    (hk : ∀ (s : Shared) (H : Hp) (Cc : Addr) (cl : List (Str × Addr)) (fp : List Addr), PE (X.blk s H scope (compEnvC scope cl Cc X.env) fp) kx (tE C k))
    (he : ∀ (s : Shared) (H : Hp) (Cc : Addr) (cl : List (Str × Addr)) (fp : List Addr), PE (X.blk s H scope (compEnvC scope cl Cc X.env) fp) vx (tE C x)) (hs : ∀ z, foldedSetIterable iter X.env z = pure z) :
    PE X (.DictComp kx vx [⟨tg, iter, ifs, 0⟩] scope pos) (tE C (.dc vs g it c k x)) := by
  refine PE.weak (pe_dg hu hc hN hi ok hg ht hk he hs) fun σ H Q ⟨S, P, ρ, Q0, R, ⟨hf, h⟩, q⟩ => ?_
  rw [hv]
  refine ⟨S, P, ρ, _, R, h, fun ds hds J H1 e1 i1 w => ?_⟩
  have R1 := R.ext e1 i1
  refine dg_body hgs R1 hf w hds fun kvs hq D H' e2 i2 hD rb => q _ hq _ H' (e1.trans e2) i2 (RpB.keepOut (R1.fit.ne hD) rb) fun _ _ => ⟨D, rfl, fresh_trans i1 e1 hD, rb⟩
end
end
set_option maxHeartbeats 4000000
/-! PDn: every expression is as its compact form says. -/
section
open PySem L2
variable [Tb]
section
variable {C : Calls} {tb : List (Str × Nat)}
theorem folded_plain {X : Cx} {x : PySem.Expr} (h : notSet x = true) : ∀ z, foldedSetIterable x X.env z = pure z := by
  intro z
  cases x <;> first | rfl | cases h
theorem fnB_ok {sc scope : Scope} {z : Str} (h : fnB scope z = true) : (scope.names.lookup z == some .cell) = true ∨ (relS scope sc).names.lookup z = some .local := by
  unfold fnB at h
  rw [Bool.or_eq_true] at h
  rcases h with h | h
  · exact .inl h
  · exact .inr (lookup_relS_keep (by decide) (eq_of_beq h))
theorem var_ok {X : Cx} {e : E} {x : PySem.Expr} (h : chkE X.N tb e X.env.scope x = true) : ∀ i, e = .var i → PE X x (tVar i) := by
  rintro i rfl
  unfold chkE at h
  split at h
  · exact var_of rfl h
  · cases h
theorem unB_pe {X : Cx} {op : PySem.BoolOp} {y : PySem.Expr} {r : List PySem.Expr} {p : Pos} {t : TE} (h : PE X (unB (.BoolOp op (y :: r) p)) t) : PE X (.BoolOp op (y :: r) p) t := by
  cases r with
  | nil => exact pe_one h
  | cons z r => exact h
theorem bnd {a b : Bool} (h : (a && b) = true) : a = true ∧ b = true := by rwa [Bool.and_eq_true] at h
theorem tyS_ok (t : Ty) : bootBuiltins (tyS t) = some (.type (tyN t)) ∧ tyS t ≠ "__name__" ∧ (tyS t == ("__debug__" : Str)) = false ∧ tyS t ∈ (["len", "tuple", "list", "sorted", "sum", "max", "min", "abs", "all", "any", "int", "repr", "range", "isinstance", "dict", "zip", "enumerate", "reversed", "str", "set", "bool"] : List Str) := by
  cases t <;> exact ⟨by decide +kernel, by decide +kernel, by decide +kernel, by decide +kernel⟩
mutual
theorem okE : ∀ (e : E) (X : Cx) (x : PySem.Expr), Good tb C X → chkE X.N tb e X.env.scope x = true → PE X x (tE C e)
  | .var i, X, x, G, h => ev_var (var_ok h i rfl)
  | .cst d, X, x, G, h => by
    unfold chkE at h; split at h
    · exact ev_cst h
    · cases h
  | .bin op a b, X, x, G, h => by
    unfold chkE at h; split at h
    · obtain ⟨h, h2⟩ := bnd h
      obtain ⟨h0, h1⟩ := bnd h
      rw [← of_decide_eq_true h0]
      exact ev_bin (bo_of (var_ok h1) (okE a X _ G h1)) (bo_of (var_ok h2) (okE b X _ G h2))
    · cases h
  | .neg a, X, x, G, h => by
    unfold chkE at h; split at h
    · exact ev_neg (bo_of (var_ok h) (okE a X _ G h))
    · cases h
  | .not a, X, x, G, h => by
    unfold chkE at h; split at h
    · exact ev_not (bo_of (var_ok h) (okE a X _ G h))
    · cases h
  | .and a b, X, x, G, h => by
    unfold chkE at h; split at h
    · obtain ⟨h1, h2⟩ := bnd h
      exact ev_and (okE a X _ G h1) (unB_pe (okE b X _ G h2))
    · cases h
  | .or a b, X, x, G, h => by
    unfold chkE at h; split at h
    · obtain ⟨h1, h2⟩ := bnd h
      exact ev_or (okE a X _ G h1) (unB_pe (okE b X _ G h2))
    · cases h
  | .cmp op a b, X, x, G, h => by
    unfold chkE at h; split at h
    · obtain ⟨h, h3⟩ := bnd h
      obtain ⟨h, h2⟩ := bnd h
      obtain ⟨h0, h1⟩ := bnd h
      rw [← of_decide_eq_true h0]
      exact ev_cmp G.units (bo_of (var_ok h1) (okE a X _ G h1)) (bo_of (var_ok h2) (okE b X _ G h2)) h3
    · cases h
  | .chain o1 o2 a b c, X, x, G, h => by
    unfold chkE at h; split at h
    · obtain ⟨h, h5⟩ := bnd h
      obtain ⟨h, h4⟩ := bnd h
      obtain ⟨h, h3⟩ := bnd h
      obtain ⟨h, h2⟩ := bnd h
      obtain ⟨h0, h1⟩ := bnd h
      rw [← of_decide_eq_true h0, ← of_decide_eq_true h1]
      exact ev_chain G.units (bo_of (var_ok h2) (okE a X _ G h2)) (bo_of (var_ok h3) (okE b X _ G h3)) (bo_of (var_ok h4) (okE c X _ G h4)) h5
    · cases h
  | .ife c a b, X, x, G, h => by
    unfold chkE at h; split at h
    · obtain ⟨h, h2⟩ := bnd h
      obtain ⟨h0, h1⟩ := bnd h
      exact ev_ife (okT c X _ G h0).1 (okE a X _ G h1) (okE b X _ G h2)
    · cases h
  | .tup es, X, x, G, h => by
    unfold chkE at h; split at h
    · exact ev_tup (okEs es X _ G h)
    · cases h
  | .tupH es, X, x, G, h => by
    unfold chkE at h; split at h
    · exact ev_tupH (okEs es X _ G h)
    · cases h
  | .lst es, X, x, G, h => by
    unfold chkE at h; split at h
    · exact ev_lst (okEs es X _ G h)
    · cases h
  | .dnew, X, x, G, h => by
    unfold chkE at h; split at h
    · exact ev_dnew
    · cases h
  | .idx a i, X, x, G, h => by
    unfold chkE at h; split at h
    · obtain ⟨h, h2⟩ := bnd h
      obtain ⟨h0, h1⟩ := bnd h
      exact ev_idx G.units (bo_of (var_ok h1) (okE a X _ G h1)) (okE i X _ G h2) h0
    · cases h
  | .slc a lo hi, X, x, G, h => by
    unfold chkE at h; split at h
    · obtain ⟨h, h2⟩ := bnd h
      obtain ⟨h0, h1⟩ := bnd h
      exact ev_slc (bo_of (var_ok h0) (okE a X _ G h0)) (okEo lo X _ G h1) (okEo hi X _ G h2)
    · cases h
  | .rev a, X, x, G, h => by
    unfold chkE at h; split at h
    · exact ev_rev (bo_of (var_ok h) (okE a X _ G h))
    · cases h
  | .rev0 a, X, x, G, h => by
    unfold chkE at h; split at h
    · exact ev_rev0 (bo_of (var_ok h) (okE a X _ G h))
    · cases h
  | .call f as, X, x, G, h => by
    unfold chkE at h; split at h
    · rename_i x0 p0 xs pos0
      split at h
      · rename_i nm np hf
        obtain ⟨h, h6⟩ := bnd h
        obtain ⟨h, h5⟩ := bnd h
        obtain ⟨h, h4⟩ := bnd h
        obtain ⟨h, h3⟩ := bnd h
        obtain ⟨h, h2⟩ := bnd h
        obtain ⟨h0, h1⟩ := bnd h
        have e := of_decide_eq_true h0
        subst e
        cases xs with
        | nil => cases h3
        | cons y ys => exact ev_call G hf h1 h2 h5 (of_decide_eq_true h6) (okEa as X _ G h4)
      · cases h
    · cases h
  | .prim p as, X, x, G, h => by
    unfold chkE at h; split at h
    · rename_i x0 p0 xs pos0
      split at h
      · rename_i nm ty id hf
        obtain ⟨h, h5⟩ := bnd h
        obtain ⟨h, h4⟩ := bnd h
        obtain ⟨h, h3⟩ := bnd h
        obtain ⟨h0, h1⟩ := bnd h
        have e := of_decide_eq_true h0
        subst e
        cases xs with
        | nil => cases h3
        | cons y ys => exact ev_prim G hf h1 h5 (okEb as X _ G h4)
      · cases h
    · cases h
  | .isi a ts, X, x, G, h => by
    unfold chkE at h; split at h
    · split at h
      · rename_i t
        obtain ⟨h, h5⟩ := bnd h
        obtain ⟨h, h4⟩ := bnd h
        obtain ⟨h, h3⟩ := bnd h
        obtain ⟨h, h2⟩ := bnd h
        obtain ⟨h0, h1⟩ := bnd h
        have e := of_decide_eq_true h0
        have e2 := of_decide_eq_true h2
        subst e e2
        obtain ⟨t1, t2, t3, t4⟩ := tyS_ok t
        exact ev_isi G t1 (G.blt _ t4) t2 t3 h1 h3 h4 (bo_of (var_ok h5) (okE a X _ G h5))
      · cases h
    · cases h
  | .lc vs g it c elt, X, x, G, h => by
    unfold chkE at h; split at h
    · rename_i x0 tg iter ifs scope pos0
      obtain ⟨h, h6⟩ := bnd h
      obtain ⟨h, h5⟩ := bnd h
      obtain ⟨h, h4⟩ := bnd h
      obtain ⟨h, h3⟩ := bnd h
      obtain ⟨h, h2⟩ := bnd h
      obtain ⟨h0, h1⟩ := bnd h
      have hl := of_decide_eq_true h2
      obtain ⟨i1, i2⟩ := okIt it X tg _ G h4
      exact (ev_lc G.calm G.nd (i1 true) (blkOk_by h0) (by rw [List.map_snd_zip]; omega) (of_decide_eq_true h1).symm
        (fun s H Cc cl fp => okG (X := X.blk s H scope (compEnvC scope cl Cc X.env) fp) G.nd G.calm (fun z hz => fnB_ok hz) g tg h3)
        (fun s H Cc cl fp => okTo c (X.blk s H scope (compEnvC scope cl Cc X.env) fp) _ (G.blk _ _ _ _ _) h5)
        (fun s H Cc cl fp => okE elt (X.blk s H scope (compEnvC scope cl Cc X.env) fp) _ (G.blk _ _ _ _ _) h6) (folded_plain i2)).1
    · cases h
  | .lck vs g i c elt, X, x, G, h => by
    unfold chkE at h; split at h
    · rename_i x0 tg nm np ifs scope pos0
      obtain ⟨h, h6⟩ := bnd h
      obtain ⟨h, h5⟩ := bnd h
      obtain ⟨h, h4⟩ := bnd h
      obtain ⟨h, h3⟩ := bnd h
      obtain ⟨h, h2⟩ := bnd h
      obtain ⟨h0, h1⟩ := bnd h
      have hl := of_decide_eq_true h2
      exact ev_lck G.calm G.nd (var_of rfl h4) (blkOk_by h0) (by rw [List.map_snd_zip]; omega) (of_decide_eq_true h1).symm
        (fun s H Cc cl fp => okG (X := X.blk s H scope (compEnvC scope cl Cc X.env) fp) G.nd G.calm (fun z hz => fnB_ok hz) g tg h3)
        (fun s H Cc cl fp => okTo c (X.blk s H scope (compEnvC scope cl Cc X.env) fp) _ (G.blk _ _ _ _ _) h5)
        (fun s H Cc cl fp => okE elt (X.blk s H scope (compEnvC scope cl Cc X.env) fp) _ (G.blk _ _ _ _ _) h6) (folded_plain rfl)
    · cases h
  | .rg t lo hi, X, x, G, h => by
    unfold chkE at h; split at h
    · obtain ⟨h, h4⟩ := bnd h
      obtain ⟨h, h3⟩ := bnd h
      obtain ⟨h, h2⟩ := bnd h
      obtain ⟨h0, h1⟩ := bnd h
      have e := of_decide_eq_true h0
      have e2 := of_decide_eq_true h2
      subst e e2
      split at h4
      · obtain ⟨a1, a2⟩ := bnd h4
        exact ev_rg G h1 rfl (prg_e1 G h3 a2 (okE hi X _ G a1))
      · rename_i l _ _
        obtain ⟨h4, a4⟩ := bnd h4
        obtain ⟨h4, a3⟩ := bnd h4
        obtain ⟨a1, a2⟩ := bnd h4
        exact ev_rg G h1 rfl (prg_e2 G h3 a3 a4 (okE l X _ G a1) (okE hi X _ G a2))
      · cases h4
    · cases h
  | .meth p a as, X, x, G, h => by
    unfold chkE at h; split at h
    · obtain ⟨h, h6⟩ := bnd h
      obtain ⟨h, h5⟩ := bnd h
      obtain ⟨h, h4⟩ := bnd h
      obtain ⟨h, h3⟩ := bnd h
      obtain ⟨h1, h2⟩ := bnd h
      exact ev_meth G (of_decide_eq_true h1) h2 h3 h4 (bo_of (var_ok h5) (okE a X _ G h5)) (okEb as X _ G h6)
    · cases h
  | .disp tk ps, X, x, G, h => by
    unfold chkE at h; split at h
    · obtain ⟨h, h5⟩ := bnd h
      obtain ⟨h, h4⟩ := bnd h
      obtain ⟨h, h3⟩ := bnd h
      obtain ⟨h1, h2⟩ := bnd h
      exact ev_disp G.units (okPs ps X _ _ G h5) h1 (of_decide_eq_true h2) (by intro z; rw [z] at h3; cases h3) (of_decide_eq_true h4)
    · cases h
  | .sset a, X, x, G, h => by
    unfold chkE at h; split at h
    · obtain ⟨h, h6⟩ := bnd h
      obtain ⟨h, h5⟩ := bnd h
      obtain ⟨h, h4⟩ := bnd h
      obtain ⟨h, h3⟩ := bnd h
      obtain ⟨h1, h2⟩ := bnd h
      have e1 := of_decide_eq_true h1
      have e2 := of_decide_eq_true h3
      subst e1 e2
      exact ev_sset G h2 h4 h5 (bo_of (var_ok h6) (okE a X _ G h6))
    · cases h
  | .repl is, X, x, G, h => by
    unfold chkE at h; split at h
    · obtain ⟨h, h3⟩ := bnd h
      obtain ⟨h1, h2⟩ := bnd h
      have e1 := of_decide_eq_true h1
      subst e1
      exact ev_repl G h2 h3
    · cases h
  | .dead, X, x, G, h => ⟨fun pins s σ H Q I ⟨_, _, _, _, _, z, _⟩ => z.elim⟩
  | .lc2 .., X, x, G, h => by unfold chkE at h; cases h
  | .dc vs g it c k v, X, x, G, h => by
    unfold chkE at h; split at h
    · rename_i x0 y0 tg iter ifs scope pos0
      obtain ⟨h, h7⟩ := bnd h
      obtain ⟨h, h6⟩ := bnd h
      obtain ⟨h, h5⟩ := bnd h
      obtain ⟨h, h4⟩ := bnd h
      obtain ⟨h, h3⟩ := bnd h
      obtain ⟨h, h2⟩ := bnd h
      obtain ⟨h0, h1⟩ := bnd h
      have hl := of_decide_eq_true h2
      obtain ⟨i1, i2⟩ := okIt it X tg _ G h4
      exact ev_dc G.units G.calm G.nd (i1 true) (blkOk_by h0) (by rw [List.map_snd_zip]; omega) (of_decide_eq_true h1).symm
        (fun s H Cc cl fp => okG (X := X.blk s H scope (compEnvC scope cl Cc X.env) fp) G.nd G.calm (fun z hz => fnB_ok hz) g tg h3)
        (fun s H Cc cl fp => okTo c (X.blk s H scope (compEnvC scope cl Cc X.env) fp) _ (G.blk _ _ _ _ _) h5)
        (fun s H Cc cl fp => okE k (X.blk s H scope (compEnvC scope cl Cc X.env) fp) _ (G.blk _ _ _ _ _) h6)
        (fun s H Cc cl fp => okE v (X.blk s H scope (compEnvC scope cl Cc X.env) fp) _ (G.blk _ _ _ _ _) h7) (folded_plain i2)
    · cases h
  | .srt .., X, x, G, h => by unfold chkE at h; cases h
theorem okPs : ∀ (ps : Ps) (X : Cx) (ks : List (Option PySem.Expr)) (vs : List PySem.Expr), Good tb C X → chkPs X.N tb ps X.env.scope ks vs = true → ∀ {pos : Pos}, PPs X pos ks vs (trsOf C ps)
  | .nil, X, ks, vs, G, h, pos => by
    unfold chkPs at h
    rw [Bool.and_eq_true] at h
    cases ks with
    | nil => cases vs with
      | nil => exact pps_nil
      | cons _ _ => cases h.2
    | cons _ _ => cases h.1
  | .cons k v r, X, ks, vs, G, h, pos => by
    unfold chkPs at h
    split at h
    · obtain ⟨h, h3⟩ := bnd h
      obtain ⟨h1, h2⟩ := bnd h
      exact pps_cons (okE k X _ G h1) (okE v X _ G h2) (okPs r X _ _ G h3)
    · cases h
theorem okT : ∀ (c : T) (X : Cx) (x : PySem.Expr), Good tb C X → chkT X.N tb c X.env.scope x = true → PT X x (tT C c) ∧ ∀ op vs p, x = .BoolOp op vs p → PW X x (tT C c)
  | .and a b, X, x, G, h => by
    unfold chkT at h; split at h
    · obtain ⟨h1, h2⟩ := bnd h
      rename_i u y r p
      have hb : PW X (.BoolOp .And (y :: r) p) (tT C b) := by
        cases r with
        | nil => exact pw_and1 (okT b X _ G h2).1
        | cons z r => exact (okT b X _ G h2).2 _ _ _ rfl
      have w := t_and (okT a X _ G h1).1 hb
      exact ⟨w.pt, fun _ _ _ _ => w⟩
    · cases h
  | .or a b, X, x, G, h => by
    unfold chkT at h; split at h
    · obtain ⟨h1, h2⟩ := bnd h
      rename_i u y r p
      have hb : PW X (.BoolOp .Or (y :: r) p) (tT C b) := by
        cases r with
        | nil => exact pw_or1 (okT b X _ G h2).1
        | cons z r => exact (okT b X _ G h2).2 _ _ _ rfl
      have w := t_or (okT a X _ G h1).1 hb
      exact ⟨w.pt, fun _ _ _ _ => w⟩
    · cases h
  | .not a, X, x, G, h => by
    unfold chkT at h; split at h
    · exact ⟨t_not (okT a X _ G h).1, fun _ _ _ e => by cases e⟩
    · cases h
  | .e a, X, x, G, h => by
    unfold chkT at h
    obtain ⟨h1, h2⟩ := bnd h
    by_cases hp : plainTest x = true
    · exact ⟨t_plain hp (bo_of (var_ok h1) (okE a X _ G h1)), fun _ _ _ e => by subst e; cases hp⟩
    · have hc : isCmp a = true := by
        rw [Bool.or_eq_true] at h2
        exact h2.resolve_left hp
      cases a with
      | cmp op a b =>
        unfold chkE at h1; split at h1
        · obtain ⟨h, h3⟩ := bnd h1
          obtain ⟨h, h2⟩ := bnd h
          obtain ⟨h0, h1⟩ := bnd h
          rw [← of_decide_eq_true h0]
          exact ⟨t_cmp G.units (bo_of (var_ok h1) (okE a X _ G h1)) (bo_of (var_ok h2) (okE b X _ G h2)) h3, fun _ _ _ e => by cases e⟩
        · cases h1
      | chain o1 o2 a b c =>
        unfold chkE at h1; split at h1
        · obtain ⟨h, h5⟩ := bnd h1
          obtain ⟨h, h4⟩ := bnd h
          obtain ⟨h, h3⟩ := bnd h
          obtain ⟨h, h2⟩ := bnd h
          obtain ⟨h0, h1⟩ := bnd h
          rw [← of_decide_eq_true h0, ← of_decide_eq_true h1]
          exact ⟨t_chain G.units (bo_of (var_ok h2) (okE a X _ G h2)) (bo_of (var_ok h3) (okE b X _ G h3)) (bo_of (var_ok h4) (okE c X _ G h4)) h5, fun _ _ _ e => by cases e⟩
        · cases h1
      | _ => cases hc
theorem okTo : ∀ (c : To) (X : Cx) (xs : List PySem.Expr), Good tb C X → chkTo X.N tb c X.env.scope xs = true → PTs X xs (tTo C c)
  | .no, X, xs, G, h => by
    unfold chkTo at h; split at h
    · exact to_no
    · cases h
  | .yes c, X, xs, G, h => by
    unfold chkTo at h; split at h
    · exact to_yes (okT c X _ G h).1
    · cases h
theorem okEs : ∀ (es : Es) (X : Cx) (xs : List PySem.Expr), Good tb C X → chkEs X.N tb es X.env.scope xs = true → PA X xs (tEs C es)
  | .nil, X, xs, G, h => by
    unfold chkEs at h; split at h
    · exact es_nil
    · cases h
  | .cons e r, X, xs, G, h => by
    unfold chkEs at h; split at h
    · obtain ⟨h, h3⟩ := bnd h
      obtain ⟨h1, h2⟩ := bnd h
      exact es_cons h1 (okE e X _ G h2) (okEs r X _ G h3)
    · cases h
  | .star e r, X, xs, G, h => by
    unfold chkEs at h; split at h
    · obtain ⟨h1, h2⟩ := bnd h
      exact es_star (bo_of (var_ok h1) (okE e X _ G h1)) (okEs r X _ G h2)
    · cases h
theorem okEb : ∀ (es : Es) (X : Cx) (xs : List PySem.Expr), Good tb C X → chkEs X.N tb es X.env.scope xs = true → PA X xs (tEb C es)
  | .nil, X, xs, G, h => by
    unfold chkEs at h; split at h
    · exact eb_nil
    · cases h
  | .cons e r, X, xs, G, h => by
    unfold chkEs at h; split at h
    · obtain ⟨h, h3⟩ := bnd h
      obtain ⟨h1, h2⟩ := bnd h
      exact eb_cons h1 (bo_of (var_ok h2) (okE e X _ G h2)) (okEb r X _ G h3)
    · cases h
  | .star e r, X, xs, G, h => by
    exact ⟨fun _ _ _ _ _ _ _ ⟨_, _, _, _, _, z, _⟩ => z.elim⟩
theorem okEa : ∀ (es : Es) (X : Cx) (xs : List PySem.Expr), Good tb C X → chkEs X.N tb es X.env.scope xs = true → PA X xs (tEa C es)
  | .nil, X, xs, G, h => by
    unfold chkEs at h; split at h
    · exact ea_nil
    · cases h
  | .cons e r, X, xs, G, h => by
    unfold chkEs at h; split at h
    · obtain ⟨h, h3⟩ := bnd h
      obtain ⟨h1, h2⟩ := bnd h
      exact ea_cons h1 (var_ok h2) (okE e X _ G h2) (okEa r X _ G h3)
    · cases h
  | .star e r, X, xs, G, h => by
    exact ⟨fun _ _ _ _ _ _ _ ⟨_, _, _, _, _, z, _⟩ => z.elim⟩
theorem okEo : ∀ (e : Eo) (X : Cx) (x : Option PySem.Expr), Good tb C X → chkEo X.N tb e X.env.scope x = true → PO X x (tEo C e)
  | .no, X, x, G, h => by
    unfold chkEo at h; split at h
    · exact eo_no
    · cases h
  | .yes e, X, x, G, h => by
    unfold chkEo at h; split at h
    · exact eo_yes (okE e X _ G h)
    · cases h
theorem okIt : ∀ (it : PD.It) (X : Cx) (tg x : PySem.Expr), Good tb C X → chkIt X.N tb (isTup tg) it X.env.scope x = true → (∀ b, PI X tg x (tI C b it)) ∧ notSet x = true
  | .val e, X, tg, x, G, h => by
    unfold chkIt at h
    obtain ⟨h1, h2⟩ := bnd h
    exact ⟨fun b => it_val b (bo_of (var_ok h1) (okE e X _ G h1)) (okE e X _ G h1), h2⟩
  | .rng lo hi, X, tg, x, G, h => by
    unfold chkIt at h; split at h
    · obtain ⟨h, h4⟩ := bnd h
      obtain ⟨h0, h1⟩ := bnd h
      have e := of_decide_eq_true h0
      subst e
      refine ⟨fun b => ?_, rfl⟩
      split at h4
      · obtain ⟨a1, a2⟩ := bnd h4
        exact it_rng1 b (gl_of h1) (G.blt _ (by simp)) a2 (okE hi X _ G a1)
      · rename_i l _ _
        obtain ⟨h4, a4⟩ := bnd h4
        obtain ⟨h4, a3⟩ := bnd h4
        obtain ⟨a1, a2⟩ := bnd h4
        exact it_rng2 b (gl_of h1) (G.blt _ (by simp)) a3 a4 (okE l X _ G a1) (okE hi X _ G a2)
      · cases h4
    · cases h
  | .rng3 lo hi st, X, tg, x, G, h => by
    unfold chkIt at h; split at h
    · obtain ⟨h, h8⟩ := bnd h
      obtain ⟨h, h7⟩ := bnd h
      obtain ⟨h, h6⟩ := bnd h
      obtain ⟨h, h5⟩ := bnd h
      obtain ⟨h, h4⟩ := bnd h
      obtain ⟨h, h3⟩ := bnd h
      obtain ⟨h1, h2⟩ := bnd h
      have e := of_decide_eq_true h1
      subst e
      exact ⟨fun b => it_rng3 b (gl_of h2) (G.blt _ (by simp)) h6 h7 h8 (okE lo X _ G h3) (okE hi X _ G h4) (okE st X _ G h5), rfl⟩
    · cases h
  | .enum e, X, tg, x, G, h => by
    unfold chkIt at h; split at h
    · obtain ⟨h, h5⟩ := bnd h
      obtain ⟨h, h4⟩ := bnd h
      obtain ⟨h, h3⟩ := bnd h
      obtain ⟨h1, h2⟩ := bnd h
      have e2 := of_decide_eq_true h2
      subst e2
      cases tg <;> first | (cases h1; done) | skip
      exact ⟨fun b => it_enum b (gl_of h3) (G.blt _ (by simp)) h5 (bo_of (var_ok h4) (okE e X _ G h4)) (okE e X _ G h4), rfl⟩
    · cases h
  | .zip e f, X, tg, x, G, h => by
    unfold chkIt at h; split at h
    · obtain ⟨h, h7⟩ := bnd h
      obtain ⟨h, h6⟩ := bnd h
      obtain ⟨h, h5⟩ := bnd h
      obtain ⟨h, h4⟩ := bnd h
      obtain ⟨h, h3⟩ := bnd h
      obtain ⟨h1, h2⟩ := bnd h
      have e := of_decide_eq_true h2
      subst e
      cases tg <;> first | (cases h1; done) | skip
      exact ⟨fun b => it_zip b (gl_of h3) (G.blt _ (by simp)) h6 h7 (bo_of (var_ok h4) (okE e X _ G h4)) (okE e X _ G h4) (bo_of (var_ok h5) (okE f X _ G h5)) (okE f X _ G h5), rfl⟩
    · cases h
  | .items .., X, tg, x, G, h => by unfold chkIt at h; cases h
  | .values .., X, tg, x, G, h => by unfold chkIt at h; cases h
  | .revd .., X, tg, x, G, h => by unfold chkIt at h; cases h
end
end
end
/-! PDo: statements: syntax, meaning, check. -/
section
open PySem L2
variable [Tb]

/-- a target: a slot, a place of one's own list or dict -/
inductive Tg where
  | sl (i : Nat) | su (i : Nat) (k : E)
mutual
inductive Sm where
  | set (o : Bool) (i : Nat) (e : E)
  | asg (g : G) (e : E)
  | par (is : List (Bool × Nat)) (es : Es)
  | aug (i : Nat) (op : BOp) (e : E)
  | ret (e : E)
  | retN
  | ite (c : T) (a b : Ss)
  | for_ (g : G) (it : It) (body : Ss)
  | whl (c : T) (body : Ss)
  | app (i : Nat) (e : E)
  | ext (i : Nat) (e : E)
  | seti (i : Nat) (k e : E)
  | popTo (g : G) (i : Nat) (k : Eo)
  | drop (e : E)
  | brk | cont | pass
  | rais
  | upd (i : Nat) (e : E)
  | asgm (ts : List Tg) (es : Es)
inductive Ss where
  | nil | cons (s : Sm) (r : Ss) | frz (i : Nat) (r : Ss)
end
structure Ko where
  nx : Nv → Prop
  rt : D → Prop
  bk : Nv → Prop := fun _ => False
  ct : Nv → Prop := fun _ => False

def lookO (ρ : Nv) (i : Nat) : Option D := match ρ[i]? with
  | some (some (.own d)) => some d
  | _ => none
def lstD : D → Option (List D)
  | .list xs => some xs
  | _ => none
def setD : D → D → D → Option D
  | .list xs, .int i, x => (ixN xs.length i).map fun j => .list (xs.set j x)
  | .dict kvs, k, x => if isKey k && kindOk kvs k && decide (kvs.length < sizeLine) then some (.dict (dput kvs k x)) else none
  | _, _, _ => none
def popD (xs : List D) : Option Int → Option (D × List D)
  | none => xs.getLast?.map fun x => (x, xs.dropLast)
  | some i => if -(2 ^ 63) ≤ i ∧ i < 2 ^ 63 then (seqIndex? i xs.length).bind fun k => xs[k]?.map fun x => (x, xs.eraseIdx k) else none
def intOp : BOp → Int → Int → Option Int
  | .add, a, b => some (a + b)
  | .sub, a, b => some (a - b)
  | _, _, _ => none
def forW : List D → (D → Nv → (Nv → Prop) → Prop) → Nv → (Nv → Prop) → Prop
  | [], _, ρ, Q => Q ρ
  | d :: ds, st, ρ, Q => st d ρ fun ρ' => forW ds st ρ' Q
def whileW : Nat → (Nv → W Bool) → (Nv → (Nv → Prop) → Prop) → Nv → (Nv → Prop) → Prop
  | 0, _, _, _, _ => False
  | n + 1, c, b, ρ, Q => c ρ fun t => if t = true then b ρ fun ρ' => whileW n c b ρ' Q else Q ρ
/-- what stands side by side in an assignment -/
def parW (C : Calls) : List (Bool × Nat) → Es → Nv → W (List (Nat × B))
  | [], .nil, _ => fun Q => Q []
  | (o, i) :: is, .cons e r, ρ => fun Q => ev C e ρ fun x => (o = true → isL x = true) ∧ parW C is r ρ fun bs => Q ((i, if o = true then .own x else .sh x) :: bs)
  | _, _, _ => fun _ => False
def sets : Nv → List (Nat × B) → Nv
  | ρ, [] => ρ
  | ρ, (i, b) :: r => sets (ρ.set i (some b)) r

/-- the keys' hashes are apart (asked where a dict takes all of another and is empty) -/
def ApartD (ds : List D) : Prop := ∀ ks : List (List Key), ds = ks.map tkeyD → ∀ (P : Program) (w : World), (ks.map (tupleKind (mixKind P w)).hash).Nodup
def UpdOk (kvs ps : List (D × D)) : Prop := kvs.length + ps.length ≤ sizeLine ∧
  ((ps ≠ [] ∧ (kvs.all fun p => isTk p.1) = true ∧ (ps.all fun p => isTk p.1) = true ∧ (kvs ≠ [] ∨ ApartD (ps.map (·.1)))) ∨ ((kvs.all fun p => isKey1 p.1) = true ∧ (ps.all fun p => isKey1 p.1) = true) ∨ ps = [])
/-- values go to targets, one by one -/
def asgT (C : Calls) : List Tg → List D → Nv → (Nv → Prop) → Prop
  | [], [], ρ, Q => Q ρ
  | .sl i :: ts, d :: ds, ρ, Q => asgT C ts ds (ρ.set i (some (.sh d))) Q
  | .su i k :: ts, d :: ds, ρ, Q => lift (lookO ρ i) fun l => ev C k ρ fun y => lift (setD l y d) fun l' => asgT C ts ds (ρ.set i (some (.own l'))) Q
  | _, _, _, _ => False
mutual
def exec (C : Calls) : Sm → Nv → Ko → Prop
  | .set o i e, ρ, K => ev C e ρ fun x => if o = true then isL x = true ∧ K.nx (ρ.set i (some (.own x))) else K.nx (ρ.set i (some (.sh x)))
  | .asg g e, ρ, K => ev C e ρ fun x => lift (asg g x ρ) K.nx
  | .par is es, ρ, K => parW C is es ρ fun bs => K.nx (sets ρ bs)
  | .aug i op e, ρ, K => lift (look ρ i) fun x => ev C e ρ fun y => ∃ a b c, x = .int a ∧ y = .int b ∧ intOp op a b = some c ∧ K.nx (ρ.set i (some (.sh (.int c))))
  | .ret e, ρ, K => ev C e ρ K.rt
  | .retN, _, K => K.rt .none
  | .ite c a b, ρ, K => tst C c ρ fun t => if t = true then execs C a ρ K else execs C b ρ K
  | .for_ g it body, ρ, K => evi C false it ρ fun ds => forW ds (fun d ρ k => lift (asg g d ρ) fun ρ' => execs C body ρ' { K with nx := k, ct := k, bk := K.nx }) ρ K.nx
  | .whl c body, ρ, K => ∃ n, whileW n (tst C c) (fun ρ k => execs C body ρ { K with nx := k, ct := k, bk := K.nx }) ρ K.nx
  | .app i e, ρ, K => lift (lookO ρ i) fun l => lift (lstD l) fun xs => ev C e ρ fun x => xs.length < sizeLine ∧ K.nx (ρ.set i (some (.own (.list (xs ++ [x])))))
  | .ext i e, ρ, K => lift (lookO ρ i) fun l => lift (lstD l) fun xs => ev C e ρ fun x => lift (lstD x) fun ys => xs.length + ys.length ≤ sizeLine ∧ K.nx (ρ.set i (some (.own (.list (xs ++ ys)))))
  | .seti i k e, ρ, K => ev C e ρ fun x => lift (lookO ρ i) fun l => ev C k ρ fun y => lift (setD l y x) fun l' => K.nx (ρ.set i (some (.own l')))
  | .popTo g i k, ρ, K => lift (lookO ρ i) fun l => lift (lstD l) fun xs => evo C k ρ fun o => lift (popD xs o) fun p => lift (asg g p.1 (ρ.set i (some (.own (.list p.2))))) K.nx
  | .drop e, ρ, K => ev C e ρ fun _ => K.nx ρ
  | .brk, ρ, K => K.bk ρ
  | .cont, ρ, K => K.ct ρ
  | .pass, ρ, K => K.nx ρ
  | .rais, _, _ => False
  | .upd i e, ρ, K => ∃ kvs, lookO ρ i = some (.dict kvs) ∧ ev C e ρ fun x => ∃ ps, x = .dict ps ∧ UpdOk kvs ps ∧ K.nx (ρ.set i (some (.own (.dict (dputs kvs ps)))))
  | .asgm ts es, ρ, K => evs C es ρ fun ds => ds.length = ts.length ∧ asgT C ts ds ρ K.nx
def execs (C : Calls) : Ss → Nv → Ko → Prop
  | .nil, ρ, K => K.nx ρ
  | .cons s r, ρ, K => exec C s ρ { K with nx := fun ρ' => execs C r ρ' K }
  | .frz i r, ρ, K => execs C r (match ρ[i]? with
      | some (some (.own d)) => ρ.set i (some (.sh d))
      | _ => ρ) K
end

/-! ### the check -/
def isComp : PySem.Expr → Bool
  | .ListComp .. => true | .SetComp .. => true | .DictComp .. => true | _ => false
def notLck : E → Bool
  | .lck .. => false
  | .dc .. => false
  | _ => true
/-- is the name stored within the comprehension? -/
def swB (sc : Scope) (v : PySem.Expr) (x : Str) (p : Pos) : Bool := match v with
  | .ListComp _ _ s _ | .SetComp _ _ s _ | .DictComp _ _ _ s _ => sc.names.lookup x == some .local && p.line == v.pos.line && !(s.names.any fun (n, k) => n == x && (k == .local || k == .cell))
  | _ => false
/-- are the stores of a, b = x, y swapped ones? none: not known to the model -/
def swS (sc : Scope) (ts vs : List PySem.Expr) : Option (Option (List Str)) :=
  if !(ts.length == 2 || ts.length == 3) || vs.length != ts.length then some none
  else if vs.any (fun | .Starred .. => true | _ => false) then some none
  else
    let line := (ts.head?.map (·.pos.line)).getD 0
    let names := ts.filterMap fun
      | .Name id pos => if sc.names.lookup id == some .local && pos.line == line then some id else none
      | _ => none
    if names.length != ts.length || names.eraseDups.length != names.length then some none
    else if vs.all (foldedForSure 8) then some none
    else if vs.all (constantsAlone 8) then none
    else some (some names)
def isTuple : PySem.Expr → Bool
  | .Tuple .. => true | _ => false
def notNameT : PySem.Expr → Bool
  | .Name .. => false | _ => true
def parFr : List (Bool × Nat) → Es → Bool
  | [], .nil => true
  | (o, _) :: is, .cons e r => (!o || frE e) && parFr is r
  | _, _ => false
def isLoc (sc : Scope) : PySem.Expr → Bool
  | .Name x _ => decide (sc.names.lookup x = some .local)
  | _ => false
def tsNames : List PySem.Expr → List Str
  | .Name x _ :: r => x :: tsNames r
  | _ => []
def chkNames (N : List Str) (sc : Scope) : List (Bool × Nat) → List PySem.Expr → Bool
  | [], [] => true
  | (_, i) :: is, .Name x _ :: es => decide (N[i]? = some x) && locB sc x && chkNames N sc is es
  | _, _ => false
section
variable (N : List Str) (tb : List (Str × Nat)) (sc : Scope)
def chkTgs : List Tg → List PySem.Expr → Bool
  | [], xs => xs.isEmpty
  | .sl i :: ts, xs => (match xs with
    | .Name x _ :: xs => decide (N[i]? = some x) && locB sc x && chkTgs ts xs
    | _ => false)
  | .su i k :: ts, xs => (match xs with
    | .Subscript (.Name x _) y _ :: xs => varOk N sc i x && notSlice y && chkE N tb k sc y && chkTgs ts xs
    | _ => false)
mutual
def chkS : Sm → PySem.Stmt → Bool
  | .set o i e, z => (match z with
    | .Assign [.Name x p] v _ => decide (N[i]? = some x) && locB sc x && chkX N tb e sc v && (!o || frE e) && (notLck e || !(swB sc v x p))
    | _ => false)
  | .asg g e, z => (match z with
    | .Assign [t] v _ => notNameT t && chkG N sc (fun _ => true) g t && chkE N tb e sc v && !(isTuple v)
    | _ => false)
  | .par is es, z => (match z with
    | .Assign [.Tuple ts _ _] (.Tuple vs _ _) _ => chkNames N sc is ts && chkEs N tb es sc vs && vs.all notStar && parFr is es && decide ((is.map (·.2)).Nodup) && decide (is.length ≤ 64) && (match swS sc ts vs with
        | some none => true
        | some (some ns) => (decide (ts.length = 2) || decide (ts.length = 3)) && ts.all (isLoc sc) && decide (ns = tsNames ts)
        | none => false)
    | _ => false)
  | .aug i op e, z => (match z with
    | .AugAssign (.Name x _) o v _ => decide (N[i]? = some x) && locB sc x && decide (bopF op = o) && chkE N tb e sc v
    | _ => false)
  | .ret e, z => (match z with
    | .Return (some v) _ => chkX N tb e sc v
    | _ => false)
  | .retN, z => (match z with
    | .Return none _ => true
    | _ => false)
  | .ite c a b, z => (match z with
    | .If t x y _ => chkT N tb c sc t && chkSs a x && chkSs b y
    | _ => false)
  | .for_ g it body, z => (match z with
    | .For tg iter b [] _ => chkG N sc (fun _ => true) g tg && chkIt N tb (isTup tg) it sc iter && chkSs body b
    | _ => false)
  | .whl c body, z => (match z with
    | .While t b [] _ => chkT N tb c sc t && chkSs body b
    | _ => false)
  | .app i e, z => (match z with
    | .Expr (.Call (.Attribute (.Name x _) m ap) [v] [] cp) _ => varOk N sc i x && decide (m = ("append" : Str)) && (ap.endLine == cp.line) && notStar v && chkE N tb e sc v
    | _ => false)
  | .ext i e, z => (match z with
    | .Expr (.Call (.Attribute (.Name x _) m ap) [v] [] cp) _ => varOk N sc i x && decide (m = ("extend" : Str)) && (ap.endLine == cp.line) && notStar v && chkE N tb e sc v
    | _ => false)
  | .seti i k e, z => (match z with
    | .Assign [.Subscript (.Name x _) y _] v _ => varOk N sc i x && notSlice y && chkE N tb k sc y && chkE N tb e sc v
    | _ => false)
  | .popTo g i k, z => (match z with
    | .Assign [t] (.Call (.Attribute (.Name x _) m ap) as [] cp) _ => chkG N sc (fun _ => true) g t && varOk N sc i x && decide (m = ("pop" : Str)) && (ap.endLine == cp.line) && (match k, as with
        | .no, [] => true
        | .yes k, [v] => notStar v && chkE N tb k sc v
        | _, _ => false)
    | _ => false)
  | .drop e, z => (match z with
    | .Expr v _ => chkE N tb e sc v && !(isComp v)
    | _ => false)
  | .brk, z => (match z with
    | .Break _ => true
    | _ => false)
  | .cont, z => (match z with
    | .Continue _ => true
    | _ => false)
  | .pass, z => (match z with
    | .Pass _ => true
    | _ => false)
  | .rais, _ => true
  | .upd i e, z => (match z with
    | .Expr (.Call (.Attribute (.Name x _) m ap) [v] [] cp) _ => varOk N sc i x && decide (m = ("update" : Str)) && (ap.endLine == cp.line) && notStar v && chkE N tb e sc v
    | _ => false)
  | .asgm ts es, z => (match z with
    | .Assign [.Tuple xs _ _] (.Tuple vs _ _) _ => chkTgs N tb sc ts xs && chkEs N tb es sc vs && decide (ts.length ≤ 64) && (match swS sc xs vs with
        | some none => true
        | _ => false)
    | _ => false)
def chkSs : Ss → List PySem.Stmt → Bool
  | .nil, z => z.isEmpty
  | .cons s r, z => (match z with
    | x :: xs => chkS s x && chkSs r xs
    | [] => false)
  | .frz i r, z => chkSs r z
end
end
/-- is anything sorted by a lambda? -/
def isK : E → Bool
  | .srt .. => true
  | _ => false
mutual
def srtS : Sm → Bool
  | .set _ _ e => isK e
  | .ret e => isK e
  | .ite _ a b => srtSs a || srtSs b
  | .for_ _ _ b => srtSs b
  | .whl _ b => srtSs b
  | _ => false
def srtSs : Ss → Bool
  | .nil => false
  | .cons s r => srtS s || srtSs r
  | .frz _ r => srtSs r
end
end
set_option maxHeartbeats 2000000
/-! PDp: statements are as their compact forms say. -/
section
open PySem L2
variable [Tb]

/-- what a text may change -/
def Ch (S : Src) (ρ : Nv) (σ : L2.St) : Zn := fun a => S.dom a ∨ OwnAt ρ σ a
structure Stp (S : Src) (ρ : Nv) (σ : L2.St) (H : Hp) (ρ' : Nv) (σ' : L2.St) (H' : Hp) : Prop where
  ext : Ext (Ch S ρ σ) H H'
  own : ∀ a, OwnAt ρ' σ' a → OwnAt ρ σ a ∨ H a = none
  inv : S.inv H'
section
variable {S : Src} {P : Zn} {ρ ρ1 ρ2 : Nv} {σ σ1 σ2 : L2.St} {H H1 H2 : Hp}
theorem Rel.stp (R : Rel S P ρ σ H) : Stp S ρ σ H ρ σ H := ⟨Ext.refl, fun _ z => .inl z, R.inv⟩
theorem Stp.back (i : S.inv H1) (e : Ext (Ch S ρ σ) H H1) {a : Addr} (n : H1 a = none) : OwnAt ρ σ a ∨ H a = none := by
  cases h : H a with
  | none => exact .inr rfl
  | some o =>
    by_cases c : Ch S ρ σ a
    · rcases c with c | c
      · obtain ⟨o', h', _⟩ := (S.fit H1 i).dom a c
        rw [n] at h'; cases h'
      · exact .inl c
    · have := e a o h c
      rw [n] at this; cases this
theorem Stp.trans (a : Stp S ρ σ H ρ1 σ1 H1) (b : Stp S ρ1 σ1 H1 ρ2 σ2 H2) : Stp S ρ σ H ρ2 σ2 H2 where
  ext := fun x o e n => b.ext x o (a.ext x o e n) fun z => z.elim (fun z => n (.inl z)) fun z => (a.own x z).elim (fun z => n (.inr z)) fun z => by rw [e] at z; cases z
  own := fun x z => (b.own x z).elim (a.own x) fun z => Stp.back a.inv a.ext z
  inv := b.inv
theorem Stp.exp (e : Ext S.dom H H1) (i : S.inv H1) : Stp S ρ σ H ρ σ H1 := ⟨e.mono fun _ z => .inl z, fun _ z => .inl z, i⟩

/-- what is wanted behind a statement -/
structure FinS (S : Src) (P : Zn) (ρ : Nv) (σ : L2.St) (H : Hp) (K : Ko) (D : Ends) : Prop where
  nx : ∀ ρ' σ' H', K.nx ρ' → Rel S P ρ' σ' H' → Stp S ρ σ H ρ' σ' H' → D.nx σ' H'
  rt : ∀ d v H', K.rt d → Ext (Ch S ρ σ) H H' → S.inv H' → Rp P H' v d → D.rt v H'
  bk : ∀ ρ' σ' H', K.bk ρ' → Rel S P ρ' σ' H' → Stp S ρ σ H ρ' σ' H' → D.bk σ' H'
  ct : ∀ ρ' σ' H', K.ct ρ' → Rel S P ρ' σ' H' → Stp S ρ σ H ρ' σ' H' → D.ct σ' H'
theorem FinS.on {K : Ko} {D : Ends} (f : FinS S P ρ σ H K D) (s : Stp S ρ σ H ρ1 σ1 H1) : FinS S P ρ1 σ1 H1 K D where
  nx := fun ρ' σ' H' k r t => f.nx ρ' σ' H' k r (s.trans t)
  rt := fun d v H' k e i r => f.rt d v H' k (fun x o h n => e x o (s.ext x o h n) fun z => z.elim (fun z => n (.inl z)) fun z => (s.own x z).elim (fun z => n (.inr z)) fun z => by rw [h] at z; cases z) i r
  bk := fun ρ' σ' H' k r t => f.bk ρ' σ' H' k r (s.trans t)
  ct := fun ρ' σ' H' k r t => f.ct ρ' σ' H' k r (s.trans t)
def tS (C : Calls) (s : Sm) : TS := fun D σ H => ∃ S P ρ K, Rel S P ρ σ H ∧ exec C s ρ K ∧ FinS S P ρ σ H K D
def tSs (C : Calls) (s : Ss) : TS := fun D σ H => ∃ S P ρ K, Rel S P ρ σ H ∧ execs C s ρ K ∧ FinS S P ρ σ H K D

/-! own slots -/
theorem own_setO {i : Nat} {d : D} {p a : Addr} (h : OwnAt (ρ.set i (some (.own d))) (σ.set i (some (.ref p))) a) : a = p ∨ ∃ (j : Nat) (e : D), j ≠ i ∧ ρ[j]? = some (some (.own e)) ∧ σ[j]? = some (some (.ref a)) := by
  obtain ⟨j, e, h1, h2⟩ := h
  by_cases hj : i = j
  · subst hj
    left
    by_cases hl : i < σ.length
    · rw [List.getElem?_set_self hl] at h2; cases h2; rfl
    · rw [List.getElem?_eq_none (by simpa using hl)] at h2; cases h2
  · rw [List.getElem?_set_ne hj] at h1 h2
    exact .inr ⟨j, e, Ne.symm hj, h1, h2⟩
theorem set_get {α : Type} {l : List (Option α)} {i j : Nat} {x y : α} (h : (l.set i (some x))[j]? = some (some y)) : (i = j ∧ x = y ∧ i < l.length) ∨ (i ≠ j ∧ l[j]? = some (some y)) := by
  by_cases hj : i = j
  · subst hj
    by_cases hl : i < l.length
    · rw [List.getElem?_set_self hl] at h; cases h; exact .inl ⟨rfl, rfl, hl⟩
    · rw [List.getElem?_eq_none (by simpa using hl)] at h; cases h
  · rw [List.getElem?_set_ne hj] at h; exact .inr ⟨hj, h⟩
/-- a slot given data of its own: at p, new since H, or the slot's own object that has changed -/
theorem Rel.setO (R : Rel S P ρ σ H) {i : Nat} {p : Addr} {d : D} (hp : H p = none ∨ ∃ e, ρ[i]? = some (some (.own e)) ∧ σ[i]? = some (some (.ref p))) (e : Ext (fun a => S.dom a ∨ a = p) H H1) (inv : S.inv H1) (fp : Fit P H1)
    (l : isL d = true) (rb : RpB (fun a => Nn P ρ σ a ∨ a = p) H1 (.ref p) d) : Rel S P (ρ.set i (some (.own d))) (σ.set i (some (.ref p))) H1 := by
  have nPp : ¬ P p := fun z => by
    rcases hp with hp | ⟨e, h1, h2⟩
    · obtain ⟨o, ho, _⟩ := R.fitP.dom p z
      rw [hp] at ho; cases ho
    · obtain ⟨a, q, _, _, n⟩ := R.own i e h1
      rw [h2] at q; cases q
      exact n z
  have hN : ∀ a, Nn P (ρ.set i (some (.own d))) (σ.set i (some (.ref p))) a → Nn P ρ σ a ∨ a = p := fun a z => by
    rcases z with z | z
    · exact .inl (.inl z)
    · rcases own_setO z with z | ⟨j, e, _, h1, h2⟩
      · exact .inr z
      · exact .inl (.inr ⟨j, e, h1, h2⟩)
  have hpN : Nn P ρ σ p ∨ H p = none := by
    rcases hp with hp | ⟨e, h1, h2⟩
    · exact .inr hp
    · exact .inl (.inr ⟨i, e, h1, h2⟩)
  have hN2 : ∀ a, Nn P (ρ.set i (some (.own d))) (σ.set i (some (.ref p))) a → Nn P ρ σ a ∨ H a = none := fun a z => (hN a z).elim .inl fun z => z ▸ hpN
  have eN : Ext (Nn P ρ σ) H H1 := fun a o h n => by
    refine e a o h fun z => ?_
    rcases z with z | z
    · exact n (.inl (R.sub a z))
    · subst z
      exact hpN.elim n fun z => by rw [h] at z; cases z
  have other : ∀ (j : Nat) (f : D), j ≠ i → ρ[j]? = some (some (.own f)) → ∀ a, σ[j]? = some (some (.ref a)) → a ≠ p := fun j f hj h1 a h2 z => by
    subst z
    rcases hp with hp | ⟨e, h3, h4⟩
    · obtain ⟨b, q, l', r, _⟩ := R.own j f h1
      rw [h2] at q; cases q
      obtain ⟨o, ho, _⟩ := r.list_at l'
      rw [hp] at ho; cases ho
    · exact hj (R.dis j i f e a h1 h3 h2 h4)
  refine ⟨by simp [R.len], R.sub, fp, inv, fun j f h => ?_, fun j f h => ?_, fun j k f g a h1 h2 h3 h4 => ?_, fun j h => ?_⟩
  · rcases set_get h with ⟨_, q, _⟩ | ⟨hj, h⟩
    · cases q
    · obtain ⟨v, q, r⟩ := R.sh j f h
      exact ⟨v, by rw [List.getElem?_set_ne hj]; exact q, r.move eN R.fit hN2⟩
  · rcases set_get h with ⟨rfl, q, hl⟩ | ⟨hj, h⟩
    · cases q
      exact ⟨p, by rw [List.getElem?_set_self (by rw [← R.len]; exact hl)], l, rb.less hN, nPp⟩
    · obtain ⟨a, q, l', r, n⟩ := R.own j f h
      have hap := other j f (Ne.symm hj) h a q
      exact ⟨a, by rw [List.getElem?_set_ne hj]; exact q, l', r.move eN R.fit hN2 (fun b o eb hb => by cases eb; exact e _ o hb fun z => z.elim (fun z => n (R.sub _ z)) hap), n⟩
  · rcases set_get h1 with ⟨rfl, _, hl⟩ | ⟨hj, h1⟩
    · rcases set_get h2 with ⟨rfl, _, _⟩ | ⟨hk, h2⟩
      · rfl
      · rw [List.getElem?_set_self (by rw [← R.len]; exact hl)] at h3; cases h3
        rw [List.getElem?_set_ne hk] at h4
        exact absurd rfl (other k g (Ne.symm hk) h2 _ h4)
    · rw [List.getElem?_set_ne hj] at h3
      rcases set_get h2 with ⟨rfl, _, hl⟩ | ⟨hk, h2⟩
      · rw [List.getElem?_set_self (by rw [← R.len]; exact hl)] at h4; cases h4
        exact absurd rfl (other j f (Ne.symm hj) h1 _ h3)
      · rw [List.getElem?_set_ne hk] at h4
        exact R.dis j k f g a h1 h2 h3 h4
  · rcases set_get h with ⟨_, q, _⟩ | ⟨hj, h⟩
    · cases q
    · rw [List.getElem?_set_ne hj]; exact R.src j h
theorem Fit.upd' {p : Addr} {o : HO} (f : Fit P H) (m : Mut (some o)) : Fit P (upd H p o) := ⟨fun a z => by
  by_cases h : a = p
  · exact ⟨o, by rw [h]; exact upd_same, .of m⟩
  · obtain ⟨q, h1, h2⟩ := f.dom a z
    exact ⟨q, by rw [upd_ne h]; exact h1, h2⟩⟩
/-- a slot's own data becomes anybody's -/
theorem Rel.frz (R : Rel S P ρ σ H) (i : Nat) {d : D} (h : ρ[i]? = some (some (.own d))) : Rel S P (ρ.set i (some (.sh d))) σ H ∧ ∀ a, OwnAt (ρ.set i (some (.sh d))) σ a → OwnAt ρ σ a := by
  obtain ⟨p, hp, l, rb, nP⟩ := R.own i d h
  have hl : i < ρ.length := by
    rcases Nat.lt_or_ge i ρ.length with q | q
    · exact q
    · rw [List.getElem?_eq_none q] at h; cases h
  have key : ∀ (j : Nat) (e : D), (ρ.set i (some (.sh d)))[j]? = some (some (.own e)) → i ≠ j ∧ ρ[j]? = some (some (.own e)) := fun j e q => by
    rcases set_get q with ⟨_, q, _⟩ | q
    · cases q
    · exact q
  have hO : ∀ a, OwnAt (ρ.set i (some (.sh d))) σ a → OwnAt ρ σ a := fun a ⟨j, e, h1, h2⟩ => ⟨j, e, (key j e h1).2, h2⟩
  have hN : ∀ a, Nn P (ρ.set i (some (.sh d))) σ a → Nn P ρ σ a := fun a z => z.elim .inl fun z => .inr (hO a z)
  have np : ¬ Nn P (ρ.set i (some (.sh d))) σ p := fun z => by
    rcases z with z | ⟨j, e, h1, h2⟩
    · exact nP z
    · obtain ⟨hj, h3⟩ := key j e h1
      exact hj (R.dis i j d e p h h3 hp h2)
  refine ⟨⟨by simp [R.len], R.sub, R.fitP, R.inv, fun j e q => ?_, fun j e q => ?_, fun j k e f a h1 h2 h3 h4 => R.dis j k e f a (key j e h1).2 (key k f h2).2 h3 h4, fun j q => ?_⟩, hO⟩
  · rcases set_get q with ⟨rfl, q, _⟩ | ⟨_, q⟩
    · cases q
      refine ⟨.ref p, hp, ?_⟩
      cases rb with
      | of r => exact r.less hN
      | lst q1 r => exact .lst np q1 (r.less hN)
      | dK q1 r => exact .dK np q1 (r.less hN)
      | dT z q1 r => exact .dT np z q1 (r.less hN)
    · obtain ⟨v, q1, r⟩ := R.sh j e q
      exact ⟨v, q1, r.less hN⟩
  · obtain ⟨a, q1, l', r, n⟩ := R.own j e (key j e q).2
    exact ⟨a, q1, l', r.less hN, n⟩
  · rcases set_get q with ⟨_, q, _⟩ | ⟨_, q⟩
    · cases q
    · exact R.src j q
end
end
set_option maxHeartbeats 2000000
/-! PDq: single statements. -/
section
open PySem L2
variable [Tb]
theorem PS.weak {X : Cx} {x : PySem.Stmt} {t t' : TS} (h : PS X x t) (w : ∀ D σ H, t' D σ H → t D σ H) : PS X x t' := ⟨fun pins s σ H D I q => h.run pins s σ H D I (w D σ H q)⟩
theorem PSs.weak {X : Cx} {x : List PySem.Stmt} {t t' : TS} (h : PSs X x t) (w : ∀ D σ H, t' D σ H → t D σ H) : PSs X x t' := ⟨fun pins s σ H D I q => h.run pins s σ H D I (w D σ H q)⟩
section
variable {C : Calls} {X : Cx} {tb : List (Str × Nat)} {D : Ends} {σ : L2.St} {H : Hp}
theorem Rel.stpSet {S : Src} {P : Zn} {ρ : Nv} {H1 : Hp} (e : Ext S.dom H H1) (i1 : S.inv H1) {i : Nat} {v : V} {d : PD.D} : Stp S ρ σ H (ρ.set i (some (.sh d))) (σ.set i (some v)) H1 :=
  ⟨e.mono fun _ z => .inl z, fun _ z => .inl (own_set z), i1⟩
theorem w_set {o : Bool} {i : Nat} {e : E} (ho : o = true → frE e = true) (h : tS C (.set o i e) D σ H) : tAsg (tE C e) (gName i) D σ H := by
  obtain ⟨S, P, ρ, K, R, h, f⟩ := h
  refine ⟨S, P, ρ, _, R, h, fun d hd v H1 e1 i1 r1 fs => ?_⟩
  have R1 := R.ext e1 i1
  show D.nx (σ.set i (some v)) H1
  cases o with
  | false =>
    simp only [Bool.false_eq_true, if_false] at hd
    exact f.nx _ _ _ hd (R1.set i r1) (Rel.stpSet (P := P) e1 i1)
  | true =>
    simp only [if_true] at hd
    obtain ⟨hl, hk⟩ := hd
    obtain ⟨p, rfl, np, rb⟩ := fs (ho rfl) hl
    refine f.nx _ _ _ hk (R.setO (.inl np) (e1.mono fun _ z => .inl z) i1 R1.fitP hl rb) ⟨e1.mono fun _ z => .inl z, fun a z => ?_, i1⟩
    rcases own_setO z with z | ⟨j, g, _, h1, h2⟩
    · exact .inr (z ▸ np)
    · exact .inl ⟨j, g, h1, h2⟩
theorem w_asg {g : G} {e : E} (h : tS C (.asg g e) D σ H) : tAsg (tE C e) (tG g) D σ H := by
  obtain ⟨S, P, ρ, K, R, h, f⟩ := h
  refine ⟨S, P, ρ, _, R, h, fun d hd v H1 e1 i1 r1 fs => ?_⟩
  obtain ⟨ρ', ea, hk⟩ := hd
  have R1 := R.ext e1 i1
  refine ⟨S, P, ρ, d, ρ', R1, r1, ea, fun σ' R2 st n2 => f.nx _ _ _ hk R2 ⟨e1.mono fun _ z => .inl z, fun a z => ?_, i1⟩⟩
  rcases n2 a (.inr z) with q | q
  · obtain ⟨j, d', h1, h2⟩ := z
    obtain ⟨b, q1, _, _, n⟩ := R2.own j d' h1
    rw [h2] at q1; cases q1
    exact absurd q n
  · exact .inl q
theorem w_ret {e : E} (h : tS C (.ret e) D σ H) : tRet (tE C e) D σ H := by
  obtain ⟨S, P, ρ, K, R, h, f⟩ := h
  exact ⟨S, P, ρ, _, R, h, fun d hd v H1 e1 i1 r1 _ => f.rt d v H1 hd (e1.mono fun _ z => .inl z) i1 (r1.less fun _ z => .inl z)⟩
theorem w_retN (h : tS C .retN D σ H) : tRetN D σ H := by
  obtain ⟨S, P, ρ, K, R, h, f⟩ := h
  exact f.rt _ _ H h Ext.refl R.inv .non
theorem w_ite {c : T} {a b : Ss} (h : tS C (.ite c a b) D σ H) : tIfS (tT C c) (tSs C a) (tSs C b) D σ H := by
  obtain ⟨S, P, ρ, K, R, h, f⟩ := h
  refine ⟨S, P, ρ, _, R, h, fun t ht H1 e1 i1 => ?_⟩
  cases t with
  | true =>
    simp only [if_true] at ht ⊢
    exact ⟨S, P, ρ, K, R.ext e1 i1, ht, f.on (Stp.exp e1 i1)⟩
  | false =>
    simp only [Bool.false_eq_true, if_false] at ht ⊢
    exact ⟨S, P, ρ, K, R.ext e1 i1, ht, f.on (Stp.exp e1 i1)⟩
theorem w_drop {e : E} (h : tS C (.drop e) D σ H) : tDrop (tE C e) D σ H := by
  obtain ⟨S, P, ρ, K, R, h, f⟩ := h
  exact ⟨S, P, ρ, _, R, h, fun d hd v H1 e1 i1 r1 _ => f.nx _ _ _ hd (R.ext e1 i1) (Stp.exp e1 i1)⟩
theorem w_for {g : G} {it : PD.It} {b : Ss} (h : tS C (.for_ g it b) D σ H) : tFor (tI C false it) (tG g) (tSs C b) D σ H := by
  obtain ⟨S, P, ρ, K, R, h, f⟩ := h
  refine ⟨S, P, ρ, _, R, h, fun ds hds J H1 e1 i1 w => ?_⟩
  have R1 := R.ext e1 i1
  have f1 := f.on (Stp.exp e1 i1)
  simp only [Bool.false_eq_true, if_false] at w
  refine ⟨fun i m σ' H' => i ≤ ds.length ∧ m = ds.length - i ∧ ∃ ρ', Rel S P ρ' σ' H' ∧ Stp S ρ σ H1 ρ' σ' H' ∧
    forW (ds.drop i) (fun d ρ k => lift (asg g d ρ) fun ρ' => execs C b ρ' { K with nx := k, ct := k, bk := K.nx }) ρ' K.nx, ⟨ds.length, Nat.zero_le _, rfl, ρ, R1, R1.stp, by simpa using hds⟩, ?_⟩
  rintro i m σ2 H2 ⟨hi, rfl, ρ2, R2, st, hw⟩
  have eN : Ext (Nn P ρ σ) H1 H2 := st.ext.mono fun a z => z.elim (fun z => .inl (R.sub a z)) .inr
  by_cases hlt : i < ds.length
  · right
    have hgd : ds[i]? = some ds[i] := List.getElem?_eq_getElem hlt
    refine ⟨w.go i H2 _ eN hgd, fun σ' H' => ∃ m', m' < ds.length - i ∧ i + 1 ≤ ds.length ∧ m' = ds.length - (i + 1) ∧ ∃ ρ', Rel S P ρ' σ' H' ∧ Stp S ρ σ H1 ρ' σ' H' ∧
      forW (ds.drop (i + 1)) (fun d ρ k => lift (asg g d ρ) fun ρ' => execs C b ρ' { K with nx := k, ct := k, bk := K.nx }) ρ' K.nx, fun σ' H' z => z, fun v H3 hy => ?_⟩
    obtain ⟨e3, hrp⟩ := w.yld i H2 _ v H3 eN hgd hy
    have R3 := R2.ext0 e3
    rw [List.drop_eq_getElem_cons hlt] at hw
    obtain ⟨ρ3, ea, hw⟩ := hw
    have s3 : Stp S ρ2 σ2 H2 ρ2 σ2 H3 := Stp.exp (e3.any _) R3.inv
    refine ⟨S, P, ρ2, ds[i], ρ3, R3, hrp _ (fun a z => ?_), ea, fun σ4 R4 _ n4 => ?_⟩
    · rcases z with z | z
      · exact .inl (.inl z)
      · exact (st.own a z).elim (fun z => .inl (.inr z)) .inr
    · have s4 : Stp S ρ2 σ2 H3 ρ3 σ4 H3 := ⟨Ext.refl, fun a z => by
        rcases n4 a (.inr z) with q | q
        · obtain ⟨j, d', h1, h2⟩ := z
          obtain ⟨b, q1, _, _, n⟩ := R4.own j d' h1
          rw [h2] at q1; cases q1
          exact absurd q n
        · exact .inl q, R4.inv⟩
      have s5 := (st.trans s3).trans s4
      refine ⟨S, P, ρ3, _, R4, hw, ?_⟩
      have f5 := f1.on s5
      have nxt : ∀ ρ' σ' H', forW (ds.drop (i + 1)) (fun d ρ k => lift (asg g d ρ) fun ρ' => execs C b ρ' { K with nx := k, ct := k, bk := K.nx }) ρ' K.nx → Rel S P ρ' σ' H' → Stp S ρ3 σ4 H3 ρ' σ' H' → _ := fun ρ' σ' H' k r t => (⟨ds.length - (i + 1), by omega, hlt, rfl, ρ', r, s5.trans t, k⟩ : ∃ m', m' < ds.length - i ∧ i + 1 ≤ ds.length ∧ m' = ds.length - (i + 1) ∧ ∃ ρ', Rel S P ρ' σ' H' ∧ Stp S ρ σ H1 ρ' σ' H' ∧
        forW (ds.drop (i + 1)) (fun d ρ k => lift (asg g d ρ) fun ρ' => execs C b ρ' { K with nx := k, ct := k, bk := K.nx }) ρ' K.nx)
      exact ⟨nxt, f5.rt, f5.nx, nxt⟩
  · left
    have hi' : i = ds.length := by omega
    subst hi'
    rw [List.drop_length] at hw
    exact ⟨w.stop _ H2 eN (Nat.le_refl _), f1.nx _ _ _ hw R2 st⟩
theorem w_whl {c : T} {b : Ss} (h : tS C (.whl c b) D σ H) : tWhile (tT C c) (tSs C b) D σ H := by
  obtain ⟨S, P, ρ, K, R, ⟨n, h⟩, f⟩ := h
  refine ⟨fun m σ' H' => ∃ ρ', Rel S P ρ' σ' H' ∧ Stp S ρ σ H ρ' σ' H' ∧ whileW m (tst C c) (fun ρ k => execs C b ρ { K with nx := k, ct := k, bk := K.nx }) ρ' K.nx, ⟨n, ρ, R, R.stp, h⟩, ?_⟩
  rintro m σ2 H2 ⟨ρ2, R2, st, hw⟩
  cases m with
  | zero => cases hw
  | succ m =>
    refine ⟨S, P, ρ2, _, R2, hw, fun t ht H3 e3 i3 => ?_⟩
    have s3 := st.trans (Stp.exp e3 i3)
    have R3 := R2.ext e3 i3
    have f3 := f.on s3
    cases t with
    | false =>
      simp only [Bool.false_eq_true, if_false] at ht ⊢
      exact f3.nx _ _ _ ht R3 R3.stp
    | true =>
      simp only [if_true] at ht ⊢
      refine ⟨fun σ' H' => ∃ m', m' < m + 1 ∧ ∃ ρ', Rel S P ρ' σ' H' ∧ Stp S ρ σ H ρ' σ' H' ∧ whileW m' (tst C c) (fun ρ k => execs C b ρ { K with nx := k, ct := k, bk := K.nx }) ρ' K.nx, fun σ' H' z => z, S, P, ρ2, _, R3, ht, ?_⟩
      have nxt : ∀ ρ' σ' H', whileW m (tst C c) (fun ρ k => execs C b ρ { K with nx := k, ct := k, bk := K.nx }) ρ' K.nx → Rel S P ρ' σ' H' → Stp S ρ2 σ2 H3 ρ' σ' H' → ∃ m', m' < m + 1 ∧ ∃ ρ', Rel S P ρ' σ' H' ∧ Stp S ρ σ H ρ' σ' H' ∧ whileW m' (tst C c) (fun ρ k => execs C b ρ { K with nx := k, ct := k, bk := K.nx }) ρ' K.nx :=
        fun ρ' σ' H' k r t => ⟨m, by omega, ρ', r, s3.trans t, k⟩
      exact ⟨nxt, f3.rt, f3.nx, nxt⟩
theorem w_cons {s : Sm} {r : Ss} (h : tSs C (.cons s r) D σ H) : tSeq (tS C s) (tSs C r) D σ H := by
  obtain ⟨S, P, ρ, K, R, h, f⟩ := h
  exact ⟨S, P, ρ, _, R, h, ⟨fun ρ' σ' H' k r t => ⟨S, P, ρ', K, r, k, f.on t⟩, f.rt, f.bk, f.ct⟩⟩
theorem w_frz {i : Nat} {r : Ss} (h : tSs C (.frz i r) D σ H) : tSs C r D σ H := by
  obtain ⟨S, P, ρ, K, R, h, f⟩ := h
  have h : execs C r (match ρ[i]? with
      | some (some (.own d)) => ρ.set i (some (.sh d))
      | _ => ρ) K := h
  split at h
  · rename_i d hd
    obtain ⟨R', hO⟩ := R.frz i hd
    exact ⟨S, P, _, K, R', h, f.on ⟨Ext.refl, fun a z => .inl (hO a z), R.inv⟩⟩
  · exact ⟨S, P, _, K, R, h, f⟩
end
end
set_option maxHeartbeats 2000000
/-! PDr: one's own lists and dicts are written. -/
section
open PySem L2
variable [Tb]
section
variable {S : Src} {P : Zn} {ρ : Nv} {σ : L2.St} {H : Hp}
theorem set_same {α : Type} : ∀ {l : List α} {i : Nat} {x : α}, l[i]? = some x → l.set i x = l
  | a :: l, 0, x, h => by cases h; rfl
  | a :: l, i + 1, x, h => by
    have : l[i]? = some x := by simpa using h
    simp [set_same this]
theorem Rel.write (R : Rel S P ρ σ H) {i : Nat} {e d : D} {a : Addr} {o : HO} (h1 : ρ[i]? = some (some (.own e))) (h2 : σ[i]? = some (some (.ref a))) (m : Mut (some o)) (l : isL d = true) (rb : RpB (Nn P ρ σ) (upd H a o) (.ref a) d) :
    Rel S P (ρ.set i (some (.own d))) σ (upd H a o) ∧ Stp S ρ σ H (ρ.set i (some (.own d))) σ (upd H a o) := by
  have nP : ¬ P a := by
    obtain ⟨b, q, _, _, n⟩ := R.own i e h1
    rw [h2] at q; cases q
    exact n
  have nD : ¬ S.dom a := fun z => nP (R.sub _ z)
  have inv : S.inv (upd H a o) := S.upd R.inv nD (by
    obtain ⟨b, q, _, r, _⟩ := R.own i e h1
    rw [h2] at q; cases q
    exact r.noExt)
  have ha : OwnAt ρ σ a := ⟨i, e, h1, h2⟩
  have es : σ.set i (some (.ref a)) = σ := set_same h2
  have ex : Ext (fun b => S.dom b ∨ b = a) H (upd H a o) := fun b q hb n => by rw [upd_ne (fun z => n (.inr z))]; exact hb
  have R' := R.setO (i := i) (p := a) (d := d) (H1 := upd H a o) (.inr ⟨e, h1, h2⟩) ex inv (Fit.upd' R.fitP m) l (rb.less fun b z => z.elim id fun z => z ▸ .inr ha)
  rw [es] at R'
  refine ⟨R', ex.mono fun b z => z.elim .inl fun z => z ▸ .inr ha, fun b z => ?_, inv⟩
  rw [← es] at z
  rcases own_setO z with z | ⟨j, g, _, h3, h4⟩
  · exact .inl (z ▸ ha)
  · exact .inl ⟨j, g, h3, h4⟩
theorem Rel.at_own (R : Rel S P ρ σ H) {i : Nat} {d : D} (h : lookO ρ i = some d) : ρ[i]? = some (some (.own d)) ∧ ∃ a, σ[i]? = some (some (.ref a)) ∧ RpB (Nn P ρ σ) H (.ref a) d ∧ ¬ P a := by
  unfold lookO at h
  split at h
  · rename_i d' hd
    cases h
    obtain ⟨a, q, _, r, n⟩ := R.own i _ hd
    exact ⟨hd, a, q, r, n⟩
  · cases h
theorem upd_ext (R : Rel S P ρ σ H) {i : Nat} {d : D} {a : Addr} {o : HO} (h1 : ρ[i]? = some (some (.own d))) (h2 : σ[i]? = some (some (.ref a))) : Ext (Nn P ρ σ) H (upd H a o) := fun b q hb n => by
  rw [upd_ne (fun z => n (.inr ⟨i, d, h1, by rw [z]; exact h2⟩))]; exact hb
theorem lstD_of {d : D} {xs : List D} (h : lstD d = some xs) : d = .list xs := by
  unfold lstD at h; split at h
  · cases h; rfl
  · cases h
end
section
variable {C : Calls} {X : Cx} {tb : List (Str × Nat)} {D : Ends} {σ : L2.St} {H : Hp}
theorem tyV_list {K : PySem.W.Frag} {a : Addr} {xs : List V} (h : H a = some (.lst xs)) : tyV K "list" (.ref a) H := .inl ⟨rfl, xs, SqL.of h⟩
theorem w_app {i : Nat} {e : E} (h : tS C (.app i e) D σ H) : tDrop (tBM X.K "list" rAppend (tVar i) (tCons (tE C e) tNil)) D σ H := by
  obtain ⟨S, P, ρ, K, R, ⟨l, hl, ds, hds, h⟩, f⟩ := h
  have := lstD_of hds; subst this
  obtain ⟨h1, a, h2, rb, nP⟩ := R.at_own hl
  obtain ⟨a', xs, ea, ha, ra⟩ := rb.list_of
  cases ea
  refine ⟨.ref a, h2, tyV_list ha, S, P, ρ, _, R, h, fun d hd v H1 e1 i1 r1 _ => ?_⟩
  have R1 := R.ext e1 i1
  obtain ⟨hlen, hk⟩ := hd
  have ha1 : H1 a = some (.lst xs) := e1 a _ ha fun z => nP (R.sub _ z)
  have ra1 := ra.ext (e1.mono R.domN) R.fit
  refine ⟨a, xs, v, rfl, rfl, ha1, by rw [ra.length]; exact hlen, ?_⟩
  have up := upd_ext (o := .lst (xs ++ [v])) R1 h1 h2
  obtain ⟨R2, st⟩ := R1.write (d := .list (ds ++ [d])) (o := .lst (xs ++ [v])) h1 h2 trivial rfl (.lst upd_same ((ra1.append (.cons r1 .nil)).ext up R1.fit))
  exact f.nx _ _ _ hk R2 ((Stp.exp e1 i1).trans st)
theorem w_ext {i : Nat} {e : E} (h : tS C (.ext i e) D σ H) : tDrop (tBM X.K "list" rExtend (tVar i) (tCons (tE C e) tNil)) D σ H := by
  obtain ⟨S, P, ρ, K, R, ⟨l, hl, ds, hds, h⟩, f⟩ := h
  have := lstD_of hds; subst this
  obtain ⟨h1, a, h2, rb, nP⟩ := R.at_own hl
  obtain ⟨a', xs, ea, ha, ra⟩ := rb.list_of
  cases ea
  refine ⟨.ref a, h2, tyV_list ha, S, P, ρ, _, R, h, fun d hd v H1 e1 i1 r1 _ => ?_⟩
  have R1 := R.ext e1 i1
  obtain ⟨es, hes, hlen, hk⟩ := hd
  have := lstD_of hes; subst this
  obtain ⟨b, ys, rfl, hb, rb'⟩ := (RpB.of r1).list_of
  have ha1 : H1 a = some (.lst xs) := e1 a _ ha fun z => nP (R.sub _ z)
  have ra1 := ra.ext (e1.mono R.domN) R.fit
  refine ⟨a, b, xs, ys, rfl, rfl, ha1, hb, by rw [ra.length, rb'.length]; exact hlen, ?_⟩
  have up := upd_ext (o := .lst (xs ++ ys)) R1 h1 h2
  obtain ⟨R2, st⟩ := R1.write (d := .list (ds ++ es)) (o := .lst (xs ++ ys)) h1 h2 trivial rfl (.lst upd_same ((ra1.append rb').ext up R1.fit))
  exact f.nx _ _ _ hk R2 ((Stp.exp e1 i1).trans st)
def tPop (X : Cx) (i : Nat) (C : Calls) (k : Eo) : TE := match k with
  | .no => tBM0 X.K "list" rPop (tVar i)
  | .yes k => tBM X.K "list" rPopAt (tVar i) (tCons (tE C k) tNil)
theorem w_pop {g : G} {i : Nat} {k : Eo} (h : tS C (.popTo g i k) D σ H) : tAsg (tPop X i C k) (tG g) D σ H := by
  obtain ⟨S, P, ρ, K, R, ⟨l, hl, ds, hds, h⟩, f⟩ := h
  have := lstD_of hds; subst this
  obtain ⟨h1, a, h2, rb, nP⟩ := R.at_own hl
  obtain ⟨a', xs, ea, ha, ra⟩ := rb.list_of
  cases ea
  have fin : ∀ (H1 : Hp) (e1 : Ext S.dom H H1) (i1 : S.inv H1) (v : V) (d : PD.D) (vs : List V) (es : List PD.D), Rp (Nn P ρ σ) H1 v d → RpAll (Nn P ρ σ) H1 vs es → lift (asg g d (ρ.set i (some (.own (.list es))))) K.nx → tG g v σ (upd H1 a (.lst vs)) D.nx := by
    intro H1 e1 i1 v d vs es rv rvs hk
    have R1 := R.ext e1 i1
    have up := upd_ext (o := .lst vs) R1 h1 h2
    obtain ⟨R2, st⟩ := R1.write (d := .list es) (o := .lst vs) h1 h2 trivial rfl (.lst upd_same (rvs.ext up R1.fit))
    obtain ⟨ρ', ea, hk⟩ := hk
    refine ⟨S, P, _, d, ρ', R2, ?_, ea, fun σ' R3 _ n3 => f.nx _ _ _ hk R3 (((Stp.exp e1 i1).trans st).trans ⟨Ext.refl, fun b z => ?_, R3.inv⟩)⟩
    · refine (rv.ext up R1.fit).less fun b z => z.elim .inl fun z => ?_
      obtain ⟨j, g', h3, h4⟩ := z
      rcases set_get h3 with ⟨rfl, _, _⟩ | ⟨_, h3⟩
      · exact .inr ⟨_, _, h1, h4⟩
      · exact .inr ⟨j, g', h3, h4⟩
    · rcases n3 b (.inr z) with q | q
      · obtain ⟨j, d', h3, h4⟩ := z
        obtain ⟨b', q1, _, _, n⟩ := R3.own j d' h3
        rw [h4] at q1; cases q1
        exact absurd q n
      · exact .inl q
  cases k with
  | no =>
    refine ⟨.ref a, h2, tyV_list ha, ?_⟩
    obtain ⟨⟨x, es⟩, hp, hk⟩ := h
    unfold popD at hp
    obtain ⟨y, hy, ep⟩ := Option.map_eq_some_iff.mp hp
    cases ep
    rw [List.getLast?_eq_getElem?] at hy
    obtain ⟨v, hv, rv⟩ := ra.get' hy
    refine ⟨a, xs, v, rfl, rfl, ha, by rw [ra.length]; exact hv, ?_⟩
    exact fin H Ext.refl R.inv v x _ _ rv ra.dropLast hk
  | yes k =>
    refine ⟨.ref a, h2, tyV_list ha, S, P, ρ, _, R, h, fun d hd v H1 e1 i1 r1 _ => ?_⟩
    obtain ⟨j, rfl, ⟨x, es⟩, hp, hk⟩ := hd
    cases (RpB.of r1).int_of
    unfold popD at hp
    simp only at hp
    split at hp
    · rename_i hr
      obtain ⟨n, hn, hp⟩ := Option.bind_eq_some_iff.mp hp
      obtain ⟨y, hy, ep⟩ := Option.map_eq_some_iff.mp hp
      cases ep
      have ra1 := ra.ext (e1.mono R.domN) R.fit
      obtain ⟨w, hw, rw'⟩ := ra1.get' hy
      refine ⟨a, xs, j, n, w, rfl, rfl, e1 a _ ha fun z => nP (R.sub _ z), hr.1, hr.2, by rw [ra.length]; exact hn, hw, ?_⟩
      exact fin H1 e1 i1 w x _ _ rw' (ra1.eraseIdx n) hk
    · cases hp
def tAg (op : BOp) : TIp := fun x y H Q => ∃ a b c, x = .int a ∧ y = .int b ∧ intOp op a b = some c ∧ Q (.int c) H
theorem ip_any (op : BOp) : PIp X (bopF op) (tAg op) := by
  intro pins s σ H x y v u Q I r1 r2 h
  obtain ⟨a, b, c, rfl, rfl, hc, q⟩ := h
  cases op <;> simp only [intOp] at hc <;> first | (exfalso; cases hc; done) | skip
  · cases hc; exact ip_add pins s σ H _ _ v u Q I r1 r2 ⟨a, b, rfl, rfl, q⟩
  · cases hc; exact ip_sub pins s σ H _ _ v u Q I r1 r2 ⟨a, b, rfl, rfl, q⟩
theorem w_aug {i : Nat} {op : BOp} {e : E} (h : tS C (.aug i op e) D σ H) : tAug i (tE C e) (tAg op) D σ H := by
  obtain ⟨S, P, ρ, K, R, ⟨x, hx, h⟩, f⟩ := h
  unfold look at hx
  split at hx
  · rename_i d hd
    cases hx
    obtain ⟨v, hv, rv⟩ := R.sh i _ hd
    refine ⟨v, hv, S, P, ρ, _, R, h, fun y ⟨a, b, c, e1, e2, hc, hk⟩ w H1 ex1 i1 r1 _ => ?_⟩
    subst e1 e2
    cases (RpB.of rv).int_of
    cases (RpB.of r1).int_of
    exact ⟨a, b, c, rfl, rfl, hc, f.nx _ _ _ hk ((R.ext ex1 i1).set i (.int c)) (Rel.stpSet (P := P) ex1 i1)⟩
  · cases hx
/-! d[k] = x, l[i] = x -/
def tSt : TSet := fun o y v H Q => ∃ N a l k x l', o = .ref a ∧ N a ∧ Fit N H ∧ RpB N H (.ref a) l ∧ RpB N H y k ∧ Rp N H v x ∧ setD l k x = some l' ∧ isL l' = true ∧ ∀ ob, Mut (some ob) → RpB N (upd H a ob) (.ref a) l' → Q (upd H a ob)
theorem set_any (hu : X.A.units + 64 < cLine) : PSet X tSt := by
  intro pins s σ H o y v ov iv u Q I ro ry rv h
  obtain ⟨N, a, l, k, x, l', rfl, na, f, rl, rk, rx, hs, hl', q⟩ := h
  have up : ∀ ob, Ext N H (upd H a ob) := fun ob b q hb n => by rw [upd_ne (fun z => n (by rw [z]; exact na))]; exact hb
  cases (show ov = Value.ref a from ro)
  unfold setD at hs
  split at hs
  · rename_i ds i
    obtain ⟨j, hj, rfl⟩ := Option.map_eq_some_iff.mp hs
    obtain ⟨a', xs, ea, ha, ra⟩ := rl.list_of
    cases ea
    cases rk.int_of
    refine set_list pins s σ H (.ref a) (.int i) v _ iv u Q I rfl ry rv ⟨a, xs, i, j, rfl, rfl, ha, by rw [ra.length]; exact hj, ?_⟩
    exact q _ trivial (.lst upd_same ((ra.set j rx).ext (up _) f))
  · split at hs
    · rename_i hc
      simp only [Bool.and_eq_true, decide_eq_true_eq] at hc
      obtain ⟨⟨k1, k2⟩, k3⟩ := hc
      cases hs
      obtain ⟨a', ea, ⟨ks, es, ha, r, rfl⟩ | ⟨ks, es, hne, ha, r, rfl⟩⟩ := rl.dict_of (nmK_of_kind k2)
      · cases ea
        have hl : ks.length = es.length := by simpa using r.length
        have hz : ks.length < sizeLine := by simp [List.length_zip, hl] at k3; omega
        rcases key_cases k1 with ⟨k, rfl⟩ | ⟨k, rfl⟩
        · obtain ⟨es', re, he⟩ := put_rp keyD keyD_eqv k rx r
          have hdp : DPut H a y v (upd H a (.dK (putK ks k v))) := by rw [Rp.key rk]; exact DPut.k ha hz
          refine d_setItem (by omega) I hdp ry rv fun s' I' => ⟨_, I', q _ trivial ?_⟩
          rw [he]
          exact .dK upd_same (re.ext (up _) f)
        · obtain rfl := kindOk_K hl k2
          cases r
          obtain ⟨b, rfl, hb⟩ := Rp.tkey rk
          have hne : b ≠ a := ne_of hb ha (by intro z; cases z)
          have hdp : DPut (upd H a (.dT [])) a (.ref b) v (upd (upd H a (.dT [])) a (.dT (putK [] k v))) := DPut.t upd_same (by rw [upd_ne hne]; exact hb) hz
          rw [upd_upd] at hdp
          obtain ⟨es', re, he⟩ := put_rp tkeyD tkeyD_eqv k rx (kvs := []) (ds := []) .nil
          refine d_setItem (by omega) (Inv.toT I ha) hdp ry rv fun s' I' => ⟨_, I', q _ trivial ?_⟩
          have he' : dput [] (tkeyD k) x = _ := he
          simp only [List.map_nil, List.zip_nil_right] at *
          rw [he']
          exact .dT putK_ne upd_same (re.ext (up _) f)
      · cases ea
        have hl : ks.length = es.length := by simpa using r.length
        have hz : ks.length < sizeLine := by simp [List.length_zip, hl] at k3; omega
        rcases key_cases k1 with ⟨k, rfl⟩ | ⟨k, rfl⟩
        · exact absurd (kindOk_T hl k2) hne
        · obtain ⟨b, rfl, hb⟩ := Rp.tkey rk
          obtain ⟨es', re, he⟩ := put_rp tkeyD tkeyD_eqv k rx r
          refine d_setItem (by omega) I (DPut.t ha hb hz) ry rv fun s' I' => ⟨_, I', q _ trivial ?_⟩
          rw [he]
          exact .dT putK_ne upd_same (re.ext (up _) f)
    · cases hs
  · cases hs
theorem w_seti {i : Nat} {k e : E} (h : tS C (.seti i k e) D σ H) : tAsg (tE C e) (gSub (tVar i) (tE C k) tSt) D σ H := by
  obtain ⟨S, P, ρ, K, R, h, f⟩ := h
  refine ⟨S, P, ρ, _, R, h, fun x ⟨l, hl, hd⟩ v H1 e1 i1 r1 _ => ?_⟩
  have R1 := R.ext e1 i1
  obtain ⟨h1, a, h2, rb, nP⟩ := R1.at_own hl
  refine ⟨.ref a, h2, S, P, ρ, _, R1, hd, fun y ⟨l', hs, hk⟩ w H2 e2 i2 r2 _ => ?_⟩
  have R2 := R1.ext e2 i2
  obtain ⟨h1', a', h2', rb', nP'⟩ := R2.at_own hl
  have ea : a' = a := by rw [h2] at h2'; cases h2'; rfl
  subst ea
  have hl' : isL l' = true := by
    unfold setD at hs
    split at hs
    · obtain ⟨j, hj, rfl⟩ := Option.map_eq_some_iff.mp hs; rfl
    · split at hs
      · rename_i hc
        simp only [Bool.and_eq_true, decide_eq_true_eq] at hc
        cases hs
        exact nmK_dput hc.1.1 (nmK_of_kind hc.1.2)
      · cases hs
    · cases hs
  refine ⟨Nn P ρ σ, a', l, y, x, l', rfl, .inr ⟨i, l, h1, h2⟩, R2.fit, rb', .of r2, r1.ext (e2.mono R1.domN) R1.fit, hs, hl', fun ob m rb2 => ?_⟩
  obtain ⟨R3, st⟩ := R2.write h1 h2 m hl' rb2
  exact f.nx _ _ _ hk R3 (((Stp.exp e1 i1).trans (Stp.exp e2 i2)).trans st)
end
end
set_option maxHeartbeats 4000000
/-! PDup: dict.update by another dict; values side by side that go to slots and places. -/
section
open PySem L2 PySem.Spec PyProof.Rows
variable [Tb]
/-- x.update(y), both dicts -/
def rUpd : V → List V → Hp → VK → Prop := fun x xs H Q => ∃ a b, x = .ref a ∧ xs = [.ref b] ∧ a ≠ b ∧
  ((∃ ks ms, (H a = some (.dT ks) ∨ ks = [] ∧ H a = some (.dK [])) ∧ H b = some (.dT ms) ∧ ks.length + ms.length ≤ sizeLine ∧ (ks ≠ [] ∨ ∀ (P : Program) (w : World), (ms.map fun p => (tupleKind (mixKind P w)).hash p.1).Nodup) ∧ Q .non (upd H a (.dT (putAll ks ms)))) ∨
   (∃ ks ms, H a = some (.dK ks) ∧ H b = some (.dK ms) ∧ ks.length + ms.length ≤ sizeLine ∧ Q .non (upd H a (.dK (putAll ks ms)))) ∨
   ∃ ks, H a = some (.dT ks) ∧ H b = some (.dK []) ∧ ks.length ≤ sizeLine ∧ Q .non (upd H a (.dT ks)))
theorem KT.hash {H : Hp} (f : List Key → Int) : ∀ {ms : List (List Key × V)} {xb : List (List Key × Addr × Value)}, KT H ms xb → xb.map (fun x => f x.1) = ms.map fun p => f p.1
  | _, _, .nil => rfl
  | _, _, .cons h t => by rw [List.map_cons, List.map_cons, KT.hash f t, h.1]
section
variable {X : Cx}
theorem mt_updT (hu : X.A.units + 64 < cLine) {pins : List (Addr × Obj)} {s : Shared} {σ : L2.St} {H : Hp} {a b : Addr} {ks ms : List (List Key × V)} {Q : VK} (I : Inv X pins σ H s) (hab : a ≠ b) (ha : H a = some (.dT ks)) (hb : H b = some (.dT ms)) (hz : ks.length + ms.length ≤ sizeLine)
    (hap : ks ≠ [] ∨ ∀ (P : Program) (w : World), (ms.map fun p => (tupleKind (mixKind P w)).hash p.1).Nodup) (q : Q .non (upd H a (.dT (putAll ks ms)))) : wpAny (model X.prog X.w) X.A (call (.builtin "dict.update") [.ref a, .ref b]) (EP X pins σ Q) X.xe s := by
  obtain ⟨_, da, xa, ra, oa⟩ := dt_of I.hok ha
  obtain ⟨_, db, xb, rb, ob⟩ := dt_of I.hok hb
  have la := Paired.length ra
  have lb := Paired.length rb
  have tys : ∀ x ∈ xb, s.TypeIs (.ref x.2.1) "tuple" := fun x hx => by
    obtain ⟨_, _, _, _, _, _, _, his, _⟩ := ob
    obtain ⟨o, items, n, e, c, _⟩ := his x hx
    exact ⟨o, e, c⟩
  have eh := KT.hash (tupleKind (mixKind X.prog X.w)).hash rb
  refine call_update_dictH (knd := tupleKind (mixKind X.prog X.w)) (by show X.A.in1.units < cLine; have : X.A.in1.units = X.A.units + 1 := rfl; omega) hab db oa ob ?_ (by rw [← la, ← lb]; exact hz) fun h' hd' _ hs => ?_
  · rcases hap with z | z
    · left
      intro e
      rw [e] at la
      exact z (List.length_eq_zero_iff.mp la)
    · exact .inr ⟨tys, by rw [eh]; exact z _ _⟩
  · have kt : KT H (putAll ks ms) (storedAllH xa xb) := KT.all ra rb
    have hl := putAll_len ms ks
    obtain ⟨qo, es, ep, g1, g2, g3, g4, _, g6⟩ := hd'
    refine ⟨.non, _, d_write (ob := .dT (putAll ks ms)) I (by rw [ha]; exact True.intro) hs ⟨_, g1⟩ ⟨by omega, da, _, kt.keeps fun c ys ec => ?_, qo, es, ep, g1, g2, g3, g4, g6⟩, rfl, q⟩
    have hne : c ≠ a := ne_of ec ha (by intro z; cases z)
    rw [upd_ne hne]; exact ec
theorem mt_upd (hu : X.A.units + 64 < cLine) : MtR X "dict.update" rUpd := by
  intro pins s σ H x xs v us Q I r1 r2 h
  obtain ⟨a, b, rfl, rfl, hab, ⟨ks, ms, ha, hb, hz, hap, q⟩ | ⟨ks, ms, ha, hb, hz, q⟩ | ⟨ks, ha, hb, hz, q⟩⟩ := h
  · obtain ⟨u, rfl, ru⟩ := r2.one
    cases r1
    cases ru
    rcases ha with ha | ⟨rfl, ha⟩
    · exact mt_updT hu I hab ha hb hz hap q
    · have I' := Inv.toT I ha
      refine mt_updT hu I' hab upd_same (by rw [upd_ne (Ne.symm hab)]; exact hb) hz hap ?_
      rw [upd_upd]; exact q
  · obtain ⟨u, rfl, ru⟩ := r2.one
    cases r1
    cases ru
    obtain ⟨_, da, xa, ra, oa⟩ := dk_of I.hok ha
    obtain ⟨_, db, xb, rb, ob⟩ := dk_of I.hok hb
    have la := ra.length
    have lb := rb.length
    refine call_meetsIn PySem.F.slot_dict_update oa.typeIs PySem.F.entry_dict_update (PySem.F.args_dict_update_2 _ _) (meets_dict_update (mixKind X.prog X.w) a b hab db) ⟨xa, xb, oa, ob, by rw [← la, ← lb]; exact hz, fun h' hd' _ hs => ?_⟩
    have hl := putAll_len ms ks
    have he : ∃ q, h'.get? a = some q := let ⟨q, _, _, hq, _⟩ := hd'; ⟨q, hq⟩
    exact ⟨.non, _, d_write (ob := .dK (putAll ks ms)) I (by rw [ha]; exact True.intro) hs he (dk_new (by omega) da (KV.merge rb ra) hd'), rfl, q⟩
  · obtain ⟨u, rfl, ru⟩ := r2.one
    cases r1
    cases ru
    have I' := Inv.toT I hb
    have ha' : upd H b (.dT []) a = some (.dT ks) := by rw [upd_ne hab]; exact ha
    refine wpAny_mono (mt_updT hu (Q := fun v H' => v = .non ∧ H' = upd (upd H b (.dT [])) a (.dT ks)) I' hab ha' upd_same (by simpa using hz) (.inr fun P w => by simp) ⟨rfl, rfl⟩) (fun u s' h => ?_) fun _ _ h => h
    obtain ⟨v, H', J, rv, rfl, rfl⟩ := h
    have hb2 : upd (upd H b (.dT [])) a (.dT ks) b = some (.dT []) := by rw [upd_ne (Ne.symm hab)]; exact upd_same
    have J' := Inv.toK J hb2
    have e : upd (upd (upd H b (.dT [])) a (.dT ks)) b (.dK []) = upd H a (.dT ks) := by
      funext c
      unfold upd
      by_cases h1 : c = b
      · subst h1
        have : c ≠ a := Ne.symm hab
        simp [this, hb]
      · by_cases h2 : c = a
        · subst h2; simp [hab]
        · simp [h1, h2]
    rw [e] at J'
    exact ⟨.non, _, J', rv, q⟩
end
theorem zip_snd {α : Type} : ∀ {xs : List α} {ds : List PD.D}, xs.length = ds.length → (xs.zip ds).map (·.2) = ds
  | [], [], _ => rfl
  | x :: xs, d :: ds, h => by rw [List.zip_cons_cons, List.map_cons, zip_snd (by simpa using h)]
  | [], _ :: _, h => nomatch h
  | _ :: _, [], h => nomatch h
theorem tk_not1 (ks : List Key) : isKey1 (tkeyD ks) = false := rfl
theorem k1_notk (k : Key) : isTk (keyD k) = false := by cases k <;> rfl
theorem all_zip {α : Type} {f : α → PD.D} {p : PD.D → Bool} {ks : List (α × V)} {es : List PD.D} (hl : ks.length = es.length) (h : (((ks.map fun q => f q.1).zip es).all fun q => p q.1) = true) : ∀ q ∈ ks, p (f q.1) = true := by
  have e : ((ks.map fun q => f q.1).zip es).map (·.1) = ks.map fun q => f q.1 := zip_fst (by simpa using hl)
  intro q hq
  have : f q.1 ∈ ((ks.map fun q => f q.1).zip es).map (·.1) := by rw [e]; exact List.mem_map.mpr ⟨q, hq, rfl⟩
  obtain ⟨z, hz, ez⟩ := List.mem_map.mp this
  rw [← ez]
  exact List.all_eq_true.mp h z hz
theorem nil_of_no {α : Type} {l : List α} (h : ∀ x ∈ l, False) : l = [] := by
  cases l with
  | nil => rfl
  | cons a l => exact (h a (List.mem_cons_self ..)).elim
section
variable {C : Calls} {X : Cx} {D : Ends} {σ : L2.St} {H : Hp}
theorem w_upd {i : Nat} {e : E} (h : tS C (.upd i e) D σ H) : tDrop (tBM X.K "dict" rUpd (tVar i) (tCons (tE C e) tNil)) D σ H := by
  obtain ⟨S, P, ρ, K, R, ⟨kvs, hl, h⟩, f⟩ := h
  obtain ⟨h1, a, h2, rb, nP⟩ := R.at_own hl
  have hk0 : nmK kvs = true := by
    obtain ⟨_, _, l, _⟩ := R.own i _ h1
    exact l
  have ty : tyV X.K "dict" (.ref a) H := by
    obtain ⟨a', ea, ⟨ks, _, hk, _⟩ | ⟨ks, _, _, hk, _⟩⟩ := rb.dict_of hk0
    · cases ea; exact .inr (.inr (.inl ⟨rfl, .inl ⟨_, hk⟩⟩))
    · cases ea; exact .inr (.inr (.inl ⟨rfl, .inr ⟨_, hk⟩⟩))
  refine ⟨.ref a, h2, ty, S, P, ρ, _, R, h, fun d hd v H1 e1 i1 r1 fz => ?_⟩
  clear fz
  have R1 := R.ext e1 i1
  obtain ⟨ps, rfl, ⟨hz, hu⟩, hk⟩ := hd
  have nS : ¬ S.dom a := fun z => nP (R.sub _ z)
  have rb1 : RpB (Nn P ρ σ) H1 (.ref a) (.dict kvs) := rb.extA R.fit (e1.mono R.domN) fun b o eb ho => by cases eb; exact e1 _ o ho nS
  have own : Nn P ρ σ a := .inr ⟨i, _, h1, h2⟩
  have hpk : ∀ p ∈ ps, isKey p.1 = true := fun p hp => by
    rcases hu with ⟨_, _, t2, _⟩ | ⟨_, t2⟩ | rfl
    · have := List.all_eq_true.mp t2 p hp
      generalize p.1 = x at this
      cases x <;> first | exact this | (cases this)
    · have := List.all_eq_true.mp t2 p hp
      generalize p.1 = x at this
      cases x <;> first | exact this | (cases this)
    · cases hp
  have fin : ∀ ob, Mut (some ob) → RpB (Nn P ρ σ) (upd H1 a ob) (.ref a) (.dict (dputs kvs ps)) → D.nx σ (upd H1 a ob) := fun ob m rb2 => by
    obtain ⟨R2, st⟩ := R1.write (d := .dict (dputs kvs ps)) (o := ob) h1 h2 m (nmK_dputs hpk hk0) rb2
    exact f.nx _ _ _ hk R2 ((Stp.exp e1 i1).trans st)
  have up : ∀ ob, Ext (Nn P ρ σ) H1 (upd H1 a ob) := fun ob => upd_ext R1 h1 h2
  rcases hu with ⟨hne, t1, t2, hap⟩ | ⟨t1, t2⟩ | rfl
  · generalize ed : PyData.dict ps = d at r1
    cases r1 with
    | dT n ne hb r =>
      rename_i b ms es
      cases ed
      have lm : ms.length = es.length := by simpa using r.length
      have hab : a ≠ b := fun z => n (z ▸ own)
      have hkeys : ((ms.map fun p => tkeyD p.1).zip es).map (·.1) = ms.map fun p => tkeyD p.1 := zip_fst (by simpa using lm)
      have hvals : ((ms.map fun p => tkeyD p.1).zip es).map (·.2) = es := zip_snd (by simpa using lm)
      have hm : ms.length = ((ms.map fun p => tkeyD p.1).zip es).length := by simp [lm]
      obtain ⟨a', ea, ⟨ks, ds, ha, rk, rfl⟩ | ⟨ks, ds, kne, ha, rk, rfl⟩⟩ := rb1.dict_of hk0
      · cases ea
        have lk : ks.length = ds.length := by simpa using rk.length
        have : ks = [] := nil_of_no fun q hq => by have := all_zip lk t1 q hq; rw [k1_notk] at this; cases this
        subst this
        cases rk
        refine ⟨a, b, rfl, rfl, hab, .inl ⟨[], ms, .inr ⟨rfl, ha⟩, hb, by rw [hm]; simpa using hz, .inr fun P w => ?_, ?_⟩⟩
        · have hap := hap.resolve_left (by simp)
          rw [hkeys] at hap
          have := hap (ms.map (·.1)) (by rw [List.map_map]; rfl) P w
          rw [List.map_map] at this
          exact this
        · obtain ⟨es', re, he⟩ := puts_rp tkeyD tkeyD_eqv (N := Nn P ρ σ) (H := H1) (qs := ms) (kvs := []) (ds := []) (ps := (ms.map fun p => tkeyD p.1).zip es) .nil hkeys (by rw [hvals]; exact r)
          refine fin _ trivial ?_
          have he' : dputs [] ((ms.map fun p => tkeyD p.1).zip es) = _ := he
          simp only [List.map_nil, List.zip_nil_right] at he' ⊢
          rw [he']
          refine .dT ?_ upd_same (re.ext (up _) R1.fit)
          intro z
          rw [z] at he'
          have := congrArg List.length he'
          have h3 : ∀ (l acc : List (PD.D × PD.D)), acc.length ≤ (dputs acc l).length := by
            intro l
            induction l with
            | nil => intro acc; exact Nat.le_refl _
            | cons p l ih =>
              intro acc
              refine Nat.le_trans ?_ (ih (dput acc p.1 p.2))
              unfold dput; split <;> simp
          cases ms with
          | nil => exact ne rfl
          | cons m ms => cases es with
            | nil => simp at lm
            | cons x es =>
              have h4 := h3 ((ms.map fun p => tkeyD p.1).zip es) (dput [] (tkeyD m.1) x)
              have h5 : (dput [] (tkeyD m.1) x).length = 1 := rfl
              have h6 : (dputs [] ((tkeyD m.1, x) :: (ms.map fun p => tkeyD p.1).zip es)).length = 0 := by simpa using this
              have h7 : dputs [] ((tkeyD m.1, x) :: (ms.map fun p => tkeyD p.1).zip es) = dputs (dput [] (tkeyD m.1) x) ((ms.map fun p => tkeyD p.1).zip es) := rfl
              rw [h7] at h6
              omega
      · cases ea
        have lk : ks.length = ds.length := by simpa using rk.length
        refine ⟨a, b, rfl, rfl, hab, .inl ⟨ks, ms, .inl ha, hb, ?_, .inl kne, ?_⟩⟩
        · have h1 : ((ks.map fun p => tkeyD p.1).zip ds).length = ks.length := by simp [lk]
          omega
        · obtain ⟨es', re, he⟩ := puts_rp tkeyD tkeyD_eqv (qs := ms) (ps := (ms.map fun p => tkeyD p.1).zip es) rk hkeys (by rw [hvals]; exact r)
          refine fin _ trivial ?_
          rw [he]
          refine .dT ?_ upd_same (re.ext (up _) R1.fit)
          have h3 : ∀ (l acc : List (List Key × V)), acc ≠ [] → putAll acc l ≠ [] := by
            intro l
            induction l with
            | nil => intro acc h; exact h
            | cons p l ih => intro acc _; exact ih _ putK_ne
          exact h3 _ _ kne
    | dK n hb r =>
      rename_i b ms es
      cases ed
      have lm : ms.length = es.length := by simpa using r.length
      have : ms = [] := nil_of_no fun q hq => by have := all_zip lm t2 q hq; rw [k1_notk] at this; cases this
      subst this
      exact absurd rfl hne
    | hrd _ _ _ =>
      unfold mkH at ed
      cases ed
      simp [isTk, isKey1] at t2
    | _ => cases ed
  · generalize ed : PyData.dict ps = d at r1
    cases r1 with
    | dK n hb r =>
      rename_i b ms es
      cases ed
      have lm : ms.length = es.length := by simpa using r.length
      have hab : a ≠ b := fun z => n (z ▸ own)
      have hkeys : ((ms.map fun p => keyD p.1).zip es).map (·.1) = ms.map fun p => keyD p.1 := zip_fst (by simpa using lm)
      have hvals : ((ms.map fun p => keyD p.1).zip es).map (·.2) = es := zip_snd (by simpa using lm)
      have hm : ms.length = ((ms.map fun p => keyD p.1).zip es).length := by simp [lm]
      obtain ⟨a', ea, ⟨ks, ds, ha, rk, rfl⟩ | ⟨ks, ds, kne, ha, rk, rfl⟩⟩ := rb1.dict_of hk0
      · cases ea
        have lk : ks.length = ds.length := by simpa using rk.length
        refine ⟨a, b, rfl, rfl, hab, .inr (.inl ⟨ks, ms, ha, hb, ?_, ?_⟩)⟩
        · have h1 : ((ks.map fun p => keyD p.1).zip ds).length = ks.length := by simp [lk]
          omega
        · obtain ⟨es', re, he⟩ := puts_rp keyD keyD_eqv (qs := ms) (ps := (ms.map fun p => keyD p.1).zip es) rk hkeys (by rw [hvals]; exact r)
          refine fin _ trivial ?_
          rw [he]
          exact .dK upd_same (re.ext (up _) R1.fit)
      · cases ea
        have lk : ks.length = ds.length := by simpa using rk.length
        exact absurd (nil_of_no fun q hq => by have := all_zip lk t1 q hq; rw [tk_not1] at this; cases this) kne
    | dT n ne hb r =>
      rename_i b ms es
      cases ed
      have lm : ms.length = es.length := by simpa using r.length
      exact absurd (nil_of_no fun q hq => by have := all_zip lm t2 q hq; rw [tk_not1] at this; cases this) ne
    | hrd _ _ _ =>
      unfold mkH at ed
      cases ed
      simp [isTk, isKey1] at t2
    | _ => cases ed
  · generalize ed : PyData.dict [] = d at r1
    cases r1 with
    | dK n hb r =>
      rename_i b ms es
      have lm : ms.length = es.length := by simpa using r.length
      have hab : a ≠ b := fun z => n (z ▸ own)
      have : ms = [] := by
        cases ms with
        | nil => rfl
        | cons m ms => cases es with
          | nil => simp at lm
          | cons _ _ => cases ed
      subst this
      obtain ⟨a', ea, ⟨ks, ds, ha, rk, rfl⟩ | ⟨ks, ds, kne, ha, rk, rfl⟩⟩ := rb1.dict_of hk0
      · cases ea
        have lk : ks.length = ds.length := by simpa using rk.length
        have hl1 : ((ks.map fun p => keyD p.1).zip ds).length = ks.length := by simp [lk]
        rw [hl1] at hz
        refine ⟨a, b, rfl, rfl, hab, .inr (.inl ⟨ks, [], ha, hb, hz, ?_⟩)⟩
        exact fin _ trivial (.dK upd_same (rk.ext (up _) R1.fit))
      · cases ea
        have lk : ks.length = ds.length := by simpa using rk.length
        have hl1 : ((ks.map fun p => tkeyD p.1).zip ds).length = ks.length := by simp [lk]
        rw [hl1] at hz
        refine ⟨a, b, rfl, rfl, hab, .inr (.inr ⟨ks, ha, hb, by simpa using hz, ?_⟩)⟩
        exact fin _ trivial (.dT kne upd_same (rk.ext (up _) R1.fit))
    | dT n ne hb r =>
      rename_i b ms es
      have lm : ms.length = es.length := by simpa using r.length
      exfalso
      cases ms with
      | nil => exact ne rfl
      | cons m ms => cases es with
        | nil => simp at lm
        | cons _ _ => cases ed
    | hrd _ _ _ =>
      unfold mkH at ed
      cases ed
    | _ => cases ed
end
def gTs (C : Calls) : List Tg → TGs
  | [] => gNil
  | .sl i :: r => gCons (gName i) (gTs C r)
  | .su i k :: r => gCons (gSub (tVar i) (tE C k) tSt) (gTs C r)
theorem gTs_run {C : Calls} {S : Src} {P : Zn} {Kn : Nv → Prop} {Q : L2.St → Hp → Prop} : ∀ {ts : List Tg} {vs : List V} {ds : List PD.D} {ρ : Nv} {σ : L2.St} {H : Hp}, Rel S P ρ σ H → RpAll (Nn P ρ σ) H vs ds → asgT C ts ds ρ Kn →
    (∀ ρ' σ' H', Kn ρ' → Rel S P ρ' σ' H' → Stp S ρ σ H ρ' σ' H' → Q σ' H') → gTs C ts vs σ H Q
  | [], vs, ds, ρ, σ, H, R, r, h, q => by
    cases ds with
    | nil => cases r; exact ⟨rfl, q _ _ _ h R R.stp⟩
    | cons _ _ => exact h.elim
  | .sl i :: ts, vs, ds, ρ, σ, H, R, r, h, q => by
    cases ds with
    | nil => exact h.elim
    | cons d ds =>
      cases r with
      | cons r1 rs =>
        rename_i v vs
        have R1 := R.set i r1
        refine ⟨v, vs, rfl, gTs_run R1 (rs.less fun a z => z.elim .inl fun z => .inr (own_set z)) h fun ρ' σ' H' k R' st => q _ _ _ k R' (Stp.trans ⟨Ext.refl, fun a z => .inl (own_set z), R.inv⟩ st)⟩
  | .su i k :: ts, vs, ds, ρ, σ, H, R, r, h, q => by
    cases ds with
    | nil => exact h.elim
    | cons d ds =>
      cases r with
      | cons r1 rs =>
        rename_i v vs
        obtain ⟨l, hl, h⟩ := h
        obtain ⟨h1, a, h2, rb, nP⟩ := R.at_own hl
        refine ⟨v, vs, rfl, .ref a, h2, S, P, ρ, _, R, h, fun y ⟨l', hs, hk⟩ w H2 e2 i2 r2 fz => ?_⟩
        clear fz
        have R2 := R.ext e2 i2
        obtain ⟨h1', a', h2', rb', nP'⟩ := R2.at_own hl
        have ea : a' = a := by rw [h2] at h2'; cases h2'; rfl
        subst ea
        have hl' : isL l' = true := by
          unfold setD at hs
          split at hs
          · obtain ⟨j, hj, rfl⟩ := Option.map_eq_some_iff.mp hs; rfl
          · split at hs
            · rename_i hc
              simp only [Bool.and_eq_true, decide_eq_true_eq] at hc
              cases hs
              exact nmK_dput hc.1.1 (nmK_of_kind hc.1.2)
            · cases hs
          · cases hs
        refine ⟨Nn P ρ σ, a', l, y, d, l', rfl, .inr ⟨i, l, h1, h2⟩, R2.fit, rb', .of r2, r1.ext (e2.mono R.domN) R.fit, hs, hl', fun ob m rb2 => ?_⟩
        obtain ⟨R3, st⟩ := R2.write h1 h2 m hl' rb2
        have hN : ∀ b, Nn P (ρ.set i (some (.own l'))) σ b → Nn P ρ σ b := fun b z => z.elim .inl fun ⟨j, g, h3, h4⟩ => by
          rcases set_get h3 with ⟨rfl, _, _⟩ | ⟨_, h3⟩
          · exact .inr ⟨_, _, h1, h4⟩
          · exact .inr ⟨j, g, h3, h4⟩
        have rs2 := ((rs.ext (e2.mono R.domN) R.fit).ext (upd_ext (o := ob) R2 h1 h2) R2.fit).less hN
        exact gTs_run R3 rs2 hk fun ρ' σ' H' k R' st' => q _ _ _ k R' (((Stp.exp e2 i2).trans st).trans st')
theorem w_asgm {C : Calls} {X : Cx} {D : Ends} {σ : L2.St} {H : Hp} {ts : List Tg} {es : Es} (h64 : ts.length ≤ 64) (h : tS C (.asgm ts es) D σ H) :
    tEs C es σ H fun vs H1 => vs.length ≤ sizeLine ∧ ∀ p, H1 p = none → gTup X.K ts.length (gTs C ts) (.ref p) σ (upd H1 p (.tup vs)) D.nx := by
  obtain ⟨S, P, ρ, K, R, h, f⟩ := h
  refine ⟨S, P, ρ, _, R, h, fun ds ⟨hl, hd⟩ vs H1 e1 i1 r1 => ⟨?_, fun p hp => ?_⟩⟩
  · have h1 := r1.length
    have : 64 ≤ sizeLine := by decide
    omega
  · have R1 := R.ext e1 i1
    have R2 := R1.ext0 (Ext.new (o := .tup vs) hp)
    refine ⟨p, vs, rfl, SqT.of upd_same, r1.length.trans hl, gTs_run R2 (r1.ext (Ext.new hp) R1.fit) hd fun ρ' σ' H' k R' st => f.nx _ _ _ k R' (((Stp.exp e1 i1).trans (Stp.exp ((Ext.new hp : Ext S.dom H1 _)) R2.inv)).trans st)⟩
end
/-! PDks: sorted by a key that is a lambda of one name, len(lot) or (len(lot), lot). -/
section
open PySem L2 PySem.Spec PyProof.Rows PySem.W
variable [Tb]
structure LamOk (sc : Scope) : Prop where
  kind : sc.kind = .function
  co : sc.isCoroutine = false
  gen : sc.isGenerator = false
  cell : ∀ y ∈ sc.names, y.2 ≠ .cell
  free : ∀ y ∈ sc.names, y.2 ≠ .free
  lot : sc.names.lookup ("lot" : Str) = some .local
  len : sc.names.lookup ("len" : Str) = some .globalImplicit
theorem lamOk_of {sc : Scope} (h : lamSc sc = true) : LamOk sc := by
  unfold lamSc at h
  simp only [Bool.and_eq_true, Bool.not_eq_true', decide_eq_true_eq, decide_eq_false_iff_not, List.all_eq_true] at h
  obtain ⟨⟨⟨⟨⟨h1, h2⟩, h3⟩, h4⟩, h5⟩, h6⟩ := h
  exact ⟨h1, h2, h3, fun y hy => (h4 y hy).1, fun y hy => (h4 y hy).2, h5, h6⟩
theorem lam_bind {ps : Arguments} (h : lamPs ps = true) {nm q : Str} {body : PySem.Expr} {scope : Scope} {cl : List (Str × Addr)} {pm cdv ct : Value} (v : Value) : bindArgs (kla_fn nm q ps body scope cl pm cdv ct) ⟨[v], []⟩ = pure [(("lot" : Str), v)] := by
  unfold lamPs at h
  split at h
  · have e := of_decide_eq_true h
    subst e
    rfl
  · cases h
theorem lam_dflt {ps : Arguments} (h : lamPs ps = true) (env : PySem.Env) : defaultsOf ps env = ([], []) := by
  unfold lamPs at h
  split at h
  · rfl
  · cases h
section
variable {prog : Program} {w : World} {A : Around} {s : Shared} {mg mb : Str → Option Value} {f c' t : Addr} {q : Str} {ps : Arguments} {scope : Scope} {cl : List (Str × Addr)} {pm ctv : Value} {p1 p2 p3 : Pos} {items : Array Value}
theorem lam_len (ho : s.heap.get? f = some (kla_obj "<lambda>" q ps (.Call (.Name "len" p1) [.Name "lot" p2] [] p3) scope cl pm c' ctv)) (hps : lamPs ps = true) (L : LamOk scope) (hcd : s.heap.CodeRec (.ref c') q)
    (G : s.heap.Ns mainGlobals mg) (gl : mg "len" = none) (B : s.heap.Ns builtinsNs mb) (bl : mb "len" = some (.builtin "len")) (lim : s.heap.NoLimit) (room : A.depth < recursionLimit) (ht : IsTup s.heap t items) (fit : (items.size : Int) < 2 ^ 63) :
    wpAny (model prog w) A (call (.ref f) [.ref t]) (KeyPure (.int items.size) s) (fun _ _ => False) s := by
  refine wpAny_call (kla_callFunE room ho rfl L.co L.gen rfl hcd ?_)
  rw [lam_bind hps]
  refine wpAny_pure (wpAny_newFunctionEnv (fun y hy => L.cell y hy) (fun y hy => ?_) (fun h₁ hns hsb => ⟨lim.fresh _ hsb, ?_⟩) L.kind)
  · rcases List.mem_singleton.mp hy with rfl
    exact L.lot
  refine kla_codeExpr ?_
  have kp : ∀ b o, s.heap.get? b = some o → h₁.get? b = some o := fun b o e => hsb.extBut b o (Nat.ne_of_lt (Heap.lt_size e)) (Heap.get?_push_of_some _ e)
  refine wpAny_Call_Name_kw (Calls.Name_function_global L.kind L.len (Calls.loadGlobal_builtin (G.keeps kp) gl (B.keeps kp) bl ?_) (by decide))
  refine PyProof.Rows.callWith_kw ?_ (by rfl) (by rfl) (by rfl) (by rfl)
  refine Calls.spliced_cons (wpAny_Name (wpAny_loadName_local L.kind L.lot hns rfl ?_))
  refine Calls.spliced_nil ?_
  refine wpAny_pure ?_
  refine PyProof.Rows.len_tuple (t := t) (items := items) (ht.keeps kp) fit ?_
  exact ⟨h₁, _, rfl, kp, .int _ _⟩
theorem lam_pair {pl : Pos} {x1 : Nat} {p4 : Pos} {d : D} (ho : s.heap.get? f = some (kla_obj "<lambda>" q ps (.Tuple [.Call (.Name "len" p1) [.Name "lot" p2] [] p3, .Name "lot" p4] x1 pl) scope cl pm c' ctv)) (hps : lamPs ps = true) (L : LamOk scope) (hcd : s.heap.CodeRec (.ref c') q)
    (G : s.heap.Ns mainGlobals mg) (gl : mg "len" = none) (B : s.heap.Ns builtinsNs mb) (bl : mb "len" = some (.builtin "len")) (lim : s.heap.NoLimit) (room : A.depth < recursionLimit) (ht : IsTup s.heap t items) (fit : (items.size : Int) < 2 ^ 63) (hr : Reads s.heap (.ref t) d []) :
    wpAny (model prog w) A (call (.ref f) [.ref t]) (KeyPure (.tuple [.int items.size, d]) s) (fun _ _ => False) s := by
  refine wpAny_call (kla_callFunE room ho rfl L.co L.gen rfl hcd ?_)
  rw [lam_bind hps]
  refine wpAny_pure (wpAny_newFunctionEnv (fun y hy => L.cell y hy) (fun y hy => ?_) (fun h₁ hns hsb => ⟨lim.fresh _ hsb, ?_⟩) L.kind)
  · rcases List.mem_singleton.mp hy with rfl
    exact L.lot
  refine kla_codeExpr ?_
  have kp : ∀ b o, s.heap.get? b = some o → h₁.get? b = some o := fun b o e => hsb.extBut b o (Nat.ne_of_lt (Heap.lt_size e)) (Heap.get?_push_of_some _ e)
  refine wpAny_Tuple_spliced (Calls.spliced_cons ?_)
  refine wpAny_Call_Name_kw (Calls.Name_function_global L.kind L.len (Calls.loadGlobal_builtin (G.keeps kp) gl (B.keeps kp) bl ?_) (by decide))
  refine PyProof.Rows.callWith_kw ?_ (by rfl) (by rfl) (by rfl) (by rfl)
  refine Calls.spliced_cons (wpAny_Name (wpAny_loadName_local L.kind L.lot hns rfl ?_))
  refine Calls.spliced_nil ?_
  refine wpAny_pure ?_
  refine PyProof.Rows.len_tuple (t := t) (items := items) (ht.keeps kp) fit ?_
  refine Calls.spliced_cons (wpAny_Name (wpAny_loadName_local L.kind L.lot hns rfl ?_))
  refine Calls.spliced_nil ⟨by show 2 ≤ sizeLine; decide, ?_⟩
  refine ⟨_, _, rfl, fun b o e => Heap.get?_push_of_some _ (kp b o e), ?_⟩
  refine .tuple (as := []) (Heap.get?_push_size _ rfl) rfl rfl ?_
  exact .cons (as := []) (.int _ _) (.cons (as := []) (bs := []) (PyProof.Rows.Reads.keeps (fun b o e => Heap.get?_push_of_some _ (kp b o e)) hr) .nil)
theorem ints_nil {h : Heap} : ∀ {us : List Value} {ds : List D} {as : List Addr}, ReadsAll h us ds as → ds.all isIntD = true → as = []
  | _, _, _, .nil, _ => rfl
  | _, _, _, .cons r t, a => by
    rw [List.all_cons] at a
    obtain ⟨a1, a2⟩ := bnd a
    have := ints_nil t a2
    subst this
    cases r <;> first | rfl | cases a1
theorem reads_nil {h : Heap} {u : Value} {d : D} {as : List Addr} (r : Reads h u d as) (a : isTupI d = true) : as = [] := by
  cases r <;> first | rfl | skip
  all_goals first | (cases a; done) | skip
  rename_i q
  exact ints_nil q a
end
section
variable {X : Cx} {pins : List (Addr × Obj)} {σ : L2.St} {H : Hp} {s : Shared}
/-- the lambda is made -/
theorem lamk_make {c P : Addr} {params : Arguments} {body : PySem.Expr} {scope : Scope} {pos : Pos} {E : Value → Shared → Prop} {Q : Value → Shared → Prop} (I : Inv X pins σ H s) (TB : LamX.TabB X.base X.mg c P) (hcode : X.env.code = .ref c)
    (hT : LamX.TabS H P (X.env.qual ++ "<lambda>")) (hdef : defaultsOf params X.env = ([], [])) (hfree : ∀ y ∈ scope.names, y.2 ≠ .free)
    (h : ∀ (f c' : Addr) (pm ctv : Value) (H1 : Hp) (s' : Shared), Inv X pins σ H1 s' → (∀ b o, b ≠ P → H b = some o → H1 b = some o) → LamX.TabS H1 P (X.env.qual ++ "<lambda>") →
      s'.heap.get? f = some (kla_obj "<lambda>" (X.env.qual ++ "<lambda>") params body scope (cloFrom X.env.cells scope.names []) pm c' ctv) → H1 c' = some (LamX.CodeO c' (X.env.qual ++ "<lambda>")) → Q (.ref f) s') :
    wpAny (model X.prog X.w) X.A (eval (.Lambda params body scope pos) X.env) Q E s := by
  have hfr : ∀ y ∈ scope.names, y.2 = .free → ∃ c, X.env.cells.lookup y.1 = some c := fun y hy e => absurd e (hfree y hy)
  obtain ⟨ps, hP, ht, ha⟩ := hT
  have bP : s.heap.BuiltinsAt X.mg P := TB.bm.keeps I.bk
  have hP' : s.heap.get? P = some { cls := .none, data := .fields ps } := I.hok P _ hP
  refine kla_eval hdef ?_
  cases hc : codeAmong pos ps.toList with
  | none =>
    refine kla_makeFunction (mg := X.mg) (c := c) (P := P) (ps := ps) (closure_ok hfr) I.ok.glob (I.mod.glob.keeps I.bk) hcode (TB.code.keeps I.bk) hP' ht hc TB.gP bP fun c' ctv h' tk hx hge hlt hrec htb => ?_
    obtain ⟨c2, oc, vs, t, e2, hoc, hd, hv⟩ := hrec
    cases e2
    have nC : H c' = none := I.hok.fresh hge
    have nPc : P ≠ c' := ne_of_none hP nC
    have I1 := LamX.inv_table (t' := tk) (more := #[rawInt pos.line, rawInt pos.col, .ref c']) (h' := h'.push (kla_obj "<lambda>" (X.env.qual ++ "<lambda>") params body scope (cloFrom X.env.cells scope.names []) ((X.mg "__name__").getD .none) c' ctv)) I hP
      (fun b o hb e => Heap.get?_push_of_some _ (hx b o hb e)) (Heap.get?_push_of_some _ htb) hge ⟨oc, vs, t, Heap.get?_push_of_some _ hoc, hd, hv⟩
    have kp : ∀ b o, b ≠ P → H b = some o → L2.upd (L2.upd H P (.tbl (ps ++ #[rawInt pos.line, rawInt pos.col, .ref c']))) c' (LamX.CodeO c' (X.env.qual ++ "<lambda>")) b = some o := fun b o n e => by
      rw [upd_ne (ne_of_none e nC), upd_ne n]
      exact e
    have eL : (ps ++ #[rawInt pos.line, rawInt pos.col, .ref c']).toList = ps.toList ++ [rawInt pos.line, rawInt pos.col, .ref c'] := by simp
    refine h h'.objs.size c' ((X.mg "__name__").getD .none) ctv _ _ I1 kp ⟨_, by rw [upd_ne nPc, upd_same], by rw [eL]; exact PySem.TriplesOk_snoc _ _ _ _ ht, fun p' cv hcv => ?_⟩ (Heap.get?_push_size _ rfl) upd_same
    rw [eL] at hcv
    rcases LamX.among_app _ ht hcv with z | z
    · obtain ⟨c0, e1, e2⟩ := ha p' cv z
      exact ⟨c0, e1, kp _ _ (fun z => by rw [z, hP] at e2; cases e2) e2⟩
    · exact ⟨c', z, upd_same⟩
  | some cv =>
    obtain ⟨c', e, hco⟩ := ha pos cv hc
    subst e
    refine kla_makeFunctionHit (mg := X.mg) (c := c) (P := P) (ps := ps) (closure_ok hfr) I.ok.glob (I.mod.glob.keeps I.bk) hcode (TB.code.keeps I.bk) hP' ht hc bP fun ctv h' tk hx hsz => ?_
    have I1 : Inv X pins σ H { s with heap := h'.push (kla_obj "<lambda>" (X.env.qual ++ "<lambda>") params body scope (cloFrom X.env.cells scope.names []) ((X.mg "__name__").getD .none) c' ctv), toks := tk } := I.kept fun b o e => Heap.get?_push_of_some _ (hx b o e)
    exact h h'.objs.size c' ((X.mg "__name__").getD .none) ctv H _ I1 (fun _ _ _ e => e) ⟨ps, hP, ht, ha⟩ (Heap.get?_push_size _ rfl) hco
end
/-- the key's function stands at f -/
structure KLam (b : Bool) (h : Heap) (f : Addr) : Prop where
  ex : ∃ (q : Str) (ps : Arguments) (body : PySem.Expr) (scope : Scope) (cl : List (Str × Addr)) (pm : Value) (c' : Addr) (ctv : Value), h.get? f = some (kla_obj "<lambda>" q ps body scope cl pm c' ctv) ∧ lamPs ps = true ∧ LamOk scope ∧ lamBody b body = true ∧ h.CodeRec (.ref c') q
theorem KLam.keeps {b : Bool} {h h' : Heap} {f : Addr} (k : KLam b h f) (e : ∀ a o, h.get? a = some o → h'.get? a = some o) : KLam b h' f := by
  obtain ⟨q, ps, body, scope, cl, pm, c', ctv, h1, h2, h3, h4, h5⟩ := k.ex
  refine ⟨q, ps, body, scope, cl, pm, c', ctv, e _ _ h1, h2, h3, h4, ?_⟩
  obtain ⟨c, oc, vs, tq, a1, a2, a3, a4⟩ := h5
  exact ⟨c, oc, vs, tq, a1, e _ _ a2, a3, a4⟩
section
variable {prog : Program} {w : World} {A : Around} {s : Shared} {mg mb : Str → Option Value} {f t : Addr} {items : Array Value} {b : Bool} {xs : List D}
theorem KLam.run (k : KLam b s.heap f) (G : s.heap.Ns mainGlobals mg) (gl : mg "len" = none) (B : s.heap.Ns builtinsNs mb) (bl : mb "len" = some (.builtin "len")) (lim : s.heap.NoLimit) (room : A.depth < recursionLimit) (ht : IsTup s.heap t items) (fit : (items.size : Int) < 2 ^ 63)
    (hr : Reads s.heap (.ref t) (.tuple xs) []) (hl : items.size = xs.length) : wpAny (model prog w) A (call (.ref f) [.ref t]) (KeyPure (keyF b (.tuple xs)) s) (fun _ _ => False) s := by
  obtain ⟨q, ps, body, scope, cl, pm, c', ctv, h1, h2, h3, h4, h5⟩ := k.ex
  have el : keyF b (.tuple xs) = (match b with | false => (.int items.size : PyData) | true => .tuple [.int items.size, .tuple xs]) := by cases b <;> simp [keyF, lenD, hl]
  rw [el]
  unfold lamBody at h4
  split at h4
  · obtain ⟨e1, e2⟩ := bnd h4
    have e1 := of_decide_eq_true e1
    have e2 := of_decide_eq_true e2
    subst e1 e2
    exact lam_len h1 h2 h3 h5 G gl B bl lim room ht fit
  · obtain ⟨e, e3⟩ := bnd h4
    obtain ⟨e1, e2⟩ := bnd e
    have e1 := of_decide_eq_true e1
    have e2 := of_decide_eq_true e2
    have e3 := of_decide_eq_true e3
    subst e1 e2 e3
    exact lam_pair h1 h2 h3 h5 G gl B bl lim room ht fit hr
  · cases h4
end
section
variable {X : Cx} {pins : List (Addr × Obj)} {σ : L2.St} {H : Hp} {s : Shared} {N : Zn}
theorem er_tupI {d : D} (h : isTupI d = true) : er d = d := by
  cases d with
  | tuple xs =>
    have h : xs.all isIntD = true := h
    have : ∀ xs : List D, xs.all isIntD = true → erL xs = xs := by
      intro xs
      induction xs with
      | nil => intro _; simp [erL]
      | cons x xs ih =>
        intro h
        rw [List.all_cons, Bool.and_eq_true] at h
        rw [erL, ih h.2]
        cases x <;> simp [isIntD] at h <;> simp [er]
    rw [er, this xs h]
  | _ => cases h
theorem srtOk_of {b : Bool} {ds : List D} (h : srtOk b ds = true) : AllAlike (ds.map (keyF b)) ∧ Sortable (ds.map (keyF b)) ∧ (∀ d ∈ ds, (keyF b d).depth ≤ 60) ∧ ∀ d ∈ ds, isTupI d = true := by
  unfold srtOk at h
  obtain ⟨h1, h2⟩ := bnd h
  obtain ⟨a, b', c⟩ := sortOk1_of h1
  exact ⟨a, b', fun d hd => c _ (List.mem_map_of_mem hd), fun d hd => List.all_eq_true.mp h2 d hd⟩
theorem sortK_rp (hc : X.calm = true) (hR : Room 0 X.A) (hlen : X.mg "len" = none) (I : Inv X pins σ H s) {v : V} {d : D} {u : Value} {ds : List D} {fa : Addr} {b : Bool} (f : Fit N H) (h : RpB N H v d) (r : L2.RelV v u) (hs : seqD d = some ds) (ok : srtOk b ds = true)
    (kl : KLam b s.heap fa) {E : Value → Shared → Prop} {Q : VK} (o : Out true N H (.list (srtBy b ds)) Q) :
    wpAny (model X.prog X.w) X.A (call (.builtin "sorted") [u] [(Str.ofString "key", .ref fa)]) (EP X pins σ Q) E s := by
  obtain ⟨hal, hso, hdp, htu⟩ := srtOk_of ok
  have hu := hR.units
  refine PyProof.Rows.call_function_entry_kw PyProof.Rows.kind_sorted PyProof.Rows.plain_sorted PyProof.Rows.entry_sorted (ksk_s1 _ _) ?_
  unfold Builtin.«sorted»
  refine wpAny_bind (m := checkCount "sorted" 1 1 _) (wpAny_pure ?_)
  refine wpAny_bind (collect_rp2 hc I (A := X.A.in1) rfl f h r hs fun s' us vs I' rv rr hz ks => ?_)
  have hl := rv.length
  have hl2 := rr.length
  have hn : H s'.heap.objs.size = none := I'.hok.fresh (Nat.le_refl _)
  refine wpAny_bind (wpAny_newList ?_ (by omega))
  have hoL : (s'.heap.push (seqObj "list" us.toArray 0)).get? s'.heap.objs.size = some (seqObj "list" us.toArray 0) := Heap.get?_push_size _ rfl
  show wpAny _ _ _ _ _ { s' with heap := s'.heap.push (seqObj "list" us.toArray 0) }
  have hzip : (vs.zip ds).map (·.2) = ds := map_snd_zip' hl2
  have hkz : (vs.zip ds).map (fun p => keyF b p.2) = ds.map (keyF b) := by
    rw [← hzip, List.map_map]
    congr 1
    rw [hzip]
  have ee := each_of rv rr
  have mem2 : ∀ p ∈ vs.zip ds, p.2 ∈ ds := fun p hp => by
    have := List.mem_map_of_mem (f := fun p : V × D => p.2) hp
    rwa [hzip] at this
  refine wpAny_bind (wpAny_holding (list_sort_key_data (β := V × D) (b := false) (fun p => keyF b p.2) (R := fun u (p : V × D) => L2.RelV p.1 u ∧ Rp N H p.1 p.2) (bs := vs.zip ds) (s := { s' with heap := s'.heap.push (seqObj "list" us.toArray 0) }) hoL ee
    (by rw [hkz]; exact hal) (by rw [hkz]; exact hso) (by rw [List.length_zip]; omega) (fun p hp => ?_) (ksk_l1 _ _) (ksk_t1 _ _) (fun u p hp hm h2 tk kp => ?_) (fun out c h2 tk kp hD hlo eo => ?_)))
  · have := hdp _ (mem2 p hp)
    show X.A.in1.units + 1 + (keyF b p.2).depth < cLine
    have e1 : X.A.in1.units = X.A.units + 1 := rfl
    omega
  · obtain ⟨hp1, hp2⟩ := hp
    have k2 : ∀ a o, s'.heap.get? a = some o → h2.get? a = some o := fun a o e => kp a o (Nat.ne_of_lt (Heap.lt_size e)) (Heap.get?_push_of_some _ e)
    have hti := htu _ (mem2 p hm)
    obtain ⟨pv, pd⟩ := p
    cases pd with
    | tuple xs =>
      obtain ⟨as, q1, _⟩ := hp2.reads I' hp1
      rw [er_tupI hti] at q1
      have e0 := reads_nil q1 hti
      subst e0
      obtain ⟨t, ys, hv, ha, ry⟩ := (RpB.of hp2).tup_of
      simp only at hv hp1
      subst hv
      cases hp1
      obtain ⟨its, rvi, p', hz'⟩ := I'.tuple (SqT.of ha)
      have e1 := rvi.length
      have e2 := ry.length
      obtain ⟨mb, m1, m2⟩ := I'.mod.blt
      have z63 := line63
      have kk : KLam b h2 fa := (kl.keeps ks).keeps k2
      exact kk.run (s := { s' with heap := h2, toks := tk }) ((I'.mod.glob.keeps I'.bk).keeps k2) hlen ((m1.keeps I'.bk).keeps k2) ((m2 _ (by decide)).trans rfl) (I'.nolimit.keeps k2) hR.depth (p'.keeps k2) (by simp only [List.size_toArray]; omega) (PyProof.Rows.Reads.keeps k2 q1) (by simp only [List.size_toArray]; omega)
    | _ => cases hti
  · obtain ⟨g1, g2⟩ := of_each eo
    have es : ((vs.zip ds).mergeSort (dataLe false fun p => keyF b p.2)).map (·.2) = srtBy b ds := by
      unfold srtBy
      have q := sort_maps (r := dataLe false fun p : V × D => keyF b p.2) (s := dataLe false (keyF b)) (fun p : V × D => p.2) (l := vs.zip ds) (fun _ _ _ _ => rfl)
      rw [hzip] at q
      exact q
    rw [es] at g2
    generalize ((vs.zip ds).mergeSort (dataLe false fun p => keyF b p.2)).map (·.1) = ws at g1 g2
    have hw := g1.length
    have hzl : (vs.zip ds).length = ds.length := by rw [List.length_zip]; omega
    refine wpAny_pure ⟨_, rfl, .ref s'.heap.objs.size, upd H s'.heap.objs.size (.lst ws), I'.laid (t' := tk) (fun b u e => ?_) (Nat.le_refl _) (show ObjOk X.prog X.w _ _ _ (.lst ws) from ⟨by omega, out, c, g1, hD⟩), rfl, o.newL f g2 _ hn⟩
    exact kp _ _ (Nat.ne_of_lt (Heap.lt_size e)) (Heap.get?_push_of_some _ e)
end
/-- the table of the def that makes a lambda -/
structure TabX (X : Cx) : Prop where
  room : Room 0 X.A
  ex : ∃ c P, X.env.code = .ref c ∧ LamX.TabB X.base X.mg c P ∧ (P, X.env.qual ++ "<lambda>") ∈ Tb.T ∧ ∀ p ∈ Tb.T, p.1 = P → p.2 = X.env.qual ++ "<lambda>"
section
variable {C : Calls} {tb : List (Str × Nat)} {X : Cx}
theorem okK (G : Good tb C X) (TX : TabX X) {a k : E} {w : Nat} {z : PySem.Expr} (h : chkK X.N tb a w X.env.scope z = true) : PE X z (tE C (.srt a w k)) := by
  unfold chkK at h; split at h
  · rename_i fn p1 x kn ps body scope lpos kpos pos
    obtain ⟨h, h8⟩ := bnd h
    obtain ⟨h, h7⟩ := bnd h
    obtain ⟨h, h6⟩ := bnd h
    obtain ⟨h, h5⟩ := bnd h
    obtain ⟨h, h4⟩ := bnd h
    obtain ⟨h, h3⟩ := bnd h
    obtain ⟨h1, h2⟩ := bnd h
    have e1 := of_decide_eq_true h1
    have e5 := of_decide_eq_true h5
    subst e1 e5
    have L := lamOk_of h7
    obtain ⟨c, P0, hcode, TB, hm, huq⟩ := TX.ex
    have hst : starEach [x] X.env = [(false, eval x X.env)] := star_eq h3
    refine ⟨fun pins s σ H Q I hq => ?_⟩
    obtain ⟨S, P, ρ, Q0, R, he, hF⟩ := hq
    refine wpAny_Call_Name_kw (ld_blt I (gl_of h2) (G.blt _ (by simp)) (by decide +kernel : bootBuiltins "sorted" = some (.builtin "sorted")) ?_ (by decide) (by decide))
    refine PyProof.Rows.callWith_kw ?_ (by rw [hst]; rfl) (by rw [hst]; rfl) (by rfl) (by rfl)
    rw [hst]
    have arg := (bo_of (var_ok h4) (okE a X x G h4)).run pins s σ H (fun v H1 => ∃ d ds, seqD d = some ds ∧ srtOk (w == 1) ds = true ∧ Q0 (.list (srtBy (w == 1) ds)) ∧ Ext S.dom H H1 ∧ S.inv H1 ∧ RpS S (Nn P ρ σ) H1 v d) I ⟨S, P, ρ, _, R, he, fun d ⟨ds, q1, q2, q3⟩ v H1 e i r => ⟨d, ds, q1, q2, q3, e, i, r⟩⟩
    refine Calls.spliced_cons (thn arg fun u s1 ⟨v, H1, I1, r1, d, ds, q1, q2, q3, e1, i1, rp⟩ => Calls.spliced_nil ?_)
    obtain ⟨_, _, _, _, hd, hi⟩ := S.shape
    have hT := ((hi H1).mp i1).2
    show wpAny _ _ (evalAll [(do let v ← eval (.Lambda ps body scope lpos) X.env; standAt pos; pure v)]) _ _ s1
    refine wpAny_evalAll_cons (wpAny_bind (lamk_make I1 TB hcode (hT _ hm) (lam_dflt h6 _) (fun y hy => L.free y hy) fun f c' pm ctv H2 s2 I2 kp t2 hf hco => wpAny_bind (wpAny_standAt (wpAny_pure (wpAny_evalAll_nil ?_)))))
    have e2 : Ext S.dom H1 H2 := fun b o hb n => kp b o (fun z => n ((hd b).mpr (.inr ⟨_, hm, z⟩))) hb
    have s2' : SrcI _ _ H1 := ((hi H1).mp i1).1
    have i2 : S.inv H2 := by
      refine (hi H2).mpr ⟨?_, fun p hp => ?_⟩
      · obtain ⟨xs, a1, a2, a3, g⟩ := s2'
        obtain ⟨psP, hP, _⟩ := hT _ hm
        refine ⟨xs, a1, a2, a3, kp _ _ (fun z => ?_) g.d, kp _ _ (fun z => ?_) g.l⟩
        · rw [← z, g.d] at hP; cases hP
        · rw [← z, g.l] at hP; cases hP
      · by_cases hz : p.1 = P0
        · rw [hz, huq p hp hz]; exact t2
        · obtain ⟨ps', b1, b2, b3⟩ := hT p hp
          refine ⟨ps', kp _ _ hz b1, b2, fun pos cv hcv => ?_⟩
          obtain ⟨c0, f1, f2⟩ := b3 pos cv hcv
          obtain ⟨psP, hP, _⟩ := hT _ hm
          exact ⟨c0, f1, kp _ _ (fun z => by rw [z, hP] at f2; cases f2) f2⟩
    have R1 := R.ext e1 i1
    have R2 := R1.ext e2 i2
    have rp2 := rp.ext R1.fit R1.domN e2
    obtain ⟨⟨oc, vs, t, hoc, hdc, hvc⟩, _, _⟩ := I2.hok c' _ hco
    refine sortK_rp G.calm TX.room (G.blt _ (by simp)) I2 R2.fit rp2.1 (by exact r1) q1 q2 ⟨⟨_, ps, body, scope, _, pm, c', ctv, hf, h6, L, h8, c', oc, vs, t, rfl, hoc, hdc, hvc⟩⟩ (fun v' H' e' r' fr => ?_)
    have e3 : Ext S.dom H H' := (e1.trans e2).trans (e'.any _)
    refine hF _ q3 v' H' e3 (S.ext i2 e') r' fun h1 h2 => ?_
    obtain ⟨p, g1, g2, g3⟩ := fr h1 h2
    refine ⟨p, g1, ?_, g3⟩
    cases hp : H p with
    | none => rfl
    | some o =>
      by_cases hz : S.dom p
      · obtain ⟨o', ho', _⟩ := (S.fit H2 i2).dom p hz
        rw [g2] at ho'; cases ho'
      · have := (e1.trans e2) p o hp hz
        rw [g2] at this; cases this
  · cases h
end
end
set_option maxHeartbeats 2000000
/-! PDs: assignments side by side; name = value. -/
section
open PySem L2
variable [Tb]
section
variable {S : Src} {P : Zn} {ρ : Nv} {σ : L2.St} {H : Hp}
inductive PBs (M : Zn) (H : Hp) : List Addr → List V → List (Nat × B) → Prop
  | nil : PBs M H [] [] []
  | sh {ps v vs i d bs} : Rp M H v d → PBs M H ps vs bs → PBs M H ps (v :: vs) ((i, .sh d) :: bs)
  | own {ps p vs i d bs} : isL d = true → RpB M H (.ref p) d → M p → p ∉ ps → PBs M H ps vs bs → PBs M H (p :: ps) (.ref p :: vs) ((i, .own d) :: bs)
theorem PBs.length {M : Zn} : ∀ {ps : List Addr} {vs : List V} {bs : List (Nat × B)}, PBs M H ps vs bs → vs.length = bs.length
  | _, _, _, .nil => rfl
  | _, _, _, .sh _ t => by simp [PBs.length t]
  | _, _, _, .own _ _ _ _ t => by simp [PBs.length t]
/-- a place kept away is a slot's own -/
theorem Rel.take {P1 : Zn} {p : Addr} {d : D} {i : Nat} (R : Rel S P1 ρ σ H) (h1 : ∀ a, P a → P1 a) (h2 : ∀ a, P1 a → P a ∨ a = p) (hp : P1 p) (np : ¬ P p) (hs : ∀ a, S.dom a → P a) (l : isL d = true) (rb : RpB (Nn P1 ρ σ) H (.ref p) d) :
    Rel S P (ρ.set i (some (.own d))) (σ.set i (some (.ref p))) H := by
  have hN : ∀ a, Nn P (ρ.set i (some (.own d))) (σ.set i (some (.ref p))) a → Nn P1 ρ σ a := fun a z => by
    rcases z with z | z
    · exact .inl (h1 a z)
    · rcases own_setO z with z | ⟨j, e, _, h3, h4⟩
      · exact .inl (z ▸ hp)
      · exact .inr ⟨j, e, h3, h4⟩
  have other : ∀ (j : Nat) (f : D), ρ[j]? = some (some (.own f)) → ∀ a, σ[j]? = some (some (.ref a)) → a ≠ p := fun j f h3 a h4 z => by
    obtain ⟨b, q, _, _, n⟩ := R.own j f h3
    rw [h4] at q; cases q
    exact n (z ▸ hp)
  refine ⟨by simp [R.len], hs, ⟨fun a z => R.fitP.dom a (h1 a z)⟩, R.inv, fun j f h => ?_, fun j f h => ?_, fun j k f g a h3 h4 h5 h6 => ?_, fun j h => ?_⟩
  · rcases set_get h with ⟨_, q, _⟩ | ⟨hj, h⟩
    · cases q
    · obtain ⟨v, q, r⟩ := R.sh j f h
      exact ⟨v, by rw [List.getElem?_set_ne hj]; exact q, r.less hN⟩
  · rcases set_get h with ⟨rfl, q, hl⟩ | ⟨hj, h⟩
    · cases q
      exact ⟨p, by rw [List.getElem?_set_self (by rw [← R.len]; exact hl)], l, rb.less hN, np⟩
    · obtain ⟨a, q, l', r, n⟩ := R.own j f h
      exact ⟨a, by rw [List.getElem?_set_ne hj]; exact q, l', r.less hN, fun z => n (h1 a z)⟩
  · rcases set_get h3 with ⟨rfl, _, hl⟩ | ⟨hj, h3⟩
    · rcases set_get h4 with ⟨rfl, _, _⟩ | ⟨hk, h4⟩
      · rfl
      · rw [List.getElem?_set_self (by rw [← R.len]; exact hl)] at h5; cases h5
        rw [List.getElem?_set_ne hk] at h6
        exact absurd rfl (other k g h4 _ h6)
    · rw [List.getElem?_set_ne hj] at h5
      rcases set_get h4 with ⟨rfl, _, hl⟩ | ⟨hk, h4⟩
      · rw [List.getElem?_set_self (by rw [← R.len]; exact hl)] at h6; cases h6
        exact absurd rfl (other j f h3 _ h5)
      · rw [List.getElem?_set_ne hk] at h6
        exact R.dis j k f g a h3 h4 h5 h6
  · rcases set_get h with ⟨_, q, _⟩ | ⟨hj, h⟩
    · cases q
    · rw [List.getElem?_set_ne hj]; exact R.src j h
/-- a place that was new is kept away from now on -/
def setsV : L2.St → List Nat → List V → L2.St
  | σ, i :: is, v :: vs => setsV (σ.set i (some v)) is vs
  | σ, _, _ => σ
theorem sets_rel : ∀ {ps : List Addr} {vs : List V} {bs : List (Nat × B)} {M : Zn} {ρ : Nv} {σ : L2.St}, (∀ a, S.dom a → P a) → Rel S (fun a => P a ∨ a ∈ ps) ρ σ H → (∀ a, Nn (fun a => P a ∨ a ∈ ps) ρ σ a → M a) → (∀ p ∈ ps, ¬ P p) → PBs M H ps vs bs →
    Rel S P (sets ρ bs) (setsV σ (bs.map (·.1)) vs) H ∧ ∀ a, OwnAt (sets ρ bs) (setsV σ (bs.map (·.1)) vs) a → OwnAt ρ σ a ∨ a ∈ ps
  | _, _, _, M, ρ, σ, hs, R, hM, hn, .nil => by
    have e : (fun a => P a ∨ a ∈ ([] : List Addr)) = P := by funext a; simp
    rw [e] at R
    exact ⟨R, fun a z => .inl z⟩
  | ps, _, _, M, ρ, σ, hs, R, hM, hn, .sh (i := i) (v := v) (d := d) r t => by
    have R1 := R.set i (r.less hM)
    obtain ⟨R2, h2⟩ := sets_rel hs R1 (fun a z => hM a (z.elim .inl fun z => .inr (own_set z))) hn t
    exact ⟨R2, fun a z => (h2 a z).elim (fun z => .inl (own_set z)) .inr⟩
  | p :: ps, .ref _ :: _, (i, .own d) :: _, M, ρ, σ, hs, R, hM, hn, .own l rb hMp hnp t => by
    have R1 : Rel S (fun a => P a ∨ a ∈ ps) (ρ.set i (some (.own d))) (σ.set i (some (.ref p))) H :=
      R.take (p := p) (fun a z => z.elim .inl fun z => .inr (List.mem_cons_of_mem _ z)) (fun a z => z.elim (fun z => .inl (.inl z)) fun z => (List.mem_cons.mp z).elim .inr fun z => .inl (.inr z)) (.inr (List.mem_cons_self ..))
        (fun z => z.elim (hn p (List.mem_cons_self ..)) hnp) (fun a z => .inl (hs a z)) l (rb.less hM)
    have hM1 : ∀ a, Nn (fun a => P a ∨ a ∈ ps) (ρ.set i (some (.own d))) (σ.set i (some (.ref p))) a → M a := fun a z => by
      rcases z with z | z
      · exact hM a (.inl (z.elim .inl fun z => .inr (List.mem_cons_of_mem _ z)))
      · rcases own_setO z with z | ⟨j, e, _, h3, h4⟩
        · exact z ▸ hMp
        · exact hM a (.inr ⟨j, e, h3, h4⟩)
    obtain ⟨R2, h2⟩ := sets_rel hs R1 hM1 (fun q hq => hn q (List.mem_cons_of_mem _ hq)) t
    · refine ⟨R2, fun a z => (h2 a z).elim (fun z => ?_) fun z => .inr (List.mem_cons_of_mem _ z)⟩
      rcases own_setO z with z | ⟨j, e, _, h3, h4⟩
      · exact .inr (z ▸ List.mem_cons_self ..)
      · exact .inl ⟨j, e, h3, h4⟩
end
/-- several values, some of them new -/
def tPr (C : Calls) (is : List (Bool × Nat)) (es : Es) : TA := fun σ H Q => ∃ S P ρ Q0, Rel S P ρ σ H ∧ parW C is es ρ Q0 ∧ ∀ bs, Q0 bs → ∀ ps vs H', Ext S.dom H H' → S.inv H' → Rel S (fun a => P a ∨ a ∈ ps) ρ σ H' → (∀ p ∈ ps, H p = none) →
  PBs (Nn (fun a => P a ∨ a ∈ ps) ρ σ) H' ps vs bs → bs.map (·.1) = is.map (·.2) → Q vs H'
section
variable {C : Calls} {X : Cx} {tb : List (Str × Nat)} {D : Ends} {σ : L2.St} {H : Hp}
theorem pr_nil : PA X [] (tPr C [] .nil) := PA.weak pa_nil fun σ H Q ⟨S, P, ρ, Q0, R, h, q⟩ => q _ h [] [] H Ext.refl R.inv (by
  have e : (fun a => P a ∨ a ∈ ([] : List Addr)) = P := by funext a; simp
  rw [e]; exact R) (fun p hp => by cases hp) .nil rfl
theorem pr_cons {o : Bool} {i : Nat} {is : List (Bool × Nat)} {e : E} {r : Es} {x : PySem.Expr} {xs : List PySem.Expr} (ho : o = true → frE e = true) (he : PE X x (tE C e)) (hr : PA X xs (tPr C is r)) (hs : notStar x = true) : PA X (x :: xs) (tPr C ((o, i) :: is) (.cons e r)) := by
  have hst : starEach (x :: xs) X.env = (false, eval x X.env) :: starEach xs X.env := by cases x <;> first | rfl | cases hs
  refine PA.weak (pa_cons he hr hst) fun σ H Q ⟨S, P, ρ, Q0, R, h, q⟩ => ⟨S, P, ρ, _, R, h, fun d hd v H1 e1 i1 r1 fs => ?_⟩
  obtain ⟨hl, hd⟩ := hd
  have R1 := R.ext e1 i1
  cases o with
  | false =>
    refine ⟨S, P, ρ, _, R1, hd, fun bs hb ps vs H2 e2 i2 R2 hp pb hm => q _ hb ps (v :: vs) H2 (e1.trans e2) i2 R2 (fun p z => fresh_trans i1 e1 (hp p z)) (.sh ?_ pb) (by simp [hm])⟩
    refine r1.move (e2.mono R1.domN) R1.fit fun a z => ?_
    rcases z with (z | z) | z
    · exact .inl (.inl z)
    · exact .inr (hp a z)
    · exact .inl (.inr z)
  | true =>
    obtain ⟨p, rfl, np, rb⟩ := fs (ho rfl) (hl rfl)
    obtain ⟨ob, hob, mob⟩ := rb.list_at (hl rfl)
    have Rp1 := R.prot2 e1 i1 np hob mob
    refine ⟨S, _, ρ, _, Rp1, hd, fun bs hb ps vs H2 e2 i2 R2 hp pb hm => ?_⟩
    have eP : (fun a => (P a ∨ a = p) ∨ a ∈ ps) = fun a => P a ∨ a ∈ p :: ps := by funext a; simp [or_assoc]
    rw [eP] at R2 pb
    have npp : p ∉ ps := fun z => by have := hp p z; rw [hob] at this; cases this
    have nD : ¬ S.dom p := fun z => by
      obtain ⟨o', ho', _⟩ := (S.fit H R.inv).dom p z
      rw [np] at ho'; cases ho'
    refine q _ hb (p :: ps) (.ref p :: vs) H2 (e1.trans e2) i2 R2 (fun a z => (List.mem_cons.mp z).elim (fun z => z ▸ np) fun z => fresh_trans i1 e1 (hp a z)) (.own (hl rfl) ?_ (.inl (.inr (List.mem_cons_self ..))) npp pb) (by simp [hm])
    refine rb.move (N := fun a => Nn P ρ σ a ∨ a = p) (e2.mono fun a z => .inl (R.domN a z)) ⟨fun a z => ?_⟩ (fun a z => ?_) (fun b o' eb hb' => by cases eb; exact e2 _ o' hb' nD)
    · rcases z with z | rfl
      · exact R1.fit.dom a z
      · exact ⟨ob, hob, .of mob⟩
    · rcases z with (z | z) | z
      · exact .inl (.inl (.inl z))
      · exact (List.mem_cons.mp z).elim (fun z => .inl (.inr z)) fun z => .inr (hp a z)
      · exact .inl (.inl (.inr z))
/-- what follows: the names hold the values -/
theorem w_par {is : List (Bool × Nat)} {es : Es} (h : tS C (.par is es) D σ H) : tPr C is es σ H fun vs H1 => vs.length = is.length ∧ ∀ H2, Ext No H1 H2 → D.nx (setsV σ (is.map (·.2)) vs) H2 := by
  obtain ⟨S, P, ρ, K, R, h, f⟩ := h
  refine ⟨S, P, ρ, _, R, h, fun bs hk ps vs H1 e1 i1 R1 hp pb hm => ⟨?_, fun H2 e2 => ?_⟩⟩
  · rw [pb.length, ← List.length_map (f := (·.1)), hm, List.length_map]
  · have R2 := R1.ext0 e2
    have hn : ∀ p ∈ ps, ¬ P p := fun p z w => by
      obtain ⟨o, ho, _⟩ := R.fitP.dom p w
      rw [hp p z] at ho; cases ho
    have pb2 : PBs (Nn (fun a => P a ∨ a ∈ ps) ρ σ) H2 ps vs bs := by
      clear hk hm
      generalize hM : Nn (fun a => P a ∨ a ∈ ps) ρ σ = M at pb ⊢
      have fM : Fit M H1 := hM ▸ R1.fit
      clear hM R2 R1 hn hp
      induction pb with
      | nil => exact .nil
      | sh r t ih => exact .sh (r.ext (e2.any _) fM) ih
      | own l rb hMp hnp t ih => exact .own l (rb.ext e2 fM) hMp hnp ih
    obtain ⟨R3, h3⟩ := sets_rel R.sub R2 (fun a z => z) hn pb2
    rw [hm] at R3 h3
    exact f.nx _ _ _ hk R3 ⟨(e1.trans (e2.any _)).mono fun _ z => .inl z, fun a z => (h3 a z).elim .inl fun z => .inr (hp a z), S.ext i1 e2⟩
end
end
set_option maxHeartbeats 4000000
/-! PDt: every text is as its compact form says. -/
section
open PySem L2
variable [Tb]
theorem swap_name {X : Cx} (hk : X.env.scope.kind = .function) {v : PySem.Expr} {x : Str} {p : Pos} {l : Nat} : swapsWith v (some (.Name x p)) l X.env = pure (swB X.env.scope v x p) := by
  have hb : (X.env.blockKind == ScopeKind.function) = true := by unfold Env.blockKind; rw [hk]; rfl
  cases v <;> first
    | rfl
    | (unfold swapsWith swB; simp only [hb, Bool.true_and]; rfl)
theorem swap_none {X : Cx} {v : PySem.Expr} {l : Nat} (h : isComp v = false) : swapsWith v none l X.env = pure false := by
  cases v <;> first | rfl | cases h
theorem swap_sole {X : Cx} {v t : PySem.Expr} {l : Nat} (h : notNameT t = true) : swapsWithSole [t] v l X.env = pure false := by
  cases t <;> first | (cases h; done) | (cases v <;> rfl)
theorem sw_stores0 {X : Cx} {t v : PySem.Expr} (h : isTuple v = false) : swappedStores [t] v X.env = pure none := by
  cases v <;> first | (cases h; done) | (cases t <;> rfl)
theorem sw_stores {X : Cx} (hk : X.env.scope.kind = .function) {ts vs : List PySem.Expr} {k k2 p p2} {o : Option (List Str)} (h : swS X.env.scope ts vs = some o) : swappedStores [.Tuple ts k p] (.Tuple vs k2 p2) X.env = pure o := by
  have hb : (X.env.blockKind != ScopeKind.function) = false := by unfold Env.blockKind; rw [hk]; rfl
  unfold swS at h
  unfold swappedStores
  simp only [pure_bind]
  rw [hb, Bool.or_false]
  split at h
  · rename_i h1; cases h; exact if_pos h1
  · rename_i h1; refine (if_neg h1).trans ?_
    split at h
    · rename_i h2; cases h; exact if_pos h2
    · rename_i h2; refine (if_neg h2).trans ?_
      simp only at h
      split at h
      · rename_i h3; cases h; exact if_pos h3
      · rename_i h3; refine (if_neg h3).trans ?_
        split at h
        · rename_i h4; cases h; exact if_pos h4
        · rename_i h4; refine (if_neg h4).trans ?_
          split at h
          · cases h
          · rename_i h5; cases h; exact if_neg h5

structure Stm (X : Cx) : Prop where
  kind : X.env.scope.kind = .function
  fn : ∀ x, X.fn x = true
  own : PassesOwn (model X.prog X.w) X.A X.env X.xe
section
variable {C : Calls} {tb : List (Str × Nat)} {X : Cx}
theorem loc_of {sc : Scope} {x : Str} (h : locB sc x = true) : L2.Loc sc x := by
  unfold locB at h; unfold L2.Loc
  split at h <;> first | exact .inl (by assumption) | exact .inr (by assumption) | cases h
def gNs : List (Bool × Nat) → TGs
  | [] => gNil
  | (_, i) :: r => gCons (gName i) (gNs r)
theorem gNs_run {H : Hp} {Q : L2.St → Hp → Prop} : ∀ {is : List (Bool × Nat)} {vs : List V} {σ : L2.St}, vs.length = is.length → Q (setsV σ (is.map (·.2)) vs) H → gNs is vs σ H Q
  | [], [], σ, _, q => ⟨rfl, q⟩
  | (_, i) :: r, v :: vs, σ, h, q => ⟨v, vs, rfl, gNs_run (is := r) (by simpa using h) q⟩
theorem pgs_names (G : Good tb C X) (M : Stm X) : ∀ {is : List (Bool × Nat)} {ts : List PySem.Expr}, chkNames X.N X.env.scope is ts = true → PGs X ts (gNs is)
  | [], [], _ => pgs_nil
  | (_, i) :: r, .Name x p :: ts, h => by
    unfold chkNames at h
    obtain ⟨h, h3⟩ := bnd h
    obtain ⟨h1, h2⟩ := bnd h
    exact pgs_cons (pg_name (i := i) G.nd (of_decide_eq_true h1) (loc_of h2) (.inl (M.fn x))) (pgs_names G M h3) rfl
theorem names_shape {N : List Str} {sc : Scope} {env : PySem.Env} : ∀ {is : List (Bool × Nat)} {ts : List PySem.Expr}, chkNames N sc is ts = true → (assignEach ts env).length = is.length ∧ (assignEach ts env).findIdx? (·.1) = none ∧ ts.length = is.length
  | [], [], _ => ⟨rfl, rfl, rfl⟩
  | (_, i) :: r, .Name x p :: ts, h => by
    unfold chkNames at h
    obtain ⟨h, h3⟩ := bnd h
    obtain ⟨a1, a2, a3⟩ := names_shape (env := env) h3
    refine ⟨?_, ?_, by simp [a3]⟩
    · show ((false, assign (.Name x p) env) :: assignEach ts env).length = _
      simp [a1]
    · show ((false, assign (.Name x p) env) :: assignEach ts env).findIdx? (·.1) = none
      rw [List.findIdx?_cons, a2]; rfl
theorem okPr (G : Good tb C X) : ∀ {is : List (Bool × Nat)} {es : Es} {xs : List PySem.Expr}, chkEs X.N tb es X.env.scope xs = true → xs.all notStar = true → parFr is es = true → PA X xs (tPr C is es)
  | [], .nil, xs, h, _, _ => by
    unfold chkEs at h; split at h
    · exact pr_nil
    · cases h
  | (o, i) :: is, .cons e r, xs, h, hs, hp => by
    unfold chkEs at h; split at h
    · rename_i x xs
      obtain ⟨h, h3⟩ := bnd h
      obtain ⟨h1, h2⟩ := bnd h
      unfold parFr at hp
      obtain ⟨p1, p2⟩ := bnd hp
      exact pr_cons (fun ho => by rw [ho] at p1; simpa using p1) (okE e X x G h2) (okPr G h3 (by rw [List.all_cons] at hs; exact (bnd hs).2) p2) h1
    · cases h
  | [], .cons _ _, _, _, _, h => by unfold parFr at h; cases h
  | [], .star _ _, _, _, _, h => by unfold parFr at h; cases h
  | _ :: _, .nil, _, _, _, h => by unfold parFr at h; cases h
  | _ :: _, .star _ _, _, _, _, h => by unfold parFr at h; cases h
theorem tPr_mono {is : List (Bool × Nat)} {es : Es} {σ : L2.St} {H : Hp} {Q Q' : List V → Hp → Prop} (h : tPr C is es σ H Q) (w : ∀ vs H', Q vs H' → Q' vs H') : tPr C is es σ H Q' := by
  obtain ⟨S, P, ρ, Q0, R, h, q⟩ := h
  exact ⟨S, P, ρ, Q0, R, h, fun bs hb ps vs H' e i R' hp pb hm => w _ _ (q bs hb ps vs H' e i R' hp pb hm)⟩
theorem swS_len {sc : Scope} {ts vs : List PySem.Expr} {ns : List Str} (h : swS sc ts vs = some (some ns)) : vs.length = ts.length := by
  unfold swS at h
  split at h
  · cases h
  · rename_i h1
    simp only [Bool.or_eq_true, not_or, bne_iff_ne, ne_eq, Decidable.not_not] at h1
    exact h1.2
theorem z64 : 64 ≤ sizeLine := by decide
theorem ok_par (G : Good tb C X) (M : Stm X) {is : List (Bool × Nat)} {es : Es} {z : PySem.Stmt} (h : chkS X.N tb X.env.scope (.par is es) z = true) : PS X z (tS C (.par is es)) := by
  unfold chkS at h
  split at h
  · rename_i ts k pt vs k2 pt2 pos
    obtain ⟨h, h6⟩ := bnd h
    obtain ⟨h, h7⟩ := bnd h
    obtain ⟨h, h5⟩ := bnd h
    obtain ⟨h, h4⟩ := bnd h
    obtain ⟨h, h3⟩ := bnd h
    obtain ⟨h1, h2⟩ := bnd h
    have pa := okPr G h2 h3 h4
    obtain ⟨n1, n2, n3⟩ := names_shape (env := X.env) h1
    have nd : (is.map (·.2)).Nodup := of_decide_eq_true h5
    have h64 : is.length ≤ 64 := of_decide_eq_true h7
    have := z64
    split at h6
    · rename_i hsw
      refine PS.weak (ps_asg (pe_tup pa) (pg_tup G.calm (pgs_names G M h1) n1 n2) (swap_sole rfl) (sw_stores M.kind hsw) rfl) fun Dd σ H h => ?_
      refine tPr_mono (w_par h) fun vs H1 ⟨hl, hq⟩ => ⟨by omega, fun p hp => ⟨p, vs, rfl, SqT.of upd_same, hl, gNs_run hl (hq _ (Ext.new hp))⟩⟩
    · rename_i ns hsw
      obtain ⟨g6, h8⟩ := bnd h6
      obtain ⟨g, h9⟩ := bnd g6
      have hns := of_decide_eq_true h8
      subst hns
      have hvl := swS_len hsw
      rw [Bool.or_eq_true] at g
      rcases g with g | g
      · have hl := of_decide_eq_true g
        obtain ⟨i, j, e⟩ : ∃ i j, is = [i, j] := by
          match is, n3.symm.trans hl with
          | [i, j], _ => exact ⟨i, j, rfl⟩
        subst e
        obtain ⟨_, i⟩ := i
        obtain ⟨_, j⟩ := j
        rw [hl] at hvl
        clear h2 h3 n1 n2 n3 h6 g6 h8 h
        obtain ⟨x, px, y, py, ets⟩ : ∃ x px y py, ts = [.Name x px, .Name y py] := by
          match ts, hl, h9 with
          | [a, b], _, h9 =>
            cases a <;> first | (simp [isLoc] at h9; done) | skip
            cases b <;> first | (simp [isLoc] at h9; done) | skip
            exact ⟨_, _, _, _, rfl⟩
        subst ets
        simp only [chkNames, Bool.and_eq_true, decide_eq_true_eq] at h1
        simp only [List.all_cons, List.all_nil, isLoc, Bool.and_eq_true, decide_eq_true_eq] at h9
        have hij : i ≠ j := by simpa using nd
        match vs, hvl, pa, hsw with
        | [a, b], _, pa, hsw =>
          refine PS.weak (ps_par G.calm G.nd h1.1.1 h1.2.1.1 hij h9.1 h9.2.1 pa (sw_stores M.kind hsw) (swap_sole rfl)) fun Dd σ H h => ?_
          refine tPr_mono (w_par h) fun vs H1 ⟨hl, hq⟩ => ?_
          match vs, hl with
          | [v, w], hl => exact ⟨v, w, rfl, hq _ Ext.refl⟩
      · have hl := of_decide_eq_true g
        obtain ⟨i, j, l, e⟩ : ∃ i j l, is = [i, j, l] := by
          match is, n3.symm.trans hl with
          | [i, j, l], _ => exact ⟨i, j, l, rfl⟩
        subst e
        obtain ⟨_, i⟩ := i
        obtain ⟨_, j⟩ := j
        obtain ⟨_, l⟩ := l
        rw [hl] at hvl
        clear h2 h3 n1 n2 n3 h6 g6 h8 h
        obtain ⟨x, px, y, py, z, pz, ets⟩ : ∃ x px y py z pz, ts = [.Name x px, .Name y py, .Name z pz] := by
          match ts, hl, h9 with
          | [a, b, c], _, h9 =>
            cases a <;> first | (simp [isLoc] at h9; done) | skip
            cases b <;> first | (simp [isLoc] at h9; done) | skip
            cases c <;> first | (simp [isLoc] at h9; done) | skip
            exact ⟨_, _, _, _, _, _, rfl⟩
        subst ets
        simp only [chkNames, Bool.and_eq_true, decide_eq_true_eq] at h1
        simp only [List.all_cons, List.all_nil, isLoc, Bool.and_eq_true, decide_eq_true_eq] at h9
        have hij : i ≠ j ∧ i ≠ l ∧ j ≠ l := by simpa [and_assoc] using nd
        match vs, hvl, pa, hsw with
        | [a, b, c], _, pa, hsw =>
          refine PS.weak (ps_par3 G.calm G.nd h1.1.1 h1.2.1.1 h1.2.2.1.1 hij.1 hij.2.1 hij.2.2 h9.1 h9.2.1 h9.2.2.1 pa (sw_stores M.kind hsw) (swap_sole rfl)) fun Dd σ H h => ?_
          refine tPr_mono (w_par h) fun vs H1 ⟨hl, hq⟩ => ?_
          match vs, hl with
          | [u, v, w], hl => exact ⟨u, v, w, rfl, hq _ Ext.refl⟩
    · cases h6
  · cases h
theorem starE1 {env : PySem.Env} {v : PySem.Expr} (h : notStar v = true) : starEach [v] env = (false, eval v env) :: starEach [] env := by
  cases v <;> first | rfl | cases h
theorem comp_lc {N : List Str} {sc : Scope} {e : E} {v : PySem.Expr} (h : chkE N tb e sc v = true) (hc : isComp v = true) (hn : notLck e = true) : ∃ vs g it c elt, e = .lc vs g it c elt := by
  cases e <;> first
    | exact absurd hn Bool.false_ne_true
    | exact ⟨_, _, _, _, _, rfl⟩
    | (exfalso; unfold chkE at h; (try split at h) <;> first | (cases hc; done) | (cases h; done))
    | (exfalso; cases v <;> first | (cases hc; done) | (unfold chkE at h; cases h; done))
theorem pgs_tgs (G : Good tb C X) (M : Stm X) : ∀ {ts : List Tg} {xs : List PySem.Expr}, chkTgs X.N tb X.env.scope ts xs = true → PGs X xs (gTs C ts) ∧ (assignEach xs X.env).length = ts.length ∧ (assignEach xs X.env).findIdx? (·.1) = none
  | [], xs, h => by
    unfold chkTgs at h
    cases xs with
    | nil => exact ⟨pgs_nil, rfl, rfl⟩
    | cons _ _ => cases h
  | .sl i :: ts, xs, h => by
    unfold chkTgs at h
    split at h
    · rename_i x p xs
      obtain ⟨h, h3⟩ := bnd h
      obtain ⟨h1, h2⟩ := bnd h
      obtain ⟨a1, a2, a3⟩ := pgs_tgs G M h3
      refine ⟨pgs_cons (pg_name (i := i) G.nd (of_decide_eq_true h1) (loc_of h2) (.inl (M.fn x))) a1 rfl, ?_, ?_⟩
      · show ((false, assign (.Name x p) X.env) :: assignEach xs X.env).length = _
        simp [a2]
      · show ((false, assign (.Name x p) X.env) :: assignEach xs X.env).findIdx? (·.1) = none
        rw [List.findIdx?_cons, a3]; rfl
    · cases h
  | .su i k :: ts, xs, h => by
    unfold chkTgs at h
    split at h
    · rename_i x p y sp xs
      obtain ⟨h, h4⟩ := bnd h
      obtain ⟨h, h3⟩ := bnd h
      obtain ⟨h1, h2⟩ := bnd h
      obtain ⟨a1, a2, a3⟩ := pgs_tgs G M h4
      refine ⟨pgs_cons (pg_sub (var_of rfl h1) (okE k X y G h3) (set_any G.units) ?_) a1 rfl, ?_, ?_⟩
      · intro u; cases y <;> first | rfl | cases h2
      · show ((false, assign (.Subscript (.Name x p) y sp) X.env) :: assignEach xs X.env).length = _
        simp [a2]
      · show ((false, assign (.Subscript (.Name x p) y sp) X.env) :: assignEach xs X.env).findIdx? (·.1) = none
        rw [List.findIdx?_cons, a3]; rfl
    · cases h
theorem ok_asgm (G : Good tb C X) (M : Stm X) {ts : List Tg} {es : Es} {z : PySem.Stmt} (h : chkS X.N tb X.env.scope (.asgm ts es) z = true) : PS X z (tS C (.asgm ts es)) := by
  unfold chkS at h
  split at h
  · rename_i xs k pt vs k2 pt2 pos
    obtain ⟨h, h4⟩ := bnd h
    obtain ⟨h, h3⟩ := bnd h
    obtain ⟨h1, h2⟩ := bnd h
    obtain ⟨a1, a2, a3⟩ := pgs_tgs G M h1
    split at h4
    · rename_i hsw
      exact PS.weak (ps_asg (pe_tup (okEs es X _ G h2)) (pg_tup G.calm a1 a2 a3) (swap_sole rfl) (sw_stores M.kind hsw) rfl) fun Dd σ H h => w_asgm (of_decide_eq_true h3) h
    · cases h4
  · cases h
mutual
theorem okS (G : Good tb C X) (M : Stm X) : ∀ (s : Sm) (z : PySem.Stmt), (srtS s = true → TabX X) → chkS X.N tb X.env.scope s z = true → PS X z (tS C s)
  | .set o i e, z, L, h => by
    unfold chkS at h; split at h
    · rename_i x p v pos
      obtain ⟨h, hn⟩ := bnd h
      obtain ⟨h, h4⟩ := bnd h
      obtain ⟨h, h3⟩ := bnd h
      obtain ⟨h1, h2⟩ := bnd h
      have ho : o = true → frE e = true := fun z => by rw [z] at h4; simpa using h4
      have hx3 := (chkX_or h3).symm
      clear h3
      rcases hx3 with ⟨a0, w0, k0, ee, hk⟩ | h3
      · subst ee
        have hs : swB X.env.scope v x p = false := by
          unfold chkK at hk; split at hk
          · rfl
          · cases hk
        exact PS.weak (ps_set G.nd (of_decide_eq_true h1) (loc_of h2) (okK G (L rfl) hk) (by rw [swap_name M.kind, hs]) (.inl (M.fn x))) fun D σ H q => w_set ho q
      by_cases hs : swB X.env.scope v x p = true
      · have hc : isComp v = true := by
          unfold swB at hs
          cases v <;> first | rfl | cases hs
        rw [hs, Bool.not_true, Bool.or_false] at hn
        obtain ⟨vs, g, it, c, elt, ee⟩ := comp_lc h3 hc hn
        subst ee
        unfold chkE at h3; split at h3
        · rename_i x0 tg iter ifs scope pos0 _ hh
          obtain ⟨k, k6⟩ := bnd h3
          obtain ⟨k, k5⟩ := bnd k
          obtain ⟨k, k4⟩ := bnd k
          obtain ⟨k, k3⟩ := bnd k
          obtain ⟨k, k2⟩ := bnd k
          obtain ⟨k0, k1⟩ := bnd k
          have hl := of_decide_eq_true k2
          obtain ⟨i1, i2⟩ := okIt it X tg _ G k4
          refine PS.weak ((ev_lc G.calm G.nd (i1 true) (blkOk_by k0) (by rw [List.map_snd_zip]; omega) (of_decide_eq_true k1).symm
            (fun s H Cc cl fp => okG (X := X.blk s H scope (compEnvC scope cl Cc X.env) fp) G.nd G.calm (fun z hz => fnB_ok hz) g tg k3)
            (fun s H Cc cl fp => okTo c (X.blk s H scope (compEnvC scope cl Cc X.env) fp) _ (G.blk _ _ _ _ _) k5)
            (fun s H Cc cl fp => okE elt (X.blk s H scope (compEnvC scope cl Cc X.env) fp) _ (G.blk _ _ _ _ _) k6) (folded_plain i2)).2 (of_decide_eq_true h1) ?_ (by rw [swap_name M.kind, hs])) fun D σ H q => w_set ho q
          unfold swB at hs
          simp only [Bool.and_eq_true, beq_iff_eq] at hs
          exact hs.1.1
        · cases h3
      · clear hn
        refine PS.weak (ps_set G.nd (of_decide_eq_true h1) (loc_of h2) (okE e X v G h3) (by rw [swap_name M.kind]; simp only [Bool.not_eq_true] at hs; rw [hs]) (.inl (M.fn x))) fun D σ H q => w_set ho q
    · cases h
  | .asg g e, z, L, h => by
    unfold chkS at h; split at h
    · obtain ⟨h, h4⟩ := bnd h
      obtain ⟨h, h3⟩ := bnd h
      obtain ⟨h1, h2⟩ := bnd h
      refine PS.weak (ps_asg (okE e X _ G h3) (okG G.nd G.calm (fun x _ => .inl (M.fn x)) g _ h2) (swap_sole h1) (sw_stores0 (by simpa using h4)) ?_) fun D σ H q => w_asg q
      have := chkG_star h2
      rw [assignEach_cons _ _ _ this]; rfl
    · cases h
  | .par is es, z, L, h => ok_par G M h
  | .aug i op e, z, L, h => by
    unfold chkS at h; split at h
    · rename_i x p o v pos
      obtain ⟨h, h4⟩ := bnd h
      obtain ⟨h, h3⟩ := bnd h
      obtain ⟨h1, h2⟩ := bnd h
      rw [← of_decide_eq_true h3]
      exact PS.weak (ps_aug G.nd (of_decide_eq_true h1) (loc_of h2) (okE e X _ G h4) (ip_any op) (.inl (M.fn x))) fun D σ H q => w_aug q
    · cases h
  | .ret e, z, L, h => by
    unfold chkS at h; split at h
    · rcases (chkX_or h).symm with ⟨a0, w0, k0, ee, hk⟩ | h
      · subst ee
        exact PS.weak (ps_ret (okK G (L rfl) hk)) fun D σ H q => w_ret q
      · exact PS.weak (ps_ret (okE e X _ G h)) fun D σ H q => w_ret q
    · cases h
  | .retN, z, L, h => by
    unfold chkS at h; split at h
    · exact PS.weak ps_retN fun D σ H q => w_retN q
    · cases h
  | .ite c a b, z, L, h => by
    unfold chkS at h; split at h
    · obtain ⟨h, h3⟩ := bnd h
      obtain ⟨h1, h2⟩ := bnd h
      exact PS.weak (ps_if (okT c X _ G h1).1 (okSs G M a _ (fun q => L (by unfold srtS; rw [q]; rfl)) h2) (okSs G M b _ (fun q => L (by unfold srtS; rw [q, Bool.or_true])) h3)) fun D σ H q => w_ite q
    · cases h
  | .for_ g it body, z, L, h => by
    unfold chkS at h; split at h
    · rename_i tg iter b pos
      obtain ⟨h, h3⟩ := bnd h
      obtain ⟨h1, h2⟩ := bnd h
      obtain ⟨i1, i2⟩ := okIt it X tg _ G h2
      exact PS.weak (ps_for M.own G.calm (i1 false) (okG G.nd G.calm (fun x _ => .inl (M.fn x)) g _ h1) (okSs G M body _ (fun q => L (by unfold srtS; exact q)) h3) (folded_plain i2)) fun D σ H q => w_for q
    · cases h
  | .whl c body, z, L, h => by
    unfold chkS at h; split at h
    · obtain ⟨h1, h2⟩ := bnd h
      exact PS.weak (ps_while M.own (okT c X _ G h1).1 (okSs G M body _ (fun q => L (by unfold srtS; exact q)) h2)) fun D σ H q => w_whl q
    · cases h
  | .app i e, z, L, h => by
    unfold chkS at h; split at h
    · rename_i x p m ap v cp pos
      obtain ⟨h, h5⟩ := bnd h
      obtain ⟨h, h4⟩ := bnd h
      obtain ⟨h, h3⟩ := bnd h
      obtain ⟨h1, h2⟩ := bnd h
      have hm := of_decide_eq_true h2
      subst hm
      exact PS.weak (ps_expr (pe_bm PySem.F.plainAttrs_list PySem.F.slot_list_append PySem.F.type_list_append mt_append (var_of rfl h1) (pa_cons (okE e X v G h5) pa_nil (starE1 h4)) rfl (by rw [starE1 h4]; rfl) h3 (starE1 h4) rfl) (swap_none rfl)) fun D σ H q => w_app q
    · cases h
  | .ext i e, z, L, h => by
    unfold chkS at h; split at h
    · rename_i x p m ap v cp pos
      obtain ⟨h, h5⟩ := bnd h
      obtain ⟨h, h4⟩ := bnd h
      obtain ⟨h, h3⟩ := bnd h
      obtain ⟨h1, h2⟩ := bnd h
      have hm := of_decide_eq_true h2
      subst hm
      exact PS.weak (ps_expr (pe_bm PySem.F.plainAttrs_list PySem.F.slot_list_extend PySem.F.type_list_extend mt_extend (var_of rfl h1) (pa_cons (okE e X v G h5) pa_nil (starE1 h4)) rfl (by rw [starE1 h4]; rfl) h3 (starE1 h4) rfl) (swap_none rfl)) fun D σ H q => w_ext q
    · cases h
  | .seti i k e, z, L, h => by
    unfold chkS at h; split at h
    · rename_i x p y sp v pos
      obtain ⟨h, h4⟩ := bnd h
      obtain ⟨h, h3⟩ := bnd h
      obtain ⟨h1, h2⟩ := bnd h
      refine PS.weak (ps_asg (okE e X v G h4) (pg_sub (var_of rfl h1) (okE k X y G h3) (set_any G.units) ?_) (swap_sole rfl) ?_ rfl) fun D σ H q => w_seti q
      · intro u; cases y <;> first | rfl | cases h2
      · cases v <;> rfl
    · cases h
  | .popTo g i k, z, L, h => by
    unfold chkS at h; split at h
    · rename_i t x p m ap as cp pos
      obtain ⟨h, h5⟩ := bnd h
      obtain ⟨h, h4⟩ := bnd h
      obtain ⟨h, h3⟩ := bnd h
      obtain ⟨h1, h2⟩ := bnd h
      have hm := of_decide_eq_true h3
      subst hm
      have hg := okG G.nd G.calm (fun x _ => .inl (M.fn x)) g _ h1
      have hst := chkG_star h1
      have ha : (assignEach [t] X.env).map (·.2) = [assign t X.env] := by rw [assignEach_cons _ _ _ hst]; rfl
      have key : PE X (.Call (.Attribute (.Name x p) ("pop" : Str) ap) as [] cp) (tPop X i C k) := by
        split at h5
        · exact pe_bm0 PySem.F.plainAttrs_list PySem.F.slot_list_pop PySem.F.type_list_pop mt_pop (var_of rfl h2) rfl h4
        · obtain ⟨g1, g2⟩ := bnd h5
          rename_i k v
          exact pe_bm PySem.F.plainAttrs_list PySem.F.slot_list_pop PySem.F.type_list_pop mt_popAt (var_of rfl h2) (pa_cons (okE k X v G g2) pa_nil (starE1 g1)) rfl (by rw [starE1 g1]; rfl) h4 (starE1 g1) rfl
        · cases h5
      refine PS.weak (ps_asg key hg ?_ (sw_stores0 rfl) ha) fun D σ H q => w_pop q
      cases t <;> rfl
    · cases h
  | .drop e, z, L, h => by
    unfold chkS at h; split at h
    · obtain ⟨h1, h2⟩ := bnd h
      exact PS.weak (ps_expr (okE e X _ G h1) (swap_none (by simpa using h2))) fun D σ H q => w_drop q
    · cases h
  | .brk, z, L, h => by
    unfold chkS at h; split at h
    · exact PS.weak ps_break fun D σ H ⟨S, P, ρ, K, R, h, f⟩ => f.bk _ _ _ h R R.stp
    · cases h
  | .cont, z, L, h => by
    unfold chkS at h; split at h
    · exact PS.weak ps_continue fun D σ H ⟨S, P, ρ, K, R, h, f⟩ => f.ct _ _ _ h R R.stp
    · cases h
  | .upd i e, z, L, h => by
    unfold chkS at h; split at h
    · rename_i x p m ap v cp pos
      obtain ⟨h, h5⟩ := bnd h
      obtain ⟨h, h4⟩ := bnd h
      obtain ⟨h, h3⟩ := bnd h
      obtain ⟨h1, h2⟩ := bnd h
      have hm := of_decide_eq_true h2
      subst hm
      exact PS.weak (ps_expr (pe_bm PySem.F.plainAttrs_dict PySem.F.slot_dict_update PySem.F.type_dict_update (mt_upd G.units) (var_of rfl h1) (pa_cons (okE e X v G h5) pa_nil (starE1 h4)) rfl (by rw [starE1 h4]; rfl) h3 (starE1 h4) rfl) (swap_none rfl)) fun D σ H q => w_upd q
    · cases h
  | .asgm ts es, z, L, h => ok_asgm G M h
  | .rais, z, L, h => ⟨fun pins s σ H D I ⟨_, _, _, _, _, z, _⟩ => z.elim⟩
  | .pass, z, L, h => by
    unfold chkS at h; split at h
    · exact PS.weak ps_pass fun D σ H ⟨S, P, ρ, K, R, h, f⟩ => f.nx _ _ _ h R R.stp
    · cases h
theorem okSs (G : Good tb C X) (M : Stm X) : ∀ (s : Ss) (z : List PySem.Stmt), (srtSs s = true → TabX X) → chkSs X.N tb X.env.scope s z = true → PSs X z (tSs C s)
  | .nil, z, L, h => by
    unfold chkSs at h
    cases z with
    | nil => exact PSs.weak pss_nil fun D σ H ⟨S, P, ρ, K, R, h, f⟩ => f.nx _ _ _ h R R.stp
    | cons _ _ => cases h
  | .cons s r, z, L, h => by
    unfold chkSs at h; split at h
    · obtain ⟨h1, h2⟩ := bnd h
      exact PSs.weak (pss_cons (okS G M s _ (fun q => L (by unfold srtSs; rw [q]; rfl)) h1) (okSs G M r _ (fun q => L (by unfold srtSs; rw [q, Bool.or_true])) h2)) fun D σ H q => w_cons q
    · cases h
  | .frz i r, z, L, h => by
    unfold chkSs at h
    exact PSs.weak (okSs G M r z (fun q => L (by unfold srtSs; exact q)) h) fun D σ H q => w_frz q
end
end
end
set_option maxHeartbeats 2000000
/-! PDu: defs by a table; their calls by depth. -/
section
open PySem L2 PySem.Spec PyProof.Rows
variable [Tb]
inductive Fn where
  | code (np ns : Nat) (body : Ss)
  | ext (np : Nat) (sem : List B → W D)
def Fn.np : Fn → Nat
  | .code n _ _ => n
  | .ext n _ => n
def startN (ns : Nat) (bs : List B) : Nv := bs.map some ++ List.replicate (ns - bs.length) none
def isRd : B → Bool
  | .own _ => false
  | _ => true
def koF (Q : D → Prop) : Ko := { nx := fun _ => Q .none, rt := Q }
def callF (prog : List Fn) : Nat → Calls
  | 0 => fun _ _ _ => False
  | k + 1 => fun f bs Q => match prog[f]? with
    | some (.code np ns body) => bs.length = np ∧ bs.all isRd = true ∧ execs (callF prog k) body (startN ns bs) (koF Q)
    | some (.ext np sem) => bs.length = np ∧ 1 ≤ k ∧ sem bs Q
    | none => False
theorem callF_ar {prog : List Fn} {k f : Nat} {fn : Fn} {bs : List B} {Q : D → Prop} (h : prog[f]? = some fn) (c : callF prog k f bs Q) : bs.length = fn.np := by
  cases k with
  | zero => cases c
  | succ k =>
    unfold callF at c
    simp only [h] at c
    cases fn with
    | code np ns body => exact c.1
    | ext np sem => exact c.1
section
variable {S : Src} {P : Zn} {H : Hp}
theorem rpAs_get : ∀ {vs : List V} {bs : List B} {i : Nat} {b : B}, RpAs S P H vs bs → bs[i]? = some b → (∃ d v, b = .sh d ∧ vs[i]? = some v ∧ Rp P H v d) ∨ (b = .src ∧ vs[i]? = some S.v)
  | _, _, 0, _, .sh r _, h => by cases h; exact .inl ⟨_, _, rfl, rfl, r⟩
  | _, _, 0, _, .src _, h => by cases h; exact .inr ⟨rfl, rfl⟩
  | _, _, i + 1, _, .sh _ t, h => rpAs_get (i := i) t (by simpa using h)
  | _, _, i + 1, _, .src t, h => rpAs_get (i := i) t (by simpa using h)
theorem startN_get {ns : Nat} {bs : List B} {i : Nat} {b : B} (h : (startN ns bs)[i]? = some (some b)) : bs[i]? = some b := by
  unfold startN at h
  by_cases hi : i < bs.length
  · rw [List.getElem?_append_left (by simpa using hi), List.getElem?_map] at h
    obtain ⟨x, h1, h2⟩ := Option.map_eq_some_iff.mp h
    cases h2; exact h1
  · rw [List.getElem?_append_right (by simpa using Nat.le_of_not_lt hi)] at h
    have := List.mem_of_getElem? h
    simp at this
theorem start_get {N : List Str} {vs : List V} {i : Nat} {v : V} (h : vs[i]? = some v) : (L2.start N vs)[i]? = some (some v) := by
  have hi : i < vs.length := by
    rcases Nat.lt_or_ge i vs.length with q | q
    · exact q
    · rw [List.getElem?_eq_none q] at h; cases h
  unfold L2.start
  rw [List.getElem?_append_left (by simpa using hi), List.getElem?_map, h]; rfl
theorem rel_start {N : List Str} {vs : List V} {bs : List B} (hs : ∀ a, S.dom a → P a) (f : Fit P H) (i : S.inv H) (r : RpAs S P H vs bs) : Rel S P (startN N.length bs) (L2.start N vs) H ∧ ∀ a, ¬ OwnAt (startN N.length bs) (L2.start N vs) a := by
  have no : ∀ (j : Nat) (d : D), (startN N.length bs)[j]? ≠ some (some (.own d)) := fun j d z => by
    rcases rpAs_get r (startN_get z) with ⟨_, _, e, _⟩ | ⟨e, _⟩ <;> cases e
  have hN : ∀ a, Nn P (startN N.length bs) (L2.start N vs) a → P a := fun a z => z.elim id fun ⟨j, d, h1, _⟩ => absurd h1 (no j d)
  refine ⟨⟨?_, hs, f, i, fun j d h => ?_, fun j d h => absurd h (no j d), fun j k d e a h => absurd h (no j d), fun j h => ?_⟩, fun a ⟨j, d, h1, _⟩ => no j d h1⟩
  · unfold startN L2.start; simp [r.length]
  · rcases rpAs_get r (startN_get h) with ⟨d', v, e, hv, rp⟩ | ⟨e, _⟩
    · cases e; exact ⟨v, start_get hv, rp.less hN⟩
    · cases e
  · rcases rpAs_get r (startN_get h) with ⟨d', v, e, _⟩ | ⟨_, hv⟩
    · cases e
    · exact start_get hv
end
/-- a def of the text -/
structure Row where
  nm : Str
  st : PySem.Stmt
  N : List Str
  fn : Fn
def Row.ps (r : Row) : List Str := r.N.take r.fn.np
def fsB (N P : List Str) (sc : Scope) : Bool := decide (sc.kind = .function) && decide (sc.isCoroutine = false) && decide (sc.isGenerator = false) && decide N.Nodup && decide (N.take P.length = P) && P.all (fun x => locB sc x) && sc.names.all (fun y => decide (y.2 ≠ .free))
theorem fsB_ok {N P : List Str} {sc : Scope} (h : fsB N P sc = true) : FnScope N P sc := by
  unfold fsB at h
  simp only [Bool.and_eq_true, decide_eq_true_eq, List.all_eq_true] at h
  obtain ⟨⟨⟨⟨⟨⟨h1, h2⟩, h3⟩, h4⟩, h5⟩, h6⟩, h7⟩ := h
  refine ⟨h1, h2, h3, h4, h5, fun x hx => ?_, h7⟩
  have := h6 x hx
  unfold locB at this
  split at this <;> first | exact .inl (by assumption) | exact .inr (by assumption) | cases this
def tabOf (rows : List Row) : List (Str × Nat) := rows.map fun r => (r.nm, r.fn.np)
def progOf (rows : List Row) : List Fn := rows.map (·.fn)
def chkRow (tb : List (Str × Nat)) (r : Row) : Bool := match r.fn with
  | .code np ns body => decide (ns = r.N.length) && decide (np ≤ ns) && fsB r.N (r.N.take np) (defScope r.st) && chkSs r.N tb (defScope r.st) body (defBody r.st)
  | .ext .. => true
def srtRow (r : Row) : Bool := match r.fn with
  | .code _ _ body => srtSs body
  | .ext .. => false
def bltNames : List Str := ["len", "tuple", "list", "sorted", "sum", "max", "min", "abs", "all", "any", "int", "repr", "range", "isinstance", "dict", "zip", "enumerate", "reversed", "str", "set", "bool"]
section
variable {P : Program} {w : World} {K : PySem.W.Frag} {mg : Str → Option Value} {base : Heap}
/-- the defs stand where the names say -/
def Laid (K : PySem.W.Frag) (mg : Str → Option Value) (rows : List Row) : Prop := ∀ r ∈ rows, ∃ a fd, Fun K r.nm r.nm r.st a fd ∧ mg r.nm = some (.ref a) ∧ Binds K fd r.ps []
/-- every def up to depth k -/
def Kept (P : Program) (w : World) (K : PySem.W.Frag) (mg : Str → Option Value) (base : Heap) (rows : List Row) (k : Nat) : Prop :=
  ∀ (f : Nat) (r : Row), rows[f]? = some r → ∃ a fd, Fun K r.nm r.nm r.st a fd ∧ mg r.nm = some (.ref a) ∧ Binds K fd r.ps [] ∧ FnG P w K mg base k a fd r.ps (spC (callF (progOf rows) k) f)
theorem good_of {rows : List Row} {k : Nat} {N : List Str} {qual : Str} {scope : Scope} {f : Addr} {cdv : Value} {A : Around} {outer : List PySem.Env} {s : Shared} {H : Hp} {E : XK} (nd : N.Nodup) (hr : Room k (A.deeper (envOfC qual scope s.heap.objs.size f cdv))) (hg : A.guards = some []) (sm : ∃ o, base.get? sysModules = some o)
    (hb : ∀ x ∈ bltNames, mg x = none) (hk : Kept P w K mg base rows k) : Good (tabOf rows) (callF (progOf rows) k) (cxOf CX0 P w K mg base N qual scope f cdv A outer s H E).nox := by
  have get : ∀ (f : Nat) (nm : Str) (np : Nat), (tabOf rows)[f]? = some (nm, np) → ∃ r, rows[f]? = some r ∧ r.nm = nm ∧ r.fn.np = np := fun f nm np h => by
    unfold tabOf at h
    rw [List.getElem?_map] at h
    obtain ⟨r, h1, h2⟩ := Option.map_eq_some_iff.mp h
    cases h2
    exact ⟨r, h1, rfl, rfl⟩
  refine ⟨nd, rfl, ?_, hg, sm, hb, fun f nm np h bs Q c => ?_, fun f nm np h => ?_⟩
  · exact hr.units
  · obtain ⟨r, h1, h2, h3⟩ := get f nm np h
    rw [← h3]
    exact callF_ar (by unfold progOf; rw [List.getElem?_map, h1]; rfl) c
  · obtain ⟨r, h1, h2, h3⟩ := get f nm np h
    obtain ⟨a, fd, F, hm, hbi, g⟩ := hk f r h1
    exact ⟨k, a, fd, r.ps, hr, by rw [← h2]; exact hm, F.kp, hbi, g⟩
/-- what a def that makes a lambda must have -/
def LamAt (mg : Str → Option Value) (base : Heap) (nm : Str) (fd : FuncData) : Prop := ∃ c P, fd.code = .ref c ∧ LamX.TabB base mg c P ∧ (P, nm ++ ".<locals>." ++ "<lambda>") ∈ Tb.T ∧ ∀ p ∈ Tb.T, p.1 = P → p.2 = nm ++ ".<locals>." ++ "<lambda>"
/-- a def that is told by a text -/
theorem row_code {rows : List Row} {f k : Nat} {r : Row} {np ns : Nat} {body : Ss} (hf : rows[f]? = some r) (he : r.fn = .code np ns body) (hc : chkRow (tabOf rows) r = true) {a : Addr} {fd : FuncData} (F : Fun K r.nm r.nm r.st a fd) (hlam : srtRow r = true → LamAt mg base r.nm fd) (sm : ∃ o, base.get? sysModules = some o)
    (hb : ∀ x ∈ bltNames, mg x = none) (hk : Kept P w K mg base rows k) : FnG P w K mg base (k + 1) a fd r.ps (spC (callF (progOf rows) (k + 1)) f) := by
  unfold chkRow at hc
  rw [he] at hc
  simp only at hc
  obtain ⟨hc, c4⟩ := bnd hc
  obtain ⟨hc, c3⟩ := bnd hc
  obtain ⟨c1, c2⟩ := bnd hc
  have c1 := of_decide_eq_true c1
  have c2 := of_decide_eq_true c2
  have SC := fsB_ok c3
  have hps : r.ps = r.N.take np := by unfold Row.ps; rw [he]; rfl
  have hpl : r.ps.length = np := by rw [hps, List.length_take]; omega
  have hp : (progOf rows)[f]? = some (.code np ns body) := by unfold progOf; rw [List.getElem?_map, hf]; simp [he]
  have hlen : ∀ vs H Q E, spC (callF (progOf rows) (k + 1)) f vs H Q E → vs.length = r.ps.length := fun vs H Q E ⟨S, Z, bs, Q0, _, _, _, h4, h5, _⟩ => by
    have : bs.length = _ := callF_ar hp h5
    rw [h4.length, this, hpl]; rfl
  rw [← hps] at SC
  refine Fun.okG F SC hlen fun cdv A outer s H vs Q ecd hr hg hsp => ?_
  obtain ⟨S, Z, bs, Q0, h1, h2, h3, h4, h5, h6⟩ := hsp
  have G := good_of (N := r.N) (qual := r.nm) (scope := defScope r.st) (f := a) (cdv := cdv) (A := A) (outer := outer) (s := s) (H := H) (E := E0) (P := P) (w := w) SC.nd hr hg sm hb hk
  have M : Stm (cxOf CX0 P w K mg base r.N r.nm (defScope r.st) a cdv A outer s H E0).nox := ⟨SC.kind, fun _ => rfl, PassesOwn.never⟩
  refine ⟨_, okSs G M body (defBody r.st) (fun q => ?_) c4, ?_⟩
  · obtain ⟨c, T0, g1, g2, g3, g4⟩ := hlam (by unfold srtRow; rw [he]; exact q)
    exact ⟨hr.mono (Nat.zero_le _), c, T0, ecd.symm.trans g1, g2, g3, g4⟩
  unfold callF at h5
  simp only [hp] at h5
  obtain ⟨_, _, h5⟩ := h5
  obtain ⟨R, no⟩ := rel_start (N := r.N) h1 h2 h3 h4
  rw [c1] at h5
  have ch : ∀ {H' : Hp}, Ext (Ch S (startN r.N.length bs) (L2.start r.N vs)) H H' → Ext S.dom H H' := fun e => e.mono fun b z => z.elim id fun z => absurd z (no b)
  refine ⟨S, Z, _, _, R, h5, fun ρ' σ' H' k' R' st => ?_, fun d v H' k' e i rp => ?_, fun _ _ _ z => z.elim, fun _ _ _ z => z.elim⟩
  · exact h6 .none k' .non H' (ch st.ext) st.inv .non
  · exact h6 d k' v H' (ch e) i rp
theorem all_kept {rows : List Row} (hl : Laid K mg rows) (hc : rows.all (chkRow (tabOf rows)) = true) (hlam : ∀ r ∈ rows, srtRow r = true → ∀ a fd, Fun K r.nm r.nm r.st a fd → mg r.nm = some (.ref a) → LamAt mg base r.nm fd) (sm : ∃ o, base.get? sysModules = some o) (hb : ∀ x ∈ bltNames, mg x = none)
    (hx : ∀ (f k : Nat) (r : Row) (np : Nat) (sem : List B → W D), rows[f]? = some r → r.fn = .ext np sem → Kept P w K mg base rows k → ∀ a fd, Fun K r.nm r.nm r.st a fd → mg r.nm = some (.ref a) → FnG P w K mg base (k + 1) a fd r.ps (spC (callF (progOf rows) (k + 1)) f)) : ∀ k, Kept P w K mg base rows k
  | 0 => fun f r hf => by
    obtain ⟨a, fd, F, hm, hbi⟩ := hl r (List.mem_of_getElem? hf)
    exact ⟨a, fd, F, hm, hbi, ⟨fun vs H Q E ⟨_, _, _, _, _, _, _, _, z, _⟩ => z.elim, fun A outer s H args us vs Q _ _ _ _ _ ⟨_, _, _, _, _, _, _, _, z, _⟩ => z.elim⟩⟩
  | k + 1 => fun f r hf => by
    have ih := all_kept hl hc hlam sm hb hx k
    obtain ⟨a, fd, F, hm, hbi⟩ := hl r (List.mem_of_getElem? hf)
    refine ⟨a, fd, F, hm, hbi, ?_⟩
    cases he : r.fn with
    | code np ns body => exact row_code hf he (List.all_eq_true.mp hc r (List.mem_of_getElem? hf)) F (fun q => hlam r (List.mem_of_getElem? hf) q a fd F hm) sm hb ih
    | ext np sem => exact hx f k r np sem hf he ih a fd F hm
end
end
set_option maxHeartbeats 2000000
/-! PDv: the law's call, where no guard stands. -/
section
open PySem L2 PySem.Spec PyProof.Rows
variable [Tb]
section
variable {P : Program} {w : World} {K : PySem.W.Frag} {mg mb : Str → Option Value} {k : Nat} {fa a : Addr} {fd : FuncData} {x : Str} {sp : Sp} {s1 : Shared} {vs : List Value} {ns : List Int}
/-- what the heap behind the top must have -/
structure TopH (K : PySem.W.Frag) (mg : Str → Option Value) (h : Heap) : Prop where
  kin : K.In h
  ns : h.Ns mainGlobals mg
  blt : ∃ mb, h.Ns builtinsNs mb ∧ ∀ x : Str, x ≠ "__name__" → mb x = bootBuiltins x
  lim : h.NoLimit
  sys : ∃ mm, h.Ns sysModules mm
/-- the same heap without the one tracked list -/
theorem TopH.hid {h : Heap} {H : Hp} {o : Obj} (T : TopH K mg h) (hA : ∀ b, H b ≠ none → b = a) (ha : h.get? a = some o) (hd : ∀ es ep, o.data ≠ .dict es ep) (hK : H a ≠ none → K.lookup a = none) : TopH K mg (hidT h H) := by
  have un : ∀ b, b ≠ a → H b = none := fun b hb => Classical.byContradiction fun z => hb (hA b z)
  have nsd : ∀ {b : Addr} {m : Str → Option Value}, h.Ns b m → (hidT h H).Ns b m := by
    intro b m hn
    obtain ⟨ob, es, ep, h1, h2, h3⟩ := hn
    have hb : b ≠ a := fun z => by
      rw [z, ha] at h1
      exact hd es ep (Option.some.inj h1 ▸ h2)
    exact ⟨ob, es, ep, hidT_get h1 (un b hb), h2, h3⟩
  constructor
  · intro b ob hb
    refine hidT_get (T.kin b ob hb) (Classical.byContradiction fun z => ?_)
    have hba := hA b z
    rw [hba] at hb z
    rw [hK z] at hb
    cases hb
  · exact nsd T.ns
  · exact T.blt.imp fun m q => ⟨nsd q.1, q.2⟩
  · exact T.lim.imp fun m q => ⟨nsd q.1, q.2⟩
  · exact T.sys.imp fun m q => nsd q
theorem TopH.mod {h : Heap} (T : TopH K mg h) : Mod K mg h where
  kin := T.kin
  glob := T.ns
  blt := T.blt
  nolimit := T.lim
theorem TopH.smod {h : Heap} (T : TopH K mg h) : ∃ o, h.get? sysModules = some o := by
  obtain ⟨mm, o, _, _, e, _⟩ := T.sys
  exact ⟨o, e⟩
/-- one tracking of the script -/
structure Trk (P : Program) (w : World) (K : PySem.W.Frag) (h : Heap) (a : Addr) (ns : List Int) (H : Hp) : Prop where
  only : ∀ b, H b = none ∨ ∃ o xs, H b = some (.frz o (.lst xs))
  seq : SqL K H a (ns.map V.int)
  ok : HOk P w H h
  one : ∀ b, H b ≠ none → b = a
  offK : H a ≠ none → K.lookup a = none
theorem trk_ex {h : Heap} (T : TopH K mg h) (ha : h.get? a = some { cls := .type "list", data := .seq vs.toArray }) (hi : IntsAre vs ns) (hl : ns.length ≤ sizeLine) : ∃ H, Trk P w K h a ns H := by
  have rv := vals_ints hi
  have lv := hi.length
  cases hk : K.lookup a with
  | some o =>
    have e : o = _ := Option.some.inj ((T.kin a o hk).symm.trans ha)
    subst e
    refine ⟨fun _ => none, fun _ => .inl rfl, .inr ?_, fun b o z => (by cases z), fun _ z => (z rfl).elim, fun z => (z rfl).elim⟩
    refine ⟨_, vs.toArray, 0, hk, rfl, rfl, rfl, ?_, ?_⟩
    · rw [List.size_toArray, lv]; exact hl
    · rwa [List.toList_toArray]
  | none =>
    let H : Hp := upd (fun _ => none) a (.frz { cls := .type "list", data := .seq vs.toArray } (.lst (ns.map V.int)))
    have hs : H a = some (.frz { cls := .type "list", data := .seq vs.toArray } (.lst (ns.map V.int))) := upd_same
    have ho : ∀ b, b ≠ a → H b = none := fun b hb => upd_ne hb
    have hone : ∀ b, H b ≠ none → b = a := fun b z => Classical.byContradiction fun hb => z (ho b hb)
    refine ⟨H, fun b => ?_, .inl (.inr ⟨_, hs⟩), fun b o z => ?_, hone, fun _ => hk⟩
    · by_cases hb : b = a
      · rw [hb]; exact .inr ⟨_, _, hs⟩
      · exact .inl (ho b hb)
    · have hb := hone b (by rw [z]; exact Option.some_ne_none o)
      rw [hb, hs] at z
      rw [hb, ← Option.some.inj z]
      exact ⟨ha, by rw [List.length_map]; exact hl, vs, 0, rv, ha⟩
/-- the law's def, called with the script -/
theorem callG (T : TopH K mg s1.heap) (hg : s1.gens = #[]) (ha : s1.heap.get? a = some { cls := .type "list", data := .seq vs.toArray }) (hi : IntsAre vs ns) (hl : ns.length ≤ sizeLine) (hr : Room k callerA)
    (F : ∀ base : Heap, TopH K mg base → FnG P w K mg base k fa fd [x] sp) (hbind : ∀ (s : Shared) (u : Value), BindsTo s fd ⟨[u], []⟩ [(x, u)])
    (hsp : ∀ H : Hp, Only H → SqL K H a (ns.map V.int) → sp [.ref a] H (fun v _ => v = .bl true) E0) :
    codeAny (model P w) callerA (.call (.ref fa) ⟨[.ref a], []⟩) (fun r s' => r = .ok (.ret (.bool true)) ∧ OldK s1.heap s'.heap ∧ s'.os = s1.os ∧ AllBare s'.gens) s1 := by
  obtain ⟨H, R⟩ := trk_ex (P := P) (w := w) T ha hi hl
  have TB : TopH K mg (hidT s1.heap H) := T.hid R.one ha (fun es ep z => Data.noConfusion z) R.offK
  have env : Env0 P w K mg (hidT s1.heap H) callerA [] s1 H :=
    { frames := rfl, mod := TB.mod, bs := fun b o q => of_hidT q, bsz := Nat.le_of_eq (hidT_size s1.heap H), funs := trivial, frf := fun b z => (List.not_mem_nil z).elim, hok := R.ok, bare := .of_eq hg }
  have run := (F _ TB).run callerA [] s1 H ⟨[.ref a], []⟩ [.ref a] [.ref a] _ hr rfl env (hbind s1 (.ref a)) (.cons rfl .nil) (hsp H R.only R.seq)
  refine codeAny_mono run fun res s' h => ?_
  match res, h with
  | .ok (.ret u), h =>
    obtain ⟨v, H', h1, h2, hu, hok', hv, hq⟩ := h
    have hv : RelV (.bl true) u := (show v = .bl true from hq) ▸ hv
    refine ⟨by rw [show u = Value.bool true from hv], OldK.of_keep fun b o hb => ?_, h1, h2⟩
    rcases R.only b with z | ⟨o', xs, z⟩
    · exact hu.keep b o hb z (fun q => (List.not_mem_nil q).elim) List.not_mem_nil
    · have e1 := (R.ok b _ z).1
      have e2 := (hok' b _ (hu.frzs b o' _ z)).1
      rw [hb] at e1
      rw [e2, ← e1]
  | .ok .next, h => exact h.elim
  | .ok .brk, h => exact h.elim
  | .ok .cont, h => exact h.elim
  | .error e, h => exact h.elim
end
end
set_option maxHeartbeats 2000000
/-! PDw: the source of draws. -/
section
open PySem L2 PySem.Spec PyProof.Rows
variable [Tb]
theorem tabs_keep {T : List (Addr × Str)} {c l : Addr} {H H' : Hp} (t : LamX.Tabs T H) (s : SrcI c l H) (k : ∀ b o, b ≠ c → b ≠ l → H b = some o → H' b = some o) : LamX.Tabs T H' := fun p hp => by
  obtain ⟨xs, x, y, u, g⟩ := s
  have ne : ∀ {b : Addr} {o : HO}, H b = some o → (∀ kv, o ≠ .dK kv) → (∀ vs, o ≠ .lst vs) → b ≠ c ∧ b ≠ l := fun {b o} e h1 h2 => by
    refine ⟨fun z => ?_, fun z => ?_⟩
    · rw [z, g.d] at e
      exact h1 _ (Option.some.inj e).symm
    · rw [z, g.l] at e
      exact h2 _ (Option.some.inj e).symm
  obtain ⟨ps, h1, h2, h3⟩ := t p hp
  have n1 := ne h1 (fun _ z => nomatch z) (fun _ z => nomatch z)
  refine ⟨ps, k _ _ n1.1 n1.2 h1, h2, fun pos cv hc => ?_⟩
  obtain ⟨c', e1, e2⟩ := h3 pos cv hc
  have n2 := ne e2 (fun _ z => nomatch z) (fun _ z => nomatch z)
  exact ⟨c', e1, k _ _ n2.1 n2.2 e2⟩
def mkSrc (c l : Addr) (hne : c ≠ l) : Src where
  v := .ref c
  dom := fun a => (a = c ∨ a = l) ∨ ∃ p ∈ Tb.T, a = p.1
  inv := fun H => SrcI c l H ∧ LamX.Tabs Tb.T H
  fit := fun H h => ⟨fun a z => by
    obtain ⟨⟨xs, x, y, t, g⟩, ht⟩ := h
    rcases z with (z | z) | ⟨p, hp, z⟩
    · rw [z]; exact ⟨_, g.d, trivial⟩
    · rw [z]; exact ⟨_, g.l, trivial⟩
    · obtain ⟨ps, h1, _⟩ := ht p hp
      rw [z]; exact ⟨_, h1, trivial⟩⟩
  stab := fun H H' h e ee => by
    obtain ⟨⟨xs, x, y, t, g⟩, ht⟩ := h
    refine ⟨⟨xs, x, y, t, by rw [e c (.inl (.inl rfl))]; exact g.d, by rw [e l (.inl (.inr rfl))]; exact g.l⟩, fun p hp => ?_⟩
    obtain ⟨ps, h1, h2, h3⟩ := ht p hp
    refine ⟨ps, by rw [e p.1 (.inr ⟨p, hp, rfl⟩)]; exact h1, h2, fun pos cv hc => ?_⟩
    obtain ⟨c', e1, e2⟩ := h3 pos cv hc
    exact ⟨c', e1, ee c' _ e2⟩
  shape := ⟨c, l, hne, rfl, fun _ => Iff.rfl, fun _ => Iff.rfl⟩
section
variable {c l : Addr} {xs : List Int} {left mixed turn v : Int} {H : Hp} {σ : L2.St} {Q : VK}
abbrev kCells : Key := .inr "cells"
abbrev kLeft : Key := .inr "left"
abbrev kMixed : Key := .inr "mixed"
abbrev kTurn : Key := .inr "turn"
theorem get_cells : valV (srcKV l left mixed turn) kCells = some (.ref l) := rfl
theorem get_left : valV (srcKV l left mixed turn) kLeft = some (.int left) := rfl
theorem get_mixed : valV (srcKV l left mixed turn) kMixed = some (.int mixed) := rfl
theorem get_turn : valV (srcKV l left mixed turn) kTurn = some (.int turn) := rfl
theorem put_left : putK (srcKV l left mixed turn) kLeft (.int v) = srcKV l v mixed turn := rfl
theorem put_mixed : putK (srcKV l left mixed turn) kMixed (.int v) = srcKV l left v turn := rfl
theorem put_turn : putK (srcKV l left mixed turn) kTurn (.int v) = srcKV l left mixed v := rfl
theorem SrcH.gc (h : SrcH c l xs left mixed turn H) : DGet H c (.str "cells") (some (.ref l)) := DGet.k (k := kCells) h.d
theorem SrcH.gl (h : SrcH c l xs left mixed turn H) : DGet H c (.str "left") (some (.int left)) := DGet.k (k := kLeft) h.d
theorem SrcH.gm (h : SrcH c l xs left mixed turn H) : DGet H c (.str "mixed") (some (.int mixed)) := DGet.k (k := kMixed) h.d
theorem SrcH.gt (h : SrcH c l xs left mixed turn H) : DGet H c (.str "turn") (some (.int turn)) := DGet.k (k := kTurn) h.d
theorem four_lt : (srcKV l left mixed turn).length < sizeLine := by show 4 < sizeLine; decide
theorem SrcH.pl (h : SrcH c l xs left mixed turn H) : DPut H c (.str "left") (.int v) (upd H c (.dK (srcKV l v mixed turn))) := by rw [← put_left]; exact DPut.k (k := kLeft) h.d four_lt
theorem SrcH.pm (h : SrcH c l xs left mixed turn H) : DPut H c (.str "mixed") (.int v) (upd H c (.dK (srcKV l left v turn))) := by rw [← put_mixed]; exact DPut.k (k := kMixed) h.d four_lt
theorem SrcH.pt (h : SrcH c l xs left mixed turn H) : DPut H c (.str "turn") (.int v) (upd H c (.dK (srcKV l left mixed v))) := by rw [← put_turn]; exact DPut.k (k := kTurn) h.d four_lt
theorem SrcH.new (h : SrcH c l xs left mixed turn H) (hne : c ≠ l) {a b t : Int} : SrcH c l xs a b t (upd H c (.dK (srcKV l a b t))) := ⟨upd_same, by rw [upd_ne (Ne.symm hne)]; exact h.l⟩
theorem SrcH.pop (h : SrcH c l xs left mixed turn H) (hne : c ≠ l) {ys : List Int} : SrcH c l ys left mixed turn (upd H l (.lst (ys.map V.int))) := ⟨by rw [upd_ne hne]; exact h.d, upd_same⟩
end
/-- a state of a draw: the source stands, all else is as it was -/
def Drw (c l : Addr) (H0 H : Hp) : Prop := SrcI c l H ∧ ∀ b, b ≠ c → b ≠ l → H b = H0 b
def spPick : Sp := fun vs H Q _ => ∃ c l m, c ≠ l ∧ vs = [.ref c, .int m] ∧ m < 1073741824 ∧ SrcI c l H ∧ ∀ j, 0 ≤ j → j < max 1 m → ∀ H', Drw c l H H' → Q (.int j) H'
/-- what a draw gives, by data -/
def semPick : List B → W D := fun bs Q => ∃ m, bs = [.src, .sh (.int m)] ∧ m < 1073741824 ∧ ∀ j, 0 ≤ j → j < max 1 m → Q (.int j)
theorem Drw.ext {S : Src} {c l : Addr} {H H' : Hp} (hd : ∀ a, S.dom a ↔ (a = c ∨ a = l) ∨ ∃ p ∈ Tb.T, a = p.1) (h : Drw c l H H') : Ext S.dom H H' := fun a o ha n => by
  rw [hd] at n
  rw [h.2 a (fun z => n (.inl (.inl z))) (fun z => n (.inl (.inr z)))]; exact ha
theorem pick_of {C : Calls} {f : Nat} (hC : ∀ bs Q, C f bs Q → semPick bs Q) : ∀ vs H Q, spC C f vs H Q E0 → spPick vs H Q E0 := by
  intro vs H Q ⟨S, P, bs, Q0, h1, h2, h3, h4, h5, h6⟩
  obtain ⟨m, rfl, hm, hq⟩ := hC _ _ h5
  obtain ⟨c, l, hne, hv, hd, hi⟩ := S.shape
  cases h4 with
  | src t => cases t with
    | sh r t => cases t with
      | nil =>
        cases (RpB.of r).int_of
        refine ⟨c, l, m, hne, by rw [hv], hm, ((hi H).mp h3).1, fun j j1 j2 H' d => h6 _ (hq j j1 j2) _ _ (d.ext hd) ((hi H').mpr ⟨d.1, tabs_keep ((hi H).mp h3).2 ((hi H).mp h3).1 fun b o n1 n2 e => by rw [d.2 b n1 n2]; exact e⟩) (.int j)⟩
theorem tt_use {t : TT} {σ : L2.St} {H : Hp} {Qf : Bool → Hp → Prop} (Cc : Bool → Prop) (test : ∀ Qf : Bool → Hp → Prop, (∀ b, Cc b → Qf b H) → t σ H Qf) (cont : ∀ b, Cc b → Qf b H) : t σ H Qf := test _ cont
def absI (i : Int) : Int := if i < 0 then -i else i
def rAbsI : List V → Hp → VK → Prop := fun xs H Q => ∃ i, xs = [.int i] ∧ Q (.int (if i < 0 then -i else i)) H
/-- [abs(x) for x in ints] -/
theorem abs_lc {K : PySem.W.Frag} {i j : Nat} {a : Addr} {ns : List Int} {σ : L2.St} {H : Hp} {Q : VK} (hij : i ≠ j) (hi : σ[i]? = some (some (.ref a))) (hj : j < σ.length) (hS : SqL K H a (ns.map V.int)) (hl : ns.length ≤ 63)
    (q : ∀ d, H d = none → Q (.ref d) (upd H d (.lst ((ns.map absI).map V.int)))) :
    tLc (iList K (tVar i)) (gName j) (fun _ H Q => Q true H) (tCB rAbsI (tCons (tVar j) tNil)) [j] σ H Q := by
  refine ⟨.ref a, hi, a, rfl, ⟨_, hS⟩, fun d hd => ⟨fun n m H' => n ≤ ns.length ∧ m = ns.length - n ∧ H' = upd H d (.lst (((ns.take n).map absI).map V.int)), ⟨ns.length, Nat.zero_le _, rfl, rfl⟩, ?_⟩⟩
  rintro n m H' ⟨hn, rfl, rfl⟩
  have sm : Same H (upd H d (.lst (((ns.take n).map absI).map V.int))) := fun b o e => by rw [upd_ne (ne_of_none e hd)]; exact e
  have hS' := sm.seq hS
  by_cases h : n < ns.length
  · right
    have g : (ns.map V.int)[n]? = some (.int ns[n]) := by rw [List.getElem?_map, List.getElem?_eq_getElem h]; rfl
    refine ⟨⟨_, _, hS', g⟩, fun H' => H' = upd H d (.lst (((ns.take (n + 1)).map absI).map V.int)), fun H' e => ⟨ns.length - (n + 1), by omega, h, rfl, e⟩, ?_⟩
    rintro x H' ⟨rfl, hx⟩
    have ex : x = .int ns[n] := Option.some.inj ((hx _ hS').symm.trans g)
    subst ex
    refine ⟨by show L2.wipe ((L2.wipe σ [j]).set j _) [j] = _; simp [L2.wipe], ?_⟩
    show if true = true then _ else _
    rw [if_pos rfl]
    refine ⟨.int ns[n], ?_, ns[n], rfl, _, upd_same, ?_, ?_⟩
    · rw [List.getElem?_set_self (by rw [wipe_length]; exact hj)]
    · simp only [List.length_map, List.length_take]
      have := z64
      omega
    · rw [upd_upd, List.take_add_one, List.getElem?_eq_getElem h, List.map_append, List.map_append]
      rfl
  · left
    have e : n = ns.length := by omega
    subst e
    refine ⟨⟨_, hS', by simp⟩, ?_⟩
    rw [List.take_length]
    exact q d hd
theorem Same.upd {H : Hp} {d : Addr} {o : HO} (h : H d = none) : Same H (L2.upd H d o) := fun b u e => by rw [upd_ne (ne_of_none e h)]; exact e
/-- what makes a source -/
def spSource (K : PySem.W.Frag) : Sp := fun vs H Q _ => ∃ (a : Addr) (ns : List Int), vs = [.ref a] ∧ ns.length ≤ 63 ∧ SqL K H a (ns.map V.int) ∧ ∀ c l H', c ≠ l → H c = none → H l = none → Same H H' → SrcI c l H' → Q (.ref c) H'
/-- the display {'cells': [abs(x) for x in script][::-1], 'left': 1, 'mixed': x, 'turn': 0} -/
theorem disp_ok {K : PySem.W.Frag} {a : Addr} {ns : List Int} {σ : L2.St} {H : Hp} {Q : VK} {x : Int} {j i : Nat} (hj0 : 0 ≠ j) (hi : σ[0]? = some (some (.ref a))) (hj : j < σ.length) (hx : σ[i]? = some (some (.int x))) (hS : SqL K H a (ns.map V.int)) (hl : ns.length ≤ 63)
    (q : ∀ c l H', c ≠ l → H c = none → H l = none → Same H H' → SrcI c l H' → Q (.ref c) H') :
    tDisp [(tC (.str "cells"), tRevL K (tLc (iList K (tVar 0)) (gName j) (fun _ H Q => Q true H) (tCB rAbsI (tCons (tVar j) tNil)) [j])), (tC (.str "left"), tC (.int 1)), (tC (.str "mixed"), tVar i), (tC (.str "turn"), tC (.int 0))] σ H Q := by
  intro p hp
  dsimp only [tPairs, tRevL, tC]
  refine abs_lc hj0 hi hj ((Same.upd hp).seq hS) hl fun d hd => ?_
  refine ⟨d, _, rfl, SqL.of upd_same, fun p2 hp2 => ?_⟩
  have hpd : p ≠ d := fun e => by rw [← e, upd_same] at hd; cases hd
  have hp2d : p2 ≠ d := fun e => by rw [e, upd_same] at hp2; cases hp2
  have hpp2 : p ≠ p2 := fun e => by
    rw [← e, upd_ne hpd, upd_same] at hp2; cases hp2
  refine ⟨.int x, hx, ?_, srcKV p2 1 x 0, rfl, by show 4 ≤ 15; decide, ?_⟩
  · rw [upd_ne hpp2, upd_ne hpd, upd_same]
  · refine q p p2 _ hpp2 hp ?_ (fun b o e => ?_) ⟨(ns.map absI).reverse, 1, x, 0, upd_same, ?_⟩
    · rw [upd_ne hp2d, upd_ne (Ne.symm hpp2)] at hp2; exact hp2
    · have h1 : b ≠ p := ne_of_none e hp
      have h2 : (upd H p (.dK [])) b = some o := by rw [upd_ne h1]; exact e
      have h3 := ne_of_none h2 hd
      have h4 : (upd (upd H p (.dK [])) d (.lst ((ns.map absI).map V.int))) b = some o := by rw [upd_ne h3]; exact h2
      have h5 := ne_of_none h4 hp2
      rw [upd_ne h1, upd_ne h5]; exact h4
    · rw [upd_ne (Ne.symm hpp2), upd_same, List.map_reverse]
/-! lists in a drawn sequence -/
def spMixed : Sp := fun vs H Q _ => ∃ (c l a : Addr) (xs : List V), c ≠ l ∧ a ≠ c ∧ a ≠ l ∧ vs = [.ref c, .ref a] ∧ SrcI c l H ∧ H a = some (.lst xs) ∧ xs.length ≤ 1000 ∧
  ∀ ys d H', ys.Perm xs → H d = none → H' d = some (.lst ys) → SrcI c l H' → (∀ b o, b ≠ c → b ≠ l → H b = some o → H' b = some o) → Q (.ref d) H'
def semMixed : List B → W D := fun bs Q => ∃ ds, bs = [.src, .sh (.list ds)] ∧ ds.length ≤ 1000 ∧ ∀ es : List D, es.Perm ds → Q (.list es)
theorem perm_rp {N : Zn} {H : Hp} {xs ys : List V} (p : ys.Perm xs) : ∀ {ds : List D}, RpAll N H xs ds → ∃ es : List D, es.Perm ds ∧ RpAll N H ys es := by
  induction p with
  | nil => intro ds r; exact ⟨ds, .refl _, r⟩
  | cons x p ih =>
    intro ds r
    cases r with
    | cons r1 rs =>
      obtain ⟨es, pe, re⟩ := ih rs
      exact ⟨_ :: es, .cons _ pe, .cons r1 re⟩
  | swap x y l =>
    intro ds r
    cases r with
    | cons r1 rs => cases rs with
      | cons r2 rs => exact ⟨_, .swap _ _ _, .cons r2 (.cons r1 rs)⟩
  | trans p1 p2 ih1 ih2 =>
    intro ds r
    obtain ⟨es, pe, re⟩ := ih2 r
    obtain ⟨fs, pf, rf⟩ := ih1 re
    exact ⟨fs, pf.trans pe, rf⟩
theorem mixed_of {C : Calls} {f : Nat} (hC : ∀ bs Q, C f bs Q → semMixed bs Q) : ∀ vs H Q, spC C f vs H Q E0 → spMixed vs H Q E0 := by
  intro vs H Q ⟨S, P, bs, Q0, h1, h2, h3, h4, h5, h6⟩
  obtain ⟨ds, rfl, hm, hq⟩ := hC _ _ h5
  obtain ⟨c, l, hne, hv, hd, hi⟩ := S.shape
  cases h4 with
  | src t => cases t with
    | sh r t => cases t with
      | nil =>
        cases r with
        | @lst a xs _ na ha rr =>
          have nd : ¬ S.dom a := fun z => na (h1 a z)
          rw [hd] at nd
          refine ⟨c, l, a, xs, hne, fun z => nd (.inl (.inl z)), fun z => nd (.inl (.inr z)), by rw [hv], ((hi H).mp h3).1, ha, by rw [rr.length]; exact hm, fun ys d H' hp hnd hd' hs hx => ?_⟩
          obtain ⟨es, pe, re⟩ := perm_rp hp rr
          have ex : Ext S.dom H H' := fun b o hb n => hx b o (fun z => n ((hd b).mpr (.inl (.inl z)))) (fun z => n ((hd b).mpr (.inl (.inr z)))) hb
          exact h6 _ (hq es pe) _ _ ex ((hi H').mpr ⟨hs, tabs_keep ((hi H).mp h3).2 ((hi H).mp h3).1 hx⟩) (.lst (h2.ne hnd) hd' (re.ext (ex.mono h1) h2))
theorem erase_perm {α : Type} : ∀ {l : List α} {k : Nat} (h : k < l.length), (l[k] :: l.eraseIdx k).Perm l
  | a :: l, 0, _ => .refl _
  | a :: l, k + 1, h => (List.Perm.swap _ _ _).trans (.cons a (erase_perm (by simpa using h)))
end
set_option maxHeartbeats 2000000
/-! PDz: the law's def; the end. -/
section
open PySem L2 PySem.Spec PyProof.Rows
variable [Tb]
/-- the slots behind the law's first line -/
def rho0 (N : List Str) (i : Nat) : Nv := (List.replicate N.length none).set i (some .src)
theorem rho0_get {N : List Str} {i j : Nat} {b : B} (h : (rho0 N i)[j]? = some (some b)) : i = j ∧ b = .src := by
  unfold rho0 at h
  by_cases hj : i = j
  · subst hj
    by_cases hl : i < N.length
    · rw [List.getElem?_set_self (by simpa using hl)] at h
      cases h; exact ⟨rfl, rfl⟩
    · rw [List.getElem?_eq_none (by simpa using hl)] at h; cases h
  · rw [List.getElem?_set_ne hj] at h
    have := List.mem_of_getElem? h
    simp at this
def spLaw (K : PySem.W.Frag) : Sp := fun vs H Q _ => ∃ (a : Addr) (ns : List Int), vs = [.ref a] ∧ ns.length ≤ 63 ∧ SqL K H a (ns.map V.int) ∧ LamX.Tabs Tb.T H ∧ ∀ H', Q (.bl true) H'
section
variable {P : Program} {w : World} {K : PySem.W.Frag} {mg : Str → Option Value} {base : Heap}
theorem rel0 {c l a : Addr} (hne : c ≠ l) {N : List Str} {i : Nat} {H : Hp} (hN : 1 ≤ N.length) (hi : i < N.length) (h : SrcI c l H ∧ LamX.Tabs Tb.T H) : Rel (mkSrc c l hne) (mkSrc c l hne).dom (rho0 N i) ((L2.start N [.ref a]).set i (some (.ref c))) H := by
  refine ⟨?_, fun _ z => z, (mkSrc c l hne).fit H h, h, fun j d q => ?_, fun j d q => ?_, fun j k d e b q => ?_, fun j q => ?_⟩
  · unfold rho0 L2.start; simp; omega
  · have := (rho0_get q).2; cases this
  · have := (rho0_get q).2; cases this
  · have := (rho0_get q).2; cases this
  · obtain ⟨e, _⟩ := rho0_get q
    rw [← e, List.getElem?_set_self (by unfold L2.start; simp; omega)]; rfl
theorem law_fn {rows : List Row} {st sSt : PySem.Stmt} {N : List Str} {body : Ss} {x sn : Str} {p1 p2 p3 p4 p5 : Pos} {rest : List PySem.Stmt} {i k : Nat} {fa fS : Addr} {fd fdS : FuncData} (F : Fun K "law" "law" st fa fd) (sc : fsB N ["script"] (defScope st) = true)
    (hlam : srtSs body = true → LamAt mg base "law" fd) (hb : defBody st = .Assign [.Name x p1] (.Call (.Name sn p2) [.Name "script" p3] [] p4) p5 :: rest) (hc : chkSs N (tabOf rows) (defScope st) body rest = true) (hN : N[0]? = some ("script" : Str)) (hi : N[i]? = some x) (hx : locB (defScope st) x = true) (hv : visB (defScope st) ("script" : Str) = true) (hg : glB (defScope st) sn = true)
    (hsd : (sn == ("__debug__" : Str)) = false) (FS : Fun K sn sn sSt fS fdS) (bS : Binds K fdS ["script"] []) (gS : mg sn = some (.ref fS)) (GS : FnOk P w K mg base CX0 (k + 1) fS fdS ["script"] (spSource K))
    (sm : ∃ o, base.get? sysModules = some o) (hbl : ∀ y ∈ bltNames, mg y = none) (hk : Kept P w K mg base rows (k + 1)) (law : execs (callF (progOf rows) (k + 1)) body (rho0 N i) (koF (fun d => d = .bool true))) :
    FnG P w K mg base (k + 2) fa fd ["script"] (spLaw K) := by
  have SC := fsB_ok sc
  have hNl : 1 ≤ N.length := by
    cases N with
    | nil => simp at hN
    | cons _ _ => simp
  have hil : i < N.length := by
    rcases Nat.lt_or_ge i N.length with q | q
    · exact q
    · rw [List.getElem?_eq_none q] at hi; cases hi
  refine Fun.okG F SC (fun vs H Q E ⟨a, ns, e, _⟩ => by rw [e]; rfl) fun cdv A outer s H vs Q ecd hr hg0 hsp => ?_
  obtain ⟨a, ns, rfl, hl, hS, hT, q⟩ := hsp
  have G := good_of (N := N) (qual := "law") (scope := defScope st) (f := fa) (cdv := cdv) (A := A) (outer := outer) (s := s) (H := H) (E := E0) (P := P) (w := w) SC.nd hr hg0 sm hbl hk
  have M : Stm (cxOf CX0 P w K mg base N "law" (defScope st) fa cdv A outer s H E0).nox := ⟨SC.kind, fun _ => rfl, PassesOwn.never⟩
  rw [hb]
  have vis : Vis (defScope st) ("script" : Str) := by
    unfold visB at hv; unfold Vis
    split at hv <;> first | exact .inl (by assumption) | exact .inr (.inl (by assumption)) | exact .inr (.inr (by assumption)) | cases hv
  refine ⟨_, pss_cons (ps_set (i := i) SC.nd hi (loc_of hx) (pe_callG (FnG.of GS) hr hg0 (gl_of hg) gS FS.kp bS (pa_cons (pv 0 hN vis) pa_nil) hsd rfl rfl) rfl (.inl rfl)) (okSs G M body rest (fun q => by
    obtain ⟨c, T0, g1, g2, g3, g4⟩ := hlam q
    exact ⟨hr.mono (Nat.zero_le _), c, T0, ecd.symm.trans g1, g2, g3, g4⟩) hc), ?_⟩
  refine ⟨.ref a, rfl, a, ns, rfl, hl, hS, fun c l H' hne hcn hln sm' src => ?_⟩
  refine ⟨mkSrc c l hne, (mkSrc c l hne).dom, rho0 N i, koF (fun d => d = .bool true), rel0 hne hNl hil ⟨src, hT.ext sm'⟩, law, ⟨?_, ?_, fun _ _ _ z => z.elim, fun _ _ _ z => z.elim⟩⟩
  · intro _ _ _ z
    cases (show PyData.none = PyData.bool true from z)
  · intro d v H2 z _ _ rp
    have z : d = .bool true := z
    subst z
    cases (RpB.of rp).bl_of
    exact q H2
end
/-! what the top has written -/
def Lk (K : PySem.W.Frag) (nm : Str) (st : PySem.Stmt) : Prop := ∃ (f : Addr) (oc : Value) (od : Option Addr) (kV doc pm : Value) (an : Option Addr) (cd ct : Value) (sl : Array (Option Value)),
  PySem.W.nsIn K mainGlobals nm = some (some (.ref f)) ∧ K.lookup f = some ⟨oc, od, .func (PySem.W.fnOf nm nm (defArgs st) (defBody st) (defScope st) .none kV doc pm an cd ct), sl⟩ ∧ PySem.W.codeIn K cd nm = true ∧ PySem.W.keepIn K (.ref f) = true
theorem lk_mk {K : PySem.W.Frag} {h : Heap} (_ : K.In h) {nm : Str} {st : PySem.Stmt} {f : Addr} {oc kV doc pm cd ct : Value} {od an : Option Addr} {sl : Array (Option Value)} (a : PySem.W.nsIn K mainGlobals nm = some (some (.ref f)))
    (l : K.lookup f = some ⟨oc, od, .func (PySem.W.fnOf nm nm (defArgs st) (defBody st) (defScope st) .none kV doc pm an cd ct), sl⟩) (c : PySem.W.codeIn K cd nm = true) (k : PySem.W.keepIn K (.ref f) = true) : Lk K nm st := ⟨f, oc, od, kV, doc, pm, an, cd, ct, sl, a, l, c, k⟩
def BdOk (nm : Str) (st : PySem.Stmt) (ps : List Str) : Prop := ∀ (kV doc pm : Value) (an : Option Addr) (cdv ct : Value) (us : List Value), us.length = ps.length → bindArgs (PySem.W.fnOf nm nm (defArgs st) (defBody st) (defScope st) .none kV doc pm an cdv ct) ⟨us, []⟩ = pure (ps.zip us)
theorem Lk.fn {K : PySem.W.Frag} {h : Heap} {mg : Str → Option Value} {nm : Str} {st : PySem.Stmt} {ps : List Str} (L : Lk K nm st) (X : K.In h) (G : h.Ns mainGlobals mg) (b : BdOk nm st ps) : ∃ a fd, Fun K nm nm st a fd ∧ mg nm = some (.ref a) ∧ Binds K fd ps [] := by
  obtain ⟨f, oc, od, kV, doc, pm, an, cd, ct, sl, a, l, c, k⟩ := L
  have F := fun_mk l c k
  exact ⟨f, _, F, PySem.W.mg_of X G a, F.binds b⟩
def Rws (K : PySem.W.Frag) (rows : List Row) : Prop := ∀ r ∈ rows, Lk K r.nm r.st
theorem laid_of {K : PySem.W.Frag} {h : Heap} {mg : Str → Option Value} {rows : List Row} (X : K.In h) (G : h.Ns mainGlobals mg) (L : Rws K rows) (b : ∀ r ∈ rows, BdOk r.nm r.st r.ps) : Laid K mg rows := fun r hr => (L r hr).fn X G (b r hr)
end
set_option maxHeartbeats 2000000
/-! PDzt: the law's walk, with tables of code objects. -/
section
open PySem L2 PySem.Spec PyProof.Rows
section
variable {P : Program} {w : World} {K : PySem.W.Frag} {mg mb : Str → Option Value} {k : Nat} {fa a : Addr} {fd : FuncData} {x : Str} {sp : Sp} {s1 : Shared} {vs : List Value} {ns : List Int}
/-- the same heap without what is tracked -/
theorem TopH.hid2 {h : Heap} {H : Hp} (T : TopH K mg h) (hD : ∀ b o, H b ≠ none → h.get? b = some o → ∀ es ep, o.data ≠ .dict es ep) (hK : ∀ b, H b ≠ none → K.lookup b = none) : TopH K mg (hidT h H) := by
  have nsd : ∀ {b : Addr} {m : Str → Option Value}, h.Ns b m → (hidT h H).Ns b m := by
    intro b m hn
    obtain ⟨ob, es, ep, h1, h2, h3⟩ := hn
    have hb : H b = none := Classical.byContradiction fun z => hD b ob z h1 es ep h2
    exact ⟨ob, es, ep, hidT_get h1 hb, h2, h3⟩
  constructor
  · intro b ob hb
    refine hidT_get (T.kin b ob hb) (Classical.byContradiction fun z => ?_)
    have e := hK b z
    rw [hb] at e
    cases e
  · exact nsd T.ns
  · exact T.blt.imp fun m q => ⟨nsd q.1, q.2⟩
  · exact T.lim.imp fun m q => ⟨nsd q.1, q.2⟩
  · exact T.sys.imp fun m q => nsd q
/-- one tracking of the script and of the tables -/
structure TrkT (P : Program) (w : World) (K : PySem.W.Frag) (h : Heap) (a : Addr) (ns : List Int) (ts : List Addr) (H : Hp) : Prop where
  only : ∀ b, H b = none ∨ (b ∈ ts ∧ H b = some (.tbl #[])) ∨ (b = a ∧ ∃ o xs, H b = some (.frz o (.lst xs)))
  tab : ∀ b ∈ ts, H b = some (.tbl #[])
  seq : SqL K H a (ns.map V.int)
  ok : HOk P w H h
  offK : ∀ b, H b ≠ none → K.lookup b = none
theorem trkT_ex {ts : List Addr} {h : Heap} (T : TopH K mg h) (ha : h.get? a = some { cls := .type "list", data := .seq vs.toArray }) (hi : IntsAre vs ns) (hl : ns.length ≤ sizeLine) (hT : ∀ b ∈ ts, h.get? b = some (PySem.W.tabObj #[])) (hTK : ∀ b ∈ ts, K.lookup b = none) : ∃ H, TrkT P w K h a ns ts H := by
  have rv := vals_ints hi
  have lv := hi.length
  have aT : a ∉ ts := fun z => by
    have q := hT a z
    rw [ha] at q
    have z' : Data.seq vs.toArray _ = Data.fields #[] := congrArg Obj.data (Option.some.inj q)
    cases z'
  cases hk : K.lookup a with
  | some o =>
    have e : o = _ := Option.some.inj ((T.kin a o hk).symm.trans ha)
    subst e
    refine ⟨fun b => if b ∈ ts then some (.tbl #[]) else none, fun b => ?_, fun b hb => if_pos hb, .inr ?_, fun b o z => ?_, fun b z => ?_⟩
    · by_cases hb : b ∈ ts
      · exact .inr (.inl ⟨hb, if_pos hb⟩)
      · exact .inl (if_neg hb)
    · refine ⟨_, vs.toArray, 0, hk, rfl, rfl, rfl, ?_, ?_⟩
      · rw [List.size_toArray, lv]; exact hl
      · rwa [List.toList_toArray]
    · by_cases hb : b ∈ ts
      · have z' := (if_pos hb).symm.trans z
        cases z'
        exact hT b hb
      · have z' := (if_neg hb).symm.trans z
        cases z'
    · by_cases hb : b ∈ ts
      · exact hTK b hb
      · exact absurd (if_neg hb) z
  | none =>
    refine ⟨L2.upd (fun b => if b ∈ ts then some (.tbl #[]) else none) a (.frz { cls := .type "list", data := .seq vs.toArray } (.lst (ns.map V.int))), fun b => ?_, fun b hb => ?_, .inl (.inr ⟨_, upd_same⟩), fun b o z => ?_, fun b z => ?_⟩
    · by_cases hb : b = a
      · rw [hb]; exact .inr (.inr ⟨rfl, _, _, upd_same⟩)
      · rw [upd_ne hb]
        by_cases hb2 : b ∈ ts
        · exact .inr (.inl ⟨hb2, if_pos hb2⟩)
        · exact .inl (if_neg hb2)
    · have ne : b ≠ a := fun z => aT (by rw [← z]; exact hb)
      rw [upd_ne ne]
      exact if_pos hb
    · by_cases hb : b = a
      · rw [hb, upd_same] at z
        rw [hb, ← Option.some.inj z]
        exact ⟨ha, by rw [List.length_map]; exact hl, vs, 0, rv, ha⟩
      · rw [upd_ne hb] at z
        by_cases hb2 : b ∈ ts
        · have z' := (if_pos hb2).symm.trans z
          cases z'
          exact hT b hb2
        · have z' := (if_neg hb2).symm.trans z
          cases z'
    · by_cases hb : b = a
      · rw [hb]; exact hk
      · rw [upd_ne hb] at z
        by_cases hb2 : b ∈ ts
        · exact hTK b hb2
        · exact absurd (if_neg hb2) z
theorem hidC {h : Heap} {H : Hp} {c p : Addr} {ts : List Addr} {ha0 : Obj} (R : TrkT P w K h a ns ts H) (ha : h.get? a = some { cls := .type "list", data := .seq vs.toArray }) (C : PySem.W.CodeHd h c p) : PySem.W.CodeHd (hidT h H) c p := by
  obtain ⟨o, us, file, tf, flags, tg, inF, text, tt, e1, e2, e3, r⟩ := C
  refine ⟨o, us, file, tf, flags, tg, inF, text, tt, hidT_get e1 ?_, e2, e3, r⟩
  rcases R.only c with z | ⟨_, z⟩ | ⟨z, _⟩
  · exact z
  · have q := R.ok c _ z
    rw [show h.get? c = _ from q] at e1
    cases e1
    cases e2
  · rw [z, ha] at e1
    cases e1
    cases e3
theorem callGT {cs : List (Addr × Addr)} (T : TopH K mg s1.heap) (hg : s1.gens = #[]) (ha : s1.heap.get? a = some { cls := .type "list", data := .seq vs.toArray }) (hi : IntsAre vs ns) (hl : ns.length ≤ sizeLine) (hr : Room k callerA)
    (hT : ∀ p ∈ cs, PySem.W.CodeHd s1.heap p.1 p.2 ∧ s1.heap.get? p.2 = some (PySem.W.tabObj #[]) ∧ K.lookup p.2 = none)
    (hbm : ∃ (bm : Addr) (ob : Obj), mg "__builtins__" = some (.ref bm) ∧ bm ≠ builtinsNs ∧ s1.heap.get? bm = some ob ∧ ob.cls = .type "module" ∧ ob.dict = some builtinsNs ∧ ob.data = .plain)
    (F : ∀ base : Heap, TopH K mg base → (∀ p ∈ cs, LamX.TabB base mg p.1 p.2) → FnG P w K mg base k fa fd [x] sp) (hbind : ∀ (s : Shared) (u : Value), BindsTo s fd ⟨[u], []⟩ [(x, u)])
    (hsp : ∀ H : Hp, (∀ p ∈ cs, H p.2 = some (.tbl #[])) → SqL K H a (ns.map V.int) → sp [.ref a] H (fun v _ => v = .bl true) E0) :
    codeAny (model P w) callerA (.call (.ref fa) ⟨[.ref a], []⟩) (fun r s' => r = .ok (.ret (.bool true)) ∧ OldK s1.heap s'.heap ∧ s'.os = s1.os ∧ AllBare s'.gens) s1 := by
  have mem : ∀ p ∈ cs, p.2 ∈ cs.map (·.2) := fun p hp => List.mem_map.mpr ⟨p, hp, rfl⟩
  have back : ∀ b ∈ cs.map (·.2), ∃ p ∈ cs, p.2 = b := fun b hb => by
    obtain ⟨p, hp, e⟩ := List.mem_map.mp hb
    exact ⟨p, hp, e⟩
  obtain ⟨H, R⟩ := trkT_ex (P := P) (w := w) (ts := cs.map (·.2)) T ha hi hl (fun b hb => by
    obtain ⟨p, hp, e⟩ := back b hb
    rw [← e]; exact (hT p hp).2.1) fun b hb => by
    obtain ⟨p, hp, e⟩ := back b hb
    rw [← e]; exact (hT p hp).2.2
  have hide : ∀ {b : Addr} {o : Obj}, s1.heap.get? b = some o → (∀ xs n, o.data ≠ .seq xs n) → o.data ≠ .fields #[] → H b = none := fun {b o} e h1 h2 => by
    rcases R.only b with z | ⟨_, z⟩ | ⟨z, _⟩
    · exact z
    · have q := R.ok b _ z
      rw [show s1.heap.get? b = _ from q] at e
      cases e
      exact absurd rfl h2
    · rw [z, ha] at e
      cases e
      exact absurd rfl (h1 _ _)
  have TB : TopH K mg (hidT s1.heap H) := T.hid2 (fun b o n e es ep z => n (hide e (fun _ _ q => by rw [z] at q; cases q) (fun q => by rw [z] at q; cases q))) R.offK
  have tabs : ∀ p ∈ cs, LamX.TabB (hidT s1.heap H) mg p.1 p.2 := fun p hp => by
    obtain ⟨h1, h2, _⟩ := hT p hp
    refine ⟨hidC (ha0 := PySem.W.tabObj #[]) R ha h1, ?_, fun z => ?_⟩
    · obtain ⟨bm, ob, b1, b2, b3, b4, b5, b6⟩ := hbm
      have nG : bm ≠ mainGlobals := fun q => by
        obtain ⟨o, es, ep, e, hd, _⟩ := T.ns
        rw [q, e] at b3
        cases b3
        rw [hd] at b6
        cases b6
      have nP : bm ≠ p.2 := fun q => by
        rw [q, h2] at b3
        cases b3
        cases b6
      exact ⟨bm, ob, b1, b2, nG, nP, hidT_get b3 (hide b3 (fun _ _ q => by rw [b6] at q; cases q) (fun q => by rw [b6] at q; cases q)), b4, b5, b6⟩
    · obtain ⟨o, es, ep, e, hd, _⟩ := T.ns
      rw [z, h2] at e
      cases e
      cases hd
  have env : Env0 P w K mg (hidT s1.heap H) callerA [] s1 H :=
    { frames := rfl, mod := TB.mod, bs := fun b o q => of_hidT q, bsz := Nat.le_of_eq (hidT_size s1.heap H), funs := trivial, frf := fun b z => (List.not_mem_nil z).elim, hok := R.ok, bare := .of_eq hg }
  have run := (F _ TB tabs).run callerA [] s1 H ⟨[.ref a], []⟩ [.ref a] [.ref a] _ hr rfl env (hbind s1 (.ref a)) (.cons rfl .nil) (hsp H (fun p hp => R.tab _ (mem p hp)) R.seq)
  refine codeAny_mono run fun res s' h => ?_
  match res, h with
  | .ok (.ret u), h =>
    obtain ⟨v, H', h1, h2, hu, hok', hv, hq⟩ := h
    have hv : RelV (.bl true) u := (show v = .bl true from hq) ▸ hv
    have grown : ∀ b ∈ cs.map (·.2), ∃ more : Array Value, s'.heap.get? b = some { cls := .none, data := .fields more } := fun b hb => by
      obtain ⟨more, z⟩ := hu.tbls b #[] (R.tab b hb)
      exact ⟨_, hok' b _ z⟩
    have key : ∀ b o, b ∉ cs.map (·.2) → s1.heap.get? b = some o → s'.heap.get? b = some o := fun b o nb hb => by
      rcases R.only b with z | ⟨z, _⟩ | ⟨_, o', xs, z⟩
      · exact hu.keep b o hb z (fun q => (List.not_mem_nil q).elim) List.not_mem_nil
      · exact absurd z nb
      · have e1 := (R.ok b _ z).1
        have e2 := (hok' b _ (hu.frzs b o' _ z)).1
        rw [hb] at e1
        rw [e2, ← e1]
    refine ⟨by rw [show u = Value.bool true from hv], ⟨fun b o e => ?_, fun b o e => ?_⟩, h1, h2⟩
    · by_cases hb : b ∈ cs.map (·.2)
      · obtain ⟨p, hp, ep⟩ := back b hb
        obtain ⟨more, hm⟩ := grown b hb
        have ht := (hT p hp).2.1
        rw [ep] at ht
        rw [ht] at e
        cases e
        refine .inr (.inl ⟨?_, rfl, #[], more, rfl, by rw [Array.empty_append]; exact hm⟩)
        rw [← ep] at ht ⊢
        exact ((hT p hp).1.tab ht).isCodeTable
      · exact .inl (key b o hb e)
    · by_cases hb : b ∈ cs.map (·.2)
      · obtain ⟨more, hm⟩ := grown b hb
        exact ⟨_, hm⟩
      · exact ⟨o, key b o hb e⟩
  | .ok .next, h => exact h.elim
  | .ok .brk, h => exact h.elim
  | .ok .cont, h => exact h.elim
  | .error e, h => exact h.elim
end
/-- the law's walk, tables of the defs that make lambdas told -/
theorem walkGT {l : PySem.W.OpenLaw} {n k : Nat} {q : Program} {loose : List Str} {XP : (Str → Option Value) → Heap → Prop} {YP : World → Heap → Prop} {d : DefRec} {K : Params → PySem.W.Frag} {x : Str}
    (hn : l.most = some n) (h63 : n ≤ 63) (hdf : d.params.defaults = []) (hr : Room k callerA) (himp : importsNone q = true) (hY : ∀ (w : World) (h : Heap), YP w h → (K w.params).In h)
    (F : ∀ (w : World) (mg : Str → Option Value) (fa : Addr) (h : Heap), (K w.params).In h → h.Ns mainGlobals mg → mg d.name = some (.ref fa) →
      (∀ (y : Str) (e : DefRec) (c T0 : Addr), (recsOf q).find? (fun e => e.name == y) = some e → PySem.W.tabIn (K w.params) y = some (c, T0) → PySem.W.CodeHd h c T0 ∧ h.get? T0 = some (PySem.W.tabObj #[])) →
      ∃ (fd : FuncData) (cs : List (Addr × Addr)) (τ : Tb), (∀ p ∈ τ.T, p.1 ∈ cs.map (·.2)) ∧ (∀ p ∈ cs, PySem.W.CodeHd h p.1 p.2 ∧ h.get? p.2 = some (PySem.W.tabObj #[]) ∧ (K w.params).lookup p.2 = none) ∧ (∀ (s : Shared) (u : Value), BindsTo s fd ⟨[u], []⟩ [(x, u)]) ∧
        ∀ base : Heap, TopH (K w.params) mg base → (∀ p ∈ cs, LamX.TabB base mg p.1 p.2) → FnG l.prog w (K w.params) mg base k fa fd [x] (@spLaw τ (K w.params))) :
    PySem.W.WalkO q loose XP YP l.row.toRowW d [] (fun f vs => PySem.call f vs) := by
  refine Att.attach_call hn hdf fun w s0 s1 mg mb fa o pm cd doc a vs ns G Y ho hd hcd hmg hobj hints hlen hg => ?_
  have T : TopH (K w.params) mg s1.heap := ⟨hY w _ Y, G.T.g, ⟨mb, G.T.b, G.T.builtins⟩, G.T.nolimit, let ⟨mm, h, _⟩ := (G.T.seer himp).mods; ⟨mm, h⟩⟩
  obtain ⟨fd, cs, τ, hτ, hcs, hb, hF⟩ := F w mg fa _ T.kin G.T.g hmg fun y e c T0 h1 h2 => PySem.W.tab_of G.T T.kin h1 h2
  have z := z64
  refine callGT T hg hobj hints (by omega) hr hcs G.T.bmain hF hb fun H hT hS => ⟨a, ns, rfl, by omega, hS, fun p hp => ?_, fun _ => rfl⟩
  obtain ⟨p', hp', e⟩ := List.mem_map.mp (hτ p hp)
  exact LamX.TabS.nil (by rw [← e]; exact hT p' hp')
/-- the def y has its table, wherever it stands -/
def LamTb [Tb] (K : PySem.W.Frag) (mg : Str → Option Value) (base : Heap) (y : Str) : Prop := ∀ (a : Addr) (fd : FuncData), (∃ st, Fun K y y st a fd) → mg y = some (.ref a) → LamAt mg base y fd
/-- no def makes a lambda -/
theorem walkG {l : PySem.W.OpenLaw} {n k : Nat} {q : Program} {loose : List Str} {XP : (Str → Option Value) → Heap → Prop} {YP : World → Heap → Prop} {d : DefRec} {K : Params → PySem.W.Frag} {x : Str}
    (hn : l.most = some n) (h63 : n ≤ 63) (hdf : d.params.defaults = []) (hr : Room k callerA) (himp : importsNone q = true) (hY : ∀ (w : World) (h : Heap), YP w h → (K w.params).In h)
    (F : ∀ (w : World) (mg : Str → Option Value) (fa : Addr) (h : Heap), (K w.params).In h → h.Ns mainGlobals mg → mg d.name = some (.ref fa) →
      ∃ fd : FuncData, (∀ (s : Shared) (u : Value), BindsTo s fd ⟨[u], []⟩ [(x, u)]) ∧ ∀ base : Heap, TopH (K w.params) mg base → FnG l.prog w (K w.params) mg base k fa fd [x] (spLaw (K w.params))) :
    PySem.W.WalkO q loose XP YP l.row.toRowW d [] (fun f vs => PySem.call f vs) :=
  walkGT hn h63 hdf hr himp hY fun w mg fa h KX G hmg _ => by
    obtain ⟨fd, hb, hF⟩ := F w mg fa h KX G hmg
    exact ⟨fd, [], Tb.none, fun p hp => (nomatch hp), fun p hp => (nomatch hp), hb, fun base T _ => hF base T⟩
/-- one def, y, makes lambdas -/
theorem walkG1 {l : PySem.W.OpenLaw} {n k : Nat} {q : Program} {loose : List Str} {XP : (Str → Option Value) → Heap → Prop} {YP : World → Heap → Prop} {d : DefRec} {K : Params → PySem.W.Frag} {x : Str} (y : Str) (e : DefRec)
    (hn : l.most = some n) (h63 : n ≤ 63) (hdf : d.params.defaults = []) (hr : Room k callerA) (himp : importsNone q = true) (hf : (recsOf q).find? (fun e => e.name == y) = some e) (hY : ∀ (w : World) (h : Heap), YP w h → (K w.params).In h)
    (F : ∀ (w : World) (mg : Str → Option Value) (fa : Addr) (h : Heap), (K w.params).In h → h.Ns mainGlobals mg → mg d.name = some (.ref fa) →
      ∃ (c T0 : Addr), PySem.W.tabIn (K w.params) y = some (c, T0) ∧ (K w.params).lookup T0 = none ∧ ∃ fd : FuncData, (∀ (s : Shared) (u : Value), BindsTo s fd ⟨[u], []⟩ [(x, u)]) ∧
        ∀ base : Heap, TopH (K w.params) mg base → @LamTb ⟨[(T0, y ++ ".<locals>." ++ "<lambda>")]⟩ (K w.params) mg base y → FnG l.prog w (K w.params) mg base k fa fd [x] (@spLaw ⟨[(T0, y ++ ".<locals>." ++ "<lambda>")]⟩ (K w.params))) :
    PySem.W.WalkO q loose XP YP l.row.toRowW d [] (fun f vs => PySem.call f vs) :=
  walkGT hn h63 hdf hr himp hY fun w mg fa h KX G hmg tab => by
    obtain ⟨c, T0, h1, h2, fd, hb, hF⟩ := F w mg fa h KX G hmg
    have ht := tab y e c T0 hf h1
    refine ⟨fd, [(c, T0)], ⟨[(T0, y ++ ".<locals>." ++ "<lambda>")]⟩, fun p hp => ?_, fun p hp => ?_, hb, fun base T tb => hF base T fun a fd' ⟨st, Fu⟩ hm => ?_⟩
    · rcases List.mem_singleton.mp hp with rfl
      exact List.mem_singleton.mpr rfl
    · rcases List.mem_singleton.mp hp with rfl
      exact ⟨ht.1, ht.2, h2⟩
    · have tb1 := tb (c, T0) (List.mem_singleton.mpr rfl)
      obtain ⟨oc, od, kV, doc, pm, an, cdv, ct, osl, ee, lk, hcd⟩ := Fu.ex
      refine ⟨c, T0, ?_, tb1, List.mem_singleton.mpr rfl, fun p hp _ => by rcases List.mem_singleton.mp hp with rfl; rfl⟩
      exact PySem.W.law_code (h := base) (mg := mg) T.kin T.ns h1 hm (T.kin _ _ lk) rfl
end
set_option maxHeartbeats 4000000
/-! PLa: the plain side: how compact texts are run by hand. -/
section
open PySem
theorem lift_some {α : Type} {a : α} {Q : α → Prop} : lift (some a) Q = Q a := by
  simp [lift]
theorem lcW_map {st : D → W (Option D)} {f : D → Option D} : ∀ {ds : List D} {Q : List D → Prop}, (∀ d ∈ ds, ∀ K : Option D → Prop, K (f d) → st d K) → Q (ds.filterMap f) → lcW ds st Q
  | [], Q, _, q => q
  | d :: ds, Q, h, q => by
    unfold lcW
    refine h d (List.mem_cons_self ..) _ (lcW_map (fun e he => h e (List.mem_cons_of_mem _ he)) ?_)
    cases hf : f d with
    | none => rw [List.filterMap_cons_none hf] at q; exact q
    | some x => rw [List.filterMap_cons_some hf] at q; exact q
inductive All2 {α β : Type} (R : α → β → Prop) : List α → List β → Prop
  | nil : All2 R [] []
  | cons {a b as bs} : R a b → All2 R as bs → All2 R (a :: as) (b :: bs)
/-- one by one, told by a relation -/
theorem lcW_rel {st : D → W (Option D)} {R : D → Option D → Prop} : ∀ {ds : List D} {Q : List D → Prop}, (∀ d ∈ ds, ∀ K : Option D → Prop, (∀ o, R d o → K o) → st d K) → (∀ os : List (Option D), All2 R ds os → Q (os.filterMap id)) → lcW ds st Q
  | [], Q, _, q => q [] .nil
  | d :: ds, Q, h, q => by
    unfold lcW
    refine h d (List.mem_cons_self ..) _ fun o ho => lcW_rel (R := R) (fun e he => h e (List.mem_cons_of_mem _ he)) fun os hos => ?_
    have := q (o :: os) (.cons ho hos)
    cases o with
    | none => exact this
    | some x => exact this
theorem forW_inv {st : D → Nv → (Nv → Prop) → Prop} {ds : List D} {ρ : Nv} {Q : Nv → Prop} (I : Nat → Nv → Prop) (h0 : I 0 ρ) (hs : ∀ i (h : i < ds.length) ρ, I i ρ → ∀ K : Nv → Prop, (∀ ρ', I (i + 1) ρ' → K ρ') → st ds[i] ρ K) (hq : ∀ ρ, I ds.length ρ → Q ρ) : forW ds st ρ Q := by
  have key : ∀ (n i : Nat) (ρ : Nv), ds.length - i = n → i ≤ ds.length → I i ρ → forW (ds.drop i) st ρ Q := by
    intro n
    induction n with
    | zero =>
      intro i ρ e hi h
      have : i = ds.length := by omega
      subst this
      rw [List.drop_length]
      exact hq ρ h
    | succ n ih =>
      intro i ρ e hi h
      have hlt : i < ds.length := by omega
      rw [List.drop_eq_getElem_cons hlt]
      exact hs i hlt ρ h _ fun ρ' h' => ih (i + 1) ρ' (by omega) hlt h'
  exact key _ 0 ρ rfl (Nat.zero_le _) h0
end
set_option maxHeartbeats 4000000
/-! PLb: plain data: how deep, how long. -/
section
open PySem
mutual
inductive Pl : Nat → Nat → D → Prop
  | int {k m i} : i.natAbs < 10 ^ 20 → Pl k m (.int i)
  | bool {k m b} : Pl k m (.bool b)
  | none {k m} : Pl k m .none
  | lst {k m xs} : PlA k m xs → Pl (k + 1) m (.list xs)
  | tup {k m xs} : PlA k m xs → Pl (k + 1) m (.tuple xs)
inductive PlA : Nat → Nat → List D → Prop
  | nil {k m} : PlA k m []
  | cons {k a b x xs} : Pl k a x → PlA k b xs → PlA k (a + 1 + b) (x :: xs)
end
theorem PlA.all {k a : Nat} : ∀ {xs : List D}, (∀ x ∈ xs, Pl k a x) → PlA k ((a + 1) * xs.length) xs
  | [], _ => .nil
  | x :: xs, h => by
    have := PlA.cons (h x (List.mem_cons_self ..)) (PlA.all fun y hy => h y (List.mem_cons_of_mem _ hy))
    rw [show (a + 1) * (x :: xs).length = a + 1 + (a + 1) * xs.length by rw [List.length_cons, Nat.mul_succ]; omega]
    exact this
mutual
theorem Pl.facts : ∀ {k m : Nat} {d : D}, Pl k m d → d.canLay0 = true ∧ d.depth ≤ k ∧ d.showable = true ∧ d.leavesShort 24 = true ∧ d.bulk ≤ m
  | _, _, _, .int (i := i) h => by
    refine ⟨by simp only [PyData.canLay0], by simp [PyData.depth], ?_, ?_, by simp [PyData.bulk]⟩
    · have : i.natAbs.log2 < 1920 := by
        by_cases z : i.natAbs = 0
        · rw [z]; decide
        · have : i.natAbs.log2 < 67 := (Nat.log2_lt z).mpr (Nat.lt_trans h (by decide))
          omega
      simpa only [PyData.showable, decide_eq_true_eq] using this
    · have := int_text_length_le10 (a := i) (k := 20) (by decide) h
      have e : (Str.ofString (toString i)).length = (toString i).length := by
        rw [Str.ofString_eq_toList]
        simp [Str.length, String.length]
      have g : (PyData.int i).shown.length ≤ 24 := by
        simp only [PyData.shown]
        omega
      simp only [PyData.leavesShort]
      exact decide_eq_true g
  | _, _, _, .bool (b := b) => ⟨by simp only [PyData.canLay0], by simp [PyData.depth], by simp only [PyData.showable], by simp only [PyData.leavesShort], by simp [PyData.bulk]⟩
  | _, _, _, .none => ⟨by simp only [PyData.canLay0], by simp [PyData.depth], by simp only [PyData.showable], by simp only [PyData.leavesShort], by simp [PyData.bulk]⟩
  | _, _, _, .lst h => by
    obtain ⟨h1, h2, h3, h4, h5⟩ := h.facts
    exact ⟨by simpa only [PyData.canLay0] using h1, by simp only [PyData.depth]; omega, by simpa only [PyData.showable] using h3, by simpa only [PyData.leavesShort] using h4, by simpa only [PyData.bulk] using h5⟩
  | _, _, _, .tup h => by
    obtain ⟨h1, h2, h3, h4, h5⟩ := h.facts
    exact ⟨by simpa only [PyData.canLay0] using h1, by simp only [PyData.depth]; omega, by simpa only [PyData.showable] using h3, by simpa only [PyData.leavesShort] using h4, by simpa only [PyData.bulk] using h5⟩
theorem PlA.facts : ∀ {k m : Nat} {xs : List D}, PlA k m xs → PyData.canLayAll0 xs = true ∧ PyData.depthAll xs ≤ k ∧ PyData.showableAll xs = true ∧ PyData.leavesShortAll 24 xs = true ∧ PyData.bulkAll xs ≤ m
  | _, _, _, .nil => ⟨by simp only [PyData.canLayAll0], by simp [PyData.depthAll], by simp only [PyData.showableAll], by simp only [PyData.leavesShortAll], by simp [PyData.bulkAll]⟩
  | _, _, _, .cons h t => by
    obtain ⟨h1, h2, h3, h4, h5⟩ := h.facts
    obtain ⟨t1, t2, t3, t4, t5⟩ := t.facts
    exact ⟨by simp only [PyData.canLayAll0, h1, t1]; rfl, by simp only [PyData.depthAll]; omega, by simp only [PyData.showableAll, h3, t3]; rfl, by simp only [PyData.leavesShortAll, h4, t4]; rfl, by simp only [PyData.bulkAll]; omega⟩
end
theorem showOk_of {k m : Nat} {d : D} (h : Pl k m d) (hk : k ≤ 60) (hm : m ≤ 600000) : showOk d = true := by
  obtain ⟨h1, h2, h3, h4, h5⟩ := h.facts
  have e := PyData.shown_le_bulk 24 (by decide) d h4
  have z : sizeLine = 16777216 := by decide
  unfold showOk
  simp only [Bool.and_eq_true, decide_eq_true_eq]
  exact ⟨⟨h3, by omega⟩, by omega⟩
theorem strOk_append {a b : Str} (ha : PyData.strOk a = true) (hb : PyData.strOk b = true) : PyData.strOk (a ++ b) = true := by
  unfold PyData.strOk at *
  have e : (a ++ b).cps = a.cps ++ b.cps := rfl
  rw [e, ← Array.all_toList, Array.toList_append, List.all_append, Array.all_toList, Array.all_toList, ha, hb]; rfl
theorem strOk_of (s : String) : PyData.strOk (Str.ofString s) = true := by
  unfold PyData.strOk
  rw [Str.ofString_eq_toList, ← Array.all_toList]
  simp only [List.all_map, List.all_eq_true, Function.comp, decide_eq_true_eq]
  intro c _
  have := c.valid
  have h2 : c.toNat = c.val.toNat := rfl
  rw [h2]
  rcases this with h | ⟨_, h⟩
  · exact Nat.lt_trans h (by decide)
  · exact h
theorem strOk_textFrom : ∀ (ts : List Str) (k : Nat) (acc : Str), PyData.strOk acc = true → (∀ t ∈ ts, PyData.strOk t = true) → PyData.strOk (textFrom k acc ts) = true
  | [], _, _, h, _ => h
  | t :: ts, k, acc, h, ht => strOk_textFrom ts (k + 1) _ (strOk_append (strOk_append h (strOk_of _)) (ht t (List.mem_cons_self ..))) fun u hu => ht u (List.mem_cons_of_mem _ hu)
theorem strOk_join : ∀ (ts : List Str), (∀ t ∈ ts, PyData.strOk t = true) → PyData.strOk (Str.join ", " ts) = true
  | [], _ => by decide +kernel
  | [x], h => h x (List.mem_cons_self ..)
  | x :: y :: r, h => strOk_append (strOk_append (h x (List.mem_cons_self ..)) (strOk_of _)) (strOk_join (y :: r) fun u hu => h u (List.mem_cons_of_mem _ hu))
mutual
theorem Pl.strOk : ∀ {k m : Nat} {d : D}, Pl k m d → PyData.strOk d.shown = true
  | _, _, _, .int h => by simp only [PyData.shown]; exact strOk_of _
  | _, _, _, .bool => by simp only [PyData.shown]; split <;> exact strOk_of _
  | _, _, _, .none => by simp only [PyData.shown]; exact strOk_of _
  | _, _, _, .lst h => by simp only [PyData.shown]; exact strOk_append (strOk_textFrom _ _ _ (strOk_of _) h.strOk) (strOk_of _)
  | _, _, _, .tup h => by simp only [PyData.shown]; exact strOk_append (strOk_append (strOk_of _) (strOk_join _ h.strOk)) (strOk_of _)
theorem PlA.strOk : ∀ {k m : Nat} {xs : List D}, PlA k m xs → ∀ t ∈ PyData.shownAll xs, PyData.strOk t = true
  | _, _, _, .nil => by simp [PyData.shownAll]
  | _, _, _, .cons h t => by
    intro u hu
    simp only [PyData.shownAll, List.mem_cons] at hu
    rcases hu with rfl | hu
    · exact h.strOk
    · exact t.strOk u hu
end
theorem eqv_str (a b : Str) : PyData.eqv (.str a) (.str b) = decide (a = b) := by
  simp only [PyData.eqv]
  first | rfl | (by_cases h : a = b <;> simp [h])
/-- repr(x) != repr(x): no -/
theorem ne_self {k m : Nat} {d : D} (h : Pl k m d) : copD .ne (.str d.shown) (.str d.shown) = some (.bool false) := by
  show (if eqOk _ _ then _ else _) = _
  have h1 : PyData.canLay0 (.str d.shown) = true := by simp only [PyData.canLay0]; exact h.strOk
  have h2 : PyData.depth (.str d.shown) = 0 := by simp only [PyData.depth]
  have e : eqOk (.str d.shown) (.str d.shown) = true := by unfold eqOk; rw [h1, h2]; rfl
  rw [if_pos e, eqv_str, decide_eq_true rfl]; rfl
theorem prim_repr {k m : Nat} {d : D} (h : Pl k m d) (hk : k ≤ 60) (hm : m ≤ 600000) : primD .repr [d] = some (.str d.shown) := by
  show (if showOk d = true then _ else _) = _
  rw [if_pos (showOk_of h hk hm)]
end
set_option maxHeartbeats 4000000
/-! PLc: pairs of ints; ranges; what is in what. -/
section
open PySem L2
def ip (p : Int × Int) : D := .tuple [.int p.1, .int p.2]
def ordD (n : Int) (ps : List (Int × Int)) : D := .tuple [.int n, .tuple (ps.map ip)]
theorem eqv_int (a b : Int) : PyData.eqv (.int a) (.int b) = decide (a = b) := by
  simp only [PyData.eqv]
  first | rfl | (by_cases h : a = b <;> simp [h])
theorem eqv_ip (p q : Int × Int) : PyData.eqv (ip p) (ip q) = decide (p = q) := by
  obtain ⟨a, b⟩ := p
  obtain ⟨c, d⟩ := q
  unfold ip
  simp only [PyData.eqv, PyData.eqvAll, eqv_int]
  by_cases h1 : a = c <;> by_cases h2 : b = d <;> simp [h1, h2]
theorem canLay_int (a : Int) : PyData.canLay0 (.int a) = true := by simp only [PyData.canLay0]
theorem depth_int (a : Int) : PyData.depth (.int a) = 0 := by simp only [PyData.depth]
theorem canLay_ip (p : Int × Int) : PyData.canLay0 (ip p) = true := by
  unfold ip; simp only [PyData.canLay0, PyData.canLayAll0]; rfl
theorem depth_ip (p : Int × Int) : PyData.depth (ip p) = 1 := by
  unfold ip; simp only [PyData.depth, PyData.depthAll]; rfl
theorem canLayAll_of : ∀ {ds : List D}, (∀ d ∈ ds, PyData.canLay0 d = true) → PyData.canLayAll0 ds = true
  | [], _ => by simp only [PyData.canLayAll0]
  | d :: ds, h => by simp only [PyData.canLayAll0, h d (List.mem_cons_self ..), canLayAll_of fun e he => h e (List.mem_cons_of_mem _ he)]; rfl
theorem depthAll_of {k : Nat} : ∀ {ds : List D}, (∀ d ∈ ds, PyData.depth d ≤ k) → PyData.depthAll ds ≤ k
  | [], _ => by simp [PyData.depthAll]
  | d :: ds, h => by
    have h1 := h d (List.mem_cons_self ..)
    have h2 := depthAll_of fun e he => h e (List.mem_cons_of_mem _ he)
    simp only [PyData.depthAll]; omega
/-- what is in a list of data of one sort -/
theorem in_of {α : Type} [DecidableEq α] {f : α → D} (hf : ∀ a b, PyData.eqv (f a) (f b) = decide (a = b)) (hc : ∀ a, PyData.canLay0 (f a) = true) (hd : ∀ a, PyData.depth (f a) ≤ 60) (neg : Bool) (p : α) (ps : List α) [Decidable (p ∈ ps)] :
    inD neg (f p) (.tuple (ps.map f)) = some (.bool (if neg then !decide (p ∈ ps) else decide (p ∈ ps))) ∧ inD neg (f p) (.list (ps.map f)) = some (.bool (if neg then !decide (p ∈ ps) else decide (p ∈ ps))) := by
  have e : ((ps.map f).any fun y => PyData.eqv y (f p)) = decide (p ∈ ps) := by
    rw [Bool.eq_iff_iff, List.any_eq_true, decide_eq_true_iff]
    constructor
    · rintro ⟨y, hy, he⟩
      obtain ⟨q, hq, rfl⟩ := List.mem_map.mp hy
      rw [hf] at he
      rw [← of_decide_eq_true he]; exact hq
    · intro h
      exact ⟨f p, List.mem_map_of_mem h, by rw [hf]; simp⟩
  have c : ((f p).canLay0 && PyData.canLayAll0 (ps.map f) && decide (min (PyData.depthAll (ps.map f)) (f p).depth ≤ 60)) = true := by
    rw [hc p, canLayAll_of (fun d hd' => by
      obtain ⟨a, _, rfl⟩ := List.mem_map.mp hd'
      exact hc a)]
    have := hd p
    simp only [Bool.true_and, decide_eq_true_eq]
    omega
  constructor
  · show (if _ then _ else _) = _
    rw [if_pos c, e]
  · show (if _ then _ else _) = _
    rw [if_pos c, e]
theorem in_ips (neg : Bool) (a b : Int) (ps : List (Int × Int)) : inD neg (.tuple [.int a, .int b]) (.tuple (ps.map ip)) = some (.bool (if neg then !decide ((a, b) ∈ ps) else decide ((a, b) ∈ ps))) :=
  (in_of (f := ip) eqv_ip canLay_ip (fun a => by rw [depth_ip]; omega) neg (a, b) ps).1
theorem inn_ips (a b : Int) (ps : List (Int × Int)) : copD .inn (.tuple [.int a, .int b]) (.tuple (ps.map ip)) = some (.bool (decide ((a, b) ∈ ps))) := in_ips false a b ps
theorem nin_ips (a b : Int) (ps : List (Int × Int)) : copD .nin (.tuple [.int a, .int b]) (.tuple (ps.map ip)) = some (.bool (!decide ((a, b) ∈ ps))) := in_ips true a b ps
theorem nin_ints (a : Int) (xs : List Int) : copD .nin (.int a) (.tuple (xs.map .int)) = some (.bool (!decide (a ∈ xs))) := (in_of (f := PyData.int) eqv_int canLay_int (fun a => by rw [depth_int]; omega) true a xs).1
theorem copD_eq (d e : D) : copD .eq d e = if eqOk d e then some (.bool (PyData.eqv d e)) else eqE false d e := rfl
theorem copD_ne (d e : D) : copD .ne d e = if eqOk d e then some (.bool (!PyData.eqv d e)) else eqE true d e := rfl
theorem copD_lt (d e : D) : copD .lt d e = if ltOk d e then some (.bool (PySem.W.dataLt d e)) else none := rfl
theorem copD_gt (d e : D) : copD .gt d e = if ltOk d e then some (.bool (PySem.W.dataLt e d)) else none := rfl
theorem cmp_int (a b : Int) : copD .eq (.int a) (.int b) = some (.bool (decide (a = b))) ∧ copD .ne (.int a) (.int b) = some (.bool (!decide (a = b))) := by
  have e : eqOk (.int a) (.int b) = true := by unfold eqOk; rw [canLay_int, canLay_int, depth_int, depth_int]; rfl
  constructor
  · rw [copD_eq, if_pos e, eqv_int]
  · rw [copD_ne, if_pos e, eqv_int]
theorem eq_int (a b : Int) : copD .eq (.int a) (.int b) = some (.bool (decide (a = b))) := (cmp_int a b).1
theorem ne_int (a b : Int) : copD .ne (.int a) (.int b) = some (.bool (!decide (a = b))) := (cmp_int a b).2
theorem dataLt_int (a b : Int) : PySem.W.dataLt (.int a) (.int b) = decide (a < b) := by
  unfold PySem.W.dataLt
  simp only [PySem.W.keyToks]
  rw [PyProof.Rows.lex_cons]
  show (decide (a < b) || (!decide (b < a) && PyProof.Rows.lexLt _ [] [])) = _
  have : PyProof.Rows.lexLt PyProof.Rows.itemOrd [] [] = false := rfl
  rw [this]; simp
theorem ltOk_int (a b : Int) : ltOk (.int a) (.int b) = true := by
  unfold ltOk
  rw [depth_int, depth_int]
  simp [PySem.W.alike, isN]
theorem lt_int (a b : Int) : copD .lt (.int a) (.int b) = some (.bool (decide (a < b))) := by
  rw [copD_lt, if_pos (ltOk_int a b), dataLt_int]
theorem gt_int (a b : Int) : copD .gt (.int a) (.int b) = some (.bool (decide (b < a))) := by
  rw [copD_gt, if_pos (ltOk_int a b), dataLt_int]
theorem ne_bool (a b : Bool) : copD .ne (.bool a) (.bool b) = some (.bool (a != b)) := by cases a <;> cases b <;> rfl
theorem truD_bool (b : Bool) : truD (.bool b) = some b := rfl
theorem idx0 (a : D) (l : List D) : idxD (.tuple (a :: l)) (.int 0) = some a := atI_nat (j := 0) rfl
theorem idx1 (a b : D) (l : List D) : idxD (.tuple (a :: b :: l)) (.int 1) = some b := atI_nat (j := 1) rfl
theorem add_int (a b : Int) : binD .add (.int a) (.int b) = some (.int (a + b)) := rfl
theorem sub_int (a b : Int) : binD .sub (.int a) (.int b) = some (.int (a - b)) := rfl
def rg (n : Nat) : List Int := (List.range n).map Int.ofNat
theorem rngD_int (a b : Int) : rngD (.int a) (.int b) = if RgOk a b then some (rangeI a b) else none := rfl
theorem rng_nat {n : Nat} (h : n ≤ 1000) : rngD (.int 0) (.int n) = some ((rg n).map .int) := by
  have ok : RgOk 0 (n : Int) := RgOk.of_le (by omega) (by omega) (by omega) (by omega)
  rw [rngD_int, if_pos ok]
  unfold rangeI rg
  rw [List.map_map]
  simp [Function.comp_def]
theorem mem_rg {n : Nat} {a : Int} : a ∈ rg n ↔ 0 ≤ a ∧ a < n := by
  unfold rg
  simp only [List.mem_map, List.mem_range]
  constructor
  · rintro ⟨i, h, rfl⟩
    exact ⟨Int.natCast_nonneg i, by simpa using h⟩
  · rintro ⟨h1, h2⟩
    exact ⟨a.toNat, by omega, by simp [Int.toNat_of_nonneg h1]⟩
theorem look_z {d : D} {r : Nv} : look (some (.sh d) :: r) 0 = some d := rfl
theorem look_s {x : Option B} {r : Nv} {i : Nat} : look (x :: r) (i + 1) = look r i := rfl
theorem lookB_z {d : D} {r : Nv} : lookB (some (.sh d) :: r) 0 = some d := rfl
theorem lookB_o {d : D} {r : Nv} : lookB (some (.own d) :: r) 0 = some d := rfl
theorem lookB_s {x : Option B} {r : Nv} {i : Nat} : lookB (x :: r) (i + 1) = lookB r i := rfl
theorem lookA_z {d : D} {r : Nv} : lookA (some (.sh d) :: r) 0 = some (.sh d) := rfl
theorem lookA_c {r : Nv} : lookA (some .src :: r) 0 = some .src := rfl
theorem lookA_s {x : Option B} {r : Nv} {i : Nat} : lookA (x :: r) (i + 1) = lookA r i := rfl
theorem lookO_o {d : D} {r : Nv} : lookO (some (.own d) :: r) 0 = some d := rfl
theorem lookO_s {x : Option B} {r : Nv} {i : Nat} : lookO (x :: r) (i + 1) = lookO r i := rfl
theorem ltD_l (xs : List D) : ltD (.list xs) = some xs := rfl
theorem ltD_t (xs : List D) : ltD (.tuple xs) = some xs := rfl
theorem lstD_l (xs : List D) : lstD (.list xs) = some xs := rfl
theorem asg_v {i : Nat} {d : D} {ρ : Nv} : asg (.v i) d ρ = some (ρ.set i (some (.sh d))) := by unfold asg; rfl
theorem asg_t {gs : List G} {ds : List D} {ρ : Nv} : asg (.tup gs) (.tuple ds) ρ = asgs gs ds ρ := by unfold asg; rfl
theorem asg_l {gs : List G} {ds : List D} {ρ : Nv} : asg (.tup gs) (.list ds) ρ = asgs gs ds ρ := by unfold asg; rfl
theorem asgs_n {ρ : Nv} : asgs [] [] ρ = some ρ := by unfold asgs; rfl
theorem asgs_c {g : G} {gs : List G} {d : D} {ds : List D} {ρ : Nv} : asgs (g :: gs) (d :: ds) ρ = (asg g d ρ).bind (asgs gs ds) := by rw [asgs]
theorem wipeN_n {ρ : Nv} : wipeN ρ [] = ρ := rfl
theorem wipeN_c {ρ : Nv} {i : Nat} {r : List Nat} : wipeN ρ (i :: r) = (wipeN ρ r).set i none := rfl
theorem p_tuple_l (xs : List D) : primD .tuple [.list xs] = some (.tuple xs) := rfl
theorem p_tuple_t (xs : List D) : primD .tuple [.tuple xs] = some (.tuple xs) := rfl
theorem p_list_l (xs : List D) : primD .list [.list xs] = some (.list xs) := rfl
theorem p_list_t (xs : List D) : primD .list [.tuple xs] = some (.list xs) := rfl
theorem p_len_l (xs : List D) : primD .len [.list xs] = some (.int xs.length) := rfl
theorem p_len_t (xs : List D) : primD .len [.tuple xs] = some (.int xs.length) := rfl
theorem sets_n {ρ : Nv} : sets ρ [] = ρ := rfl
theorem sets_c {ρ : Nv} {i : Nat} {b : B} {r : List (Nat × B)} : sets ρ ((i, b) :: r) = sets (ρ.set i (some b)) r := rfl
theorem lift_none {α : Type} {Q : α → Prop} : lift (none : Option α) Q = False := by simp [lift]
theorem free_n {ρ : Nv} : free ρ [] = true := rfl
def nOwn : Option (Option B) → Bool
  | some (some (.own _)) => false
  | _ => true
theorem free_c {ρ : Nv} {i : Nat} {r : List Nat} : free ρ (i :: r) = (nOwn ρ[i]? && free ρ r) := by
  first
    | rfl
    | (unfold free nOwn; rw [List.all_cons]; done)
    | (unfold free nOwn; rw [List.all_cons]; rfl)
theorem nOwn_n : nOwn (some none) = true := rfl
theorem nOwn_s {d : D} : nOwn (some (some (.sh d))) = true := rfl
theorem nOwn_c : nOwn (some (some .src)) = true := rfl
end
set_option maxHeartbeats 4000000
/-! PLd: general lemmas of the plain side (grown with k12): comprehensions, dicts of pairs, sorting, small data. -/
section
open PySem L2

theorem small_le {n : Nat} (h : n ≤ 1000) : n ≤ sizeLine := Nat.le_of_lt (small1000 h)
/-- a comprehension over ints with a test -/
theorem lcW_filter {α : Type} {f : α → D} {g : α → D} {p : α → Bool} {xs : List α} {st : D → W (Option D)} {Q : List D → Prop} (h : ∀ a ∈ xs, ∀ K : Option D → Prop, K (if p a = true then some (g a) else none) → st (f a) K) (q : Q ((xs.filter p).map g)) : lcW (xs.map f) st Q := by
  induction xs generalizing Q with
  | nil => exact q
  | cons a xs ih =>
    rw [List.map_cons]
    unfold lcW
    refine h a (List.mem_cons_self ..) _ (ih (fun b hb => h b (List.mem_cons_of_mem _ hb)) ?_)
    cases hp : p a with
    | true => rw [List.filter_cons_of_pos hp] at q; simpa using q
    | false => rw [List.filter_cons_of_neg (by simp [hp])] at q; simpa using q

theorem flatMap_len {α β : Type} {f : α → List β} {c : Nat} : ∀ {l : List α}, (∀ x ∈ l, (f x).length ≤ c) → (l.flatMap f).length ≤ c * l.length
  | [], _ => by simp
  | a :: l, h => by
    have h1 := h a (List.mem_cons_self ..)
    have h2 := flatMap_len (f := f) (l := l) fun x hx => h x (List.mem_cons_of_mem _ hx)
    rw [List.flatMap_cons, List.length_append, List.length_cons, Nat.mul_succ]; omega

theorem take_succ_flat {α β : Type} {f : α → List β} {l : List α} {i : Nat} (h : i < l.length) : (l.take (i + 1)).flatMap f = (l.take i).flatMap f ++ f l[i] := by
  rw [List.take_add_one, List.getElem?_eq_getElem h, List.flatMap_append]; simp
theorem take_succ_filter {α : Type} {p : α → Bool} {l : List α} {i : Nat} (h : i < l.length) : (l.take (i + 1)).filter p = (l.take i).filter p ++ (if p l[i] = true then [l[i]] else []) := by
  rw [List.take_add_one, List.getElem?_eq_getElem h, List.filter_append]
  simp only [Option.toList_some, List.filter_cons, List.filter_nil]

theorem small_lt {n : Nat} (h : n ≤ 5000) : n < sizeLine := Nat.lt_of_le_of_lt h (by decide)

theorem eq_unit0 (xs : List D) (neg : Bool) : copD (if neg then .ne else .eq) (.tuple xs) (.tuple []) = some (.bool (if neg then !xs.isEmpty else xs.isEmpty)) ∧ copD (if neg then .ne else .eq) (.list xs) (.list []) = some (.bool (if neg then !xs.isEmpty else xs.isEmpty)) := by
  have e1 : eqOk (.tuple xs) (.tuple []) = true := by
    unfold eqOk
    rw [Bool.or_eq_true]; exact .inr rfl
  have e2 : eqOk (.list xs) (.list []) = true := by
    unfold eqOk
    rw [Bool.or_eq_true]; exact .inr rfl
  have v1 : PyData.eqv (.tuple xs) (.tuple []) = xs.isEmpty := by cases xs <;> simp only [PyData.eqv, PyData.eqvAll] <;> rfl
  have v2 : PyData.eqv (.list xs) (.list []) = xs.isEmpty := by cases xs <;> simp only [PyData.eqv, PyData.eqvAll] <;> rfl
  cases neg
  · simp only [Bool.false_eq_true, if_false]
    exact ⟨by rw [copD_eq, if_pos e1, v1], by rw [copD_eq, if_pos e2, v2]⟩
  · simp only [if_true]
    exact ⟨by rw [copD_ne, if_pos e1, v1], by rw [copD_ne, if_pos e2, v2]⟩
theorem eq_unit (xs : List D) (hc : PyData.canLayAll0 xs = true) (neg : Bool) : copD (if neg then .ne else .eq) (.tuple xs) (.tuple []) = some (.bool (if neg then !xs.isEmpty else xs.isEmpty)) ∧ copD (if neg then .ne else .eq) (.list xs) (.list []) = some (.bool (if neg then !xs.isEmpty else xs.isEmpty)) := eq_unit0 xs neg
theorem eq_unit_t {xs : List D} (hc : PyData.canLayAll0 xs = true) : copD .eq (.tuple xs) (.tuple []) = some (.bool xs.isEmpty) := (eq_unit xs hc false).1
theorem eq_unit_l {xs : List D} (hc : PyData.canLayAll0 xs = true) : copD .eq (.list xs) (.list []) = some (.bool xs.isEmpty) := (eq_unit xs hc false).2
theorem ne_unit_t {xs : List D} (hc : PyData.canLayAll0 xs = true) : copD .ne (.tuple xs) (.tuple []) = some (.bool (!xs.isEmpty)) := (eq_unit xs hc true).1
theorem ne_unit_l {xs : List D} (hc : PyData.canLayAll0 xs = true) : copD .ne (.list xs) (.list []) = some (.bool (!xs.isEmpty)) := (eq_unit xs hc true).2

theorem add_list (a b : List D) : binD .add (.list a) (.list b) = if a.length + b.length ≤ sizeLine then some (.list (a ++ b)) else none := rfl

def tupI (xs : List Int) : D := .tuple (xs.map .int)

theorem canLay_ints (xs : List Int) : PyData.canLayAll0 (xs.map PyData.int) = true := canLayAll_of fun d hd => by
  obtain ⟨a, _, rfl⟩ := List.mem_map.mp hd
  exact canLay_int a

theorem ip0 (p : Int × Int) : idxD (ip p) (.int 0) = some (.int p.1) := idx0 _ _
theorem ip1 (p : Int × Int) : idxD (ip p) (.int 1) = some (.int p.2) := idx1 _ _ _
theorem rg_len (n : Nat) : (rg n).length = n := by unfold rg; simp

def InR (n : Int) (p : Int × Int) : Prop := 0 ≤ p.1 ∧ p.1 < n ∧ 0 ≤ p.2 ∧ p.2 < n
def ltP (p q : Int × Int) : Prop := p.1 < q.1 ∨ (p.1 = q.1 ∧ p.2 < q.2)
instance (p q : Int × Int) : Decidable (ltP p q) := by unfold ltP; exact inferInstance
def leP (p q : Int × Int) : Bool := decide (p.1 < q.1 ∨ (p.1 = q.1 ∧ p.2 ≤ q.2))
/-- a right order's pairs -/
structure GO (n : Nat) (ps : List (Int × Int)) : Prop where
  inr : ∀ p ∈ ps, InR n p
  srt : ps.Pairwise ltP
theorem len_of_sub {α : Type} [DecidableEq α] : ∀ (l m : List α), l.Nodup → (∀ x ∈ l, x ∈ m) → l.length ≤ m.length
  | [], _, _, _ => Nat.zero_le _
  | a :: l, m, h, hs => by
    have h := List.nodup_cons.mp h
    have ha := hs a (List.mem_cons_self ..)
    have := len_of_sub l (m.erase a) h.2 fun x hx => (List.mem_erase_of_ne fun e => h.1 (by rw [← e]; exact hx)).mpr (hs x (List.mem_cons_of_mem _ hx))
    rw [List.length_erase_of_mem ha] at this
    have : 0 < m.length := List.length_pos_of_mem ha
    simp only [List.length_cons]; omega
def grid (n : Nat) : List (Int × Int) := (rg n).flatMap fun a => (rg n).map fun b => (a, b)
theorem grid_len (n : Nat) : (grid n).length ≤ n * n := by
  unfold grid
  have := flatMap_len (f := fun a => (rg n).map fun b => (a, b)) (c := n) (l := rg n) fun x _ => by rw [List.length_map, rg_len]; exact Nat.le_refl _
  rwa [rg_len] at this
theorem in_grid {n : Nat} {p : Int × Int} (h : InR n p) : p ∈ grid n := by
  obtain ⟨h1, h2, h3, h4⟩ := h
  unfold grid
  exact List.mem_flatMap.mpr ⟨p.1, mem_rg.mpr ⟨h1, h2⟩, List.mem_map.mpr ⟨p.2, mem_rg.mpr ⟨h3, h4⟩, rfl⟩⟩
theorem len_inr {n : Nat} {qs : List (Int × Int)} (nd : qs.Nodup) (h : ∀ q ∈ qs, InR n q) (hn : n ≤ 8) : qs.length ≤ 64 := by
  have h1 := len_of_sub qs (grid n) nd fun q hq => in_grid (h q hq)
  have h2 := grid_len n
  have : n * n ≤ 8 * 8 := Nat.mul_le_mul hn hn
  omega
theorem GO.nodup {n : Nat} {ps : List (Int × Int)} (g : GO n ps) : ps.Nodup := g.srt.imp fun {a b} h e => by
  subst e
  rcases h with h | ⟨_, h⟩ <;> omega
theorem GO.len {n : Nat} {ps : List (Int × Int)} (g : GO n ps) (hn : n ≤ 8) : ps.length ≤ 64 := len_inr g.nodup g.inr hn
/-! the dict -/
def Keys (kvs : List (D × D)) (qs : List (Int × Int)) : Prop := kvs.map (·.1) = qs.map ip
theorem keys_get {p : Int × Int} : ∀ {kvs : List (D × D)} {qs : List (Int × Int)}, Keys kvs qs → (kvs.any fun e => PyData.eqv e.1 (ip p)) = decide (p ∈ qs)
  | [], [], _ => rfl
  | e :: kvs, q :: qs, h => by
    have h := h
    unfold Keys at h
    simp only [List.map_cons, List.cons.injEq] at h
    rw [List.any_cons, keys_get (kvs := kvs) (qs := qs) h.2, h.1, eqv_ip]
    by_cases hq : q = p
    · simp [hq]
    · have : p ≠ q := fun z => hq z.symm
      simp [hq, this]
  | [], _ :: _, h => by unfold Keys at h; simp at h
  | _ :: _, [], h => by unfold Keys at h; simp at h
theorem keys_put {p : Int × Int} {x : D} {kvs : List (D × D)} {qs : List (Int × Int)} (h : Keys kvs qs) : Keys (dput kvs (ip p) x) (if p ∈ qs then qs else qs ++ [p]) := by
  unfold dput
  rw [keys_get h]
  by_cases hp : p ∈ qs
  · rw [if_pos (by simpa using hp), if_pos hp]
    unfold Keys at *
    rw [List.map_map, ← h]
    apply List.map_congr_left
    intro e _
    simp only [Function.comp]
    split <;> rfl
  · rw [if_neg (by simpa using hp), if_neg hp]
    unfold Keys at *
    rw [List.map_append, h, List.map_append]; rfl
theorem isKey_ip (p : Int × Int) : isKey (ip p) = true := rfl
theorem kindOk_ip {p : Int × Int} : ∀ {kvs : List (D × D)} {qs : List (Int × Int)}, Keys kvs qs → kindOk kvs (ip p) = true
  | [], _, _ => rfl
  | e :: kvs, q :: qs, h => by
    unfold Keys at h
    simp only [List.map_cons, List.cons.injEq] at h
    unfold kindOk
    rw [List.all_cons, Bool.and_eq_true]
    refine ⟨by rw [h.1]; rfl, kindOk_ip (qs := qs) h.2⟩
  | _ :: _, [], h => by unfold Keys at h; simp at h
theorem dget_any (k : D) (kvs : List (D × D)) : (dget kvs k).isSome = kvs.any fun e => PyData.eqv e.1 k := by
  unfold dget
  rw [Option.isSome_map]
  induction kvs with
  | nil => rfl
  | cons e kvs ih =>
    rw [List.find?_cons, List.any_cons]
    cases PyData.eqv e.1 k <;> simp [ih]
theorem inn_dict {a b : Int} {kvs : List (D × D)} {qs : List (Int × Int)} (h : Keys kvs qs) : copD .inn (.tuple [.int a, .int b]) (.dict kvs) = some (.bool (decide ((a, b) ∈ qs))) := by
  show (if (isKey (ip (a, b)) && kindOk kvs (ip (a, b))) = true then some (PyData.bool (if false = true then !(dget kvs (ip (a, b))).isSome else (dget kvs (ip (a, b))).isSome)) else _) = _
  rw [isKey_ip, kindOk_ip h, dget_any, keys_get h]; rfl
theorem set_dict' {a b : Int} {x : D} {kvs : List (D × D)} {qs : List (Int × Int)} (h : Keys kvs qs) (hl : qs.length ≤ 64) : setD (.dict kvs) (.tuple [.int a, .int b]) x = some (.dict (dput kvs (ip (a, b)) x)) := by
  have e : kvs.length = qs.length := by have := congrArg List.length h; simpa using this
  have hz : kvs.length < sizeLine := small_lt (by omega)
  show (if (isKey (ip (a, b)) && kindOk kvs (ip (a, b)) && decide (kvs.length < sizeLine)) = true then _ else none) = _
  rw [isKey_ip, kindOk_ip h, decide_eq_true hz]; rfl
/-! sorted -/
theorem alike_ip (p q : Int × Int) : PySem.W.alike (ip p) (ip q) = true := by
  unfold ip; simp [PySem.W.alike, PySem.W.alikeAll]
theorem sortOk_ip (qs : List (Int × Int)) : sortOk (qs.map ip) = true := by
  unfold sortOk allAlike
  simp only [Bool.and_eq_true, Bool.or_eq_true, List.all_eq_true, List.mem_map, decide_eq_true_eq]
  refine ⟨⟨?_, .inl ?_⟩, ?_⟩
  · rintro _ ⟨p, _, rfl⟩ _ ⟨q, _, rfl⟩; exact alike_ip p q
  · rintro _ ⟨p, _, rfl⟩; rfl
  · rintro _ ⟨p, _, rfl⟩; rw [depth_ip]; omega
theorem toks_ip (p : Int × Int) : PySem.W.keyToks (ip p) = [.inl 1, .inl p.1, .inl 1, .inl p.2, .inl 0] := by
  unfold ip; simp [PySem.W.keyToks, PySem.W.keyToksAll]
theorem lt_ip (p q : Int × Int) : PySem.W.dataLt (ip p) (ip q) = decide (ltP p q) := by
  unfold PySem.W.dataLt
  rw [toks_ip, toks_ip]
  rw [PyProof.Rows.lex_cons, PyProof.Rows.lex_cons, PyProof.Rows.lex_cons, PyProof.Rows.lex_cons, PyProof.Rows.lex_cons]
  show (decide ((1 : Int) < 1) || (!decide ((1 : Int) < 1) && (decide (p.1 < q.1) || (!decide (q.1 < p.1) && (decide ((1 : Int) < 1) || (!decide ((1 : Int) < 1) && (decide (p.2 < q.2) || (!decide (q.2 < p.2) && (decide ((0 : Int) < 0) || (!decide ((0 : Int) < 0) && false)))))))))) = _
  rw [Bool.eq_iff_iff]
  simp only [Bool.or_eq_true, Bool.and_eq_true, Bool.not_eq_true', decide_eq_false_iff_not, decide_eq_true_iff, Bool.false_eq_true, and_false, or_false, Int.lt_irrefl, false_or, not_false_eq_true, true_and]
  unfold ltP
  omega
theorem le_ip (p q : Int × Int) : PySem.W.dataLe false id (ip p) (ip q) = leP p q := by
  have e : PySem.W.dataLe false id (ip p) (ip q) = !PySem.W.dataLt (ip q) (ip p) := rfl
  rw [e]
  have h := lt_ip q p
  rw [h, Bool.eq_iff_iff]
  unfold leP
  simp only [Bool.not_eq_true', decide_eq_false_iff_not, decide_eq_true_iff]
  unfold ltP
  omega
theorem sortD_ip (qs : List (Int × Int)) : sortD (qs.map ip) = (qs.mergeSort leP).map ip := by
  unfold sortD
  rw [List.map_mergeSort (r := leP) (s := PySem.W.dataLe false id) fun a _ b _ => (le_ip a b).symm]
theorem sorted_go {n : Nat} {qs : List (Int × Int)} (nd : qs.Nodup) (h : ∀ q ∈ qs, InR n q) : GO n (qs.mergeSort leP) := by
  have perm := List.mergeSort_perm qs leP
  refine ⟨fun p hp => h p (perm.mem_iff.mp hp), ?_⟩
  have s := List.pairwise_mergeSort (le := leP) (fun a b c h1 h2 => by unfold leP at *; simp at *; omega) (fun a b => by unfold leP; simp; omega) qs
  have nd2 : (qs.mergeSort leP).Nodup := perm.nodup_iff.mpr nd
  have both := List.pairwise_and_iff.mpr ⟨s, nd2⟩
  refine both.imp fun {a b} h => ?_
  obtain ⟨h1, h2⟩ := h
  unfold leP at h1
  unfold ltP
  simp at h1
  rcases h1 with h1 | ⟨h1, h3⟩
  · exact .inl h1
  · refine .inr ⟨h1, ?_⟩
    have : a.2 ≠ b.2 := fun z => h2 (Prod.ext h1 z)
    omega

structure Dk (n : Nat) (kvs : List (D × D)) (qs : List (Int × Int)) : Prop where
  keys : Keys kvs qs
  nd : qs.Nodup
  inr : ∀ q ∈ qs, InR n q
theorem Dk.put {n : Nat} {kvs : List (D × D)} {qs : List (Int × Int)} (h : Dk n kvs qs) {p : Int × Int} {x : D} (hp : InR n p) : ∃ rs, Dk n (dput kvs (ip p) x) rs := by
  refine ⟨if p ∈ qs then qs else qs ++ [p], keys_put h.keys, ?_, ?_⟩
  · split
    · exact h.nd
    · rename_i hn
      exact List.nodup_append.mpr ⟨h.nd, by simp, fun a ha b hb => by
        have : b = p := by simpa using hb
        subst this
        exact fun e => hn (e ▸ ha)⟩
  · intro q hq
    split at hq
    · exact h.inr q hq
    · rcases List.mem_append.mp hq with hq | hq
      · exact h.inr q hq
      · have : q = p := by simpa using hq
        rw [this]; exact hp
theorem Dk.puts {n : Nat} : ∀ {ps : List (Int × Int)} {kvs : List (D × D)} {qs : List (Int × Int)}, Dk n kvs qs → (∀ p ∈ ps, InR n p) → ∃ rs, Dk n (dputs kvs (ps.map fun p => (ip p, .int 0))) rs
  | [], _, qs, h, _ => ⟨qs, h⟩
  | p :: ps, _, _, h, hp => by
    obtain ⟨rs, h1⟩ := h.put (x := .int 0) (hp p (List.mem_cons_self ..))
    exact Dk.puts (ps := ps) h1 fun q hq => hp q (List.mem_cons_of_mem _ hq)
theorem pairsD_ip : ∀ ps : List (Int × Int), pairsD (ps.map fun p => .tuple [ip p, .int 0]) = some (ps.map fun p => (ip p, .int 0))
  | [] => rfl
  | p :: ps => by
    rw [List.map_cons]
    show (pairsD _).map _ = _
    rw [pairsD_ip ps]; rfl
theorem p_dict (ps : List (Int × Int)) : primD .dictOf [.list (ps.map fun p => .tuple [ip p, .int 0])] = some (.dict (dputs [] (ps.map fun p => (ip p, .int 0)))) := by
  show ((pairsD _).bind fun qs => if (qs.all (fun p => isKey1 p.1) || qs.all (fun p => isTk p.1)) = true then some (PyData.dict (dputs [] qs)) else none) = _
  rw [pairsD_ip, Option.bind_some]
  have : (ps.map fun p => (ip p, PyData.int 0)).all (fun p => isTk p.1) = true := by
    rw [List.all_eq_true]
    intro x hx
    obtain ⟨p, _, rfl⟩ := List.mem_map.mp hx
    rfl
  rw [this, Bool.or_true, if_pos rfl]
theorem nmK_ks {kvs : List (D × D)} {qs : List (Int × Int)} (h : Keys kvs qs) : nmK kvs = true := by
  unfold Keys at h
  cases kvs with
  | nil => rfl
  | cons p r =>
    cases qs with
    | nil => cases h
    | cons q qs =>
      obtain ⟨a, b⟩ := p
      have : a = ip q := (List.cons.inj h).1
      subst this
      rfl
theorem p_sorted {kvs : List (D × D)} {qs : List (Int × Int)} (h : Keys kvs qs) : primD .sorted [.dict kvs] = some (.list ((qs.mergeSort leP).map ip)) := by
  show (if (nmK kvs && sortOk (kvs.map (·.1))) = true then some (PyData.list (sortD (kvs.map (·.1)))) else none) = _
  rw [nmK_ks h, Bool.true_and]
  unfold Keys at h
  rw [h, if_pos (sortOk_ip qs), sortD_ip]

theorem perm_of_map {α β : Type} {f : α → β} {es ms : List β} (h : es.Perm ms) : ∀ {l : List α}, ms = l.map f → ∃ l' : List α, es = l'.map f ∧ l'.Perm l := by
  induction h with
  | nil => intro l e; exact ⟨l, e, .refl _⟩
  | cons x p ih =>
    intro l e
    cases l with
    | nil => cases e
    | cons a l =>
      simp only [List.map_cons, List.cons.injEq] at e
      obtain ⟨l', e', p'⟩ := ih e.2
      exact ⟨a :: l', by rw [List.map_cons, e', e.1], .cons a p'⟩
  | swap x y l0 =>
    intro l e
    cases l with
    | nil => cases e
    | cons a l => cases l with
      | nil => simp at e
      | cons b l =>
        simp only [List.map_cons, List.cons.injEq] at e
        exact ⟨b :: a :: l, by simp only [List.map_cons]; rw [← e.1, ← e.2.1, ← e.2.2], .swap _ _ _⟩
  | trans p1 p2 ih1 ih2 =>
    intro l e
    obtain ⟨l', e', p'⟩ := ih2 e
    obtain ⟨l2, e2, p3⟩ := ih1 e'
    exact ⟨l2, e2, p3.trans p'⟩
theorem lcW_sub {α : Type} {f : α → D} {g : α → D} {xs : List α} {st : D → W (Option D)} {Q : List D → Prop} (h : ∀ a ∈ xs, ∀ K : Option D → Prop, K none → K (some (g a)) → st (f a) K) (q : ∀ ys : List α, (∀ y ∈ ys, y ∈ xs) → ys.length ≤ xs.length → Q (ys.map g)) : lcW (xs.map f) st Q := by
  induction xs generalizing Q with
  | nil => exact q [] (by simp) (Nat.le_refl _)
  | cons a xs ih =>
    rw [List.map_cons]
    unfold lcW
    refine h a (List.mem_cons_self ..) _ ?_ ?_
    · refine ih (fun b hb => h b (List.mem_cons_of_mem _ hb)) fun ys h1 h2 => ?_
      exact q ys (fun y hy => List.mem_cons_of_mem _ (h1 y hy)) (by simp only [List.length_cons]; omega)
    · refine ih (fun b hb => h b (List.mem_cons_of_mem _ hb)) fun ys h1 h2 => ?_
      exact q (a :: ys) (fun y hy => (List.mem_cons.mp hy).elim (fun e => e ▸ List.mem_cons_self ..) fun hy => List.mem_cons_of_mem _ (h1 y hy)) (by simp only [List.length_cons]; omega)
theorem mul_small {a b : Int} (h : -(2 ^ 64) < a ∧ a < 2 ^ 64) : binD .mul (.int a) (.int b) = some (.int (a * b)) := by
  show (if CMul a b then _ else _) = _
  rw [if_pos (.inl h)]
theorem slc_l (xs : List D) (lo hi : Option Int) : slcD (.list xs) lo hi = some (.list (cutL xs lo hi)) := rfl
theorem cutL_map {α : Type} (f : α → D) (xs : List α) (lo hi : Option Int) : cutL (xs.map f) lo hi = (cutL xs lo hi).map f := by
  unfold cutL; rw [List.length_map, List.map_take, List.map_drop]
theorem cutL_mem {α : Type} {xs : List α} {lo hi : Option Int} {a : α} (h : a ∈ cutL xs lo hi) : a ∈ xs := List.mem_of_mem_drop (List.mem_of_mem_take h)
theorem cutL_len {α : Type} (xs : List α) (lo hi : Option Int) : (cutL xs lo hi).length ≤ xs.length := by
  unfold cutL; rw [List.length_take, List.length_drop]; omega
theorem cut2 {α : Type} (a b : α) (r : List α) : cutL (a :: b :: r) none (some 2) = [a, b] := by
  unfold cutL
  have e1 : HT.sIx (a :: b :: r).length 0 none = 0 := by first | rfl | simp [HT.sIx]
  have e2 : HT.sIx (a :: b :: r).length (a :: b :: r).length (some 2) = 2 := by
    have := HT.sIx_nat (a :: b :: r).length (a :: b :: r).length 2
    rw [show ((2 : Nat) : Int) = 2 from rfl] at this
    rw [this]; simp
  rw [e1, e2]; simp
theorem idx_li {xs : List Int} {a : Int} (h0 : 0 ≤ a) (h : a < xs.length) : ∃ x ∈ xs, idxD (.list (xs.map .int)) (.int a) = some (.int x) := by
  obtain ⟨i, rfl⟩ := Int.eq_ofNat_of_zero_le h0
  have hi : i < xs.length := by omega
  refine ⟨xs[i], List.getElem_mem hi, ?_⟩
  show atI _ _ = _
  refine atI_nat ?_
  rw [List.getElem?_map, List.getElem?_eq_getElem hi]; rfl
theorem add_tup (a b : List D) : binD .add (.tuple a) (.tuple b) = if a.length + b.length ≤ sizeLine then some (.tuple (a ++ b)) else none := rfl

theorem sorted_ext : ∀ {xs ys : List Int}, xs.Pairwise (· < ·) → ys.Pairwise (· < ·) → (∀ a, a ∈ xs ↔ a ∈ ys) → xs = ys
  | [], [], _, _, _ => rfl
  | [], y :: ys, _, _, h => by have := (h y).mpr (List.mem_cons_self ..); simp at this
  | x :: xs, [], _, _, h => by have := (h x).mp (List.mem_cons_self ..); simp at this
  | x :: xs, y :: ys, hx, hy, h => by
    have hx := List.pairwise_cons.mp hx
    have hy := List.pairwise_cons.mp hy
    have e : x = y := by
      have h1 := (h x).mp (List.mem_cons_self ..)
      have h2 := (h y).mpr (List.mem_cons_self ..)
      rcases List.mem_cons.mp h1 with h1 | h1
      · exact h1
      · rcases List.mem_cons.mp h2 with h2 | h2
        · exact h2.symm
        · have a1 := hy.1 x h1
          have a2 := hx.1 y h2
          omega
    subst e
    rw [sorted_ext hx.2 hy.2 fun a => ?_]
    constructor
    · intro ha
      have := (h a).mp (List.mem_cons_of_mem _ ha)
      rcases List.mem_cons.mp this with e | e
      · have := hx.1 a ha; omega
      · exact e
    · intro ha
      have := (h a).mpr (List.mem_cons_of_mem _ ha)
      rcases List.mem_cons.mp this with e | e
      · have := hy.1 a ha; omega
      · exact e
theorem rg_srt (n : Nat) : (rg n).Pairwise (· < ·) := by
  unfold rg
  rw [List.pairwise_map]
  exact List.pairwise_lt_range.imp fun {a b} h => by show (a : Int) < (b : Int); omega

theorem lcW_all {α : Type} {f : α → D} {g : α → D} {xs : List α} {st : D → W (Option D)} {Q : List D → Prop} (h : ∀ a ∈ xs, ∀ K : Option D → Prop, K (some (g a)) → st (f a) K) (q : Q (xs.map g)) : lcW (xs.map f) st Q := by
  refine lcW_filter (f := f) (g := g) (p := fun _ => true) (fun a ha K hK => h a ha K (by simpa using hK)) ?_
  rw [show xs.filter (fun _ => true) = xs from List.filter_eq_self.mpr (fun _ _ => rfl)]
  exact q
theorem PlA.all' {k a : Nat} : ∀ {m : Nat} {xs : List D}, (∀ x ∈ xs, Pl k a x) → (a + 1) * xs.length ≤ m → PlA k m xs
  | m, [], _, _ => .nil
  | m, x :: xs, h, hm => by
    rw [List.length_cons, Nat.mul_succ] at hm
    have := PlA.cons (h x (List.mem_cons_self ..)) (PlA.all' (m := m - (a + 1)) (xs := xs) (fun y hy => h y (List.mem_cons_of_mem _ hy)) (by omega))
    rw [show a + 1 + (m - (a + 1)) = m by omega] at this
    exact this
theorem pl_int {k m : Nat} {i : Int} (h0 : 0 ≤ i) (h : i < 100) : Pl k m (.int i) := .int (Nat.lt_of_lt_of_le (show i.natAbs < 100 by omega) (by decide))
theorem pl_ip {n : Nat} {p : Int × Int} (hn : n ≤ 8) (h : InR n p) : Pl 1 2 (ip p) := by
  obtain ⟨h1, h2, h3, h4⟩ := h
  exact .tup (.cons (a := 0) (b := 1) (pl_int h1 (by omega)) (.cons (a := 0) (b := 0) (pl_int h3 (by omega)) .nil))

end
set_option maxHeartbeats 4000000
/-! PEa: typed data (en) and how compact text over it is computed by simp. -/
section
open PySem L2
class Enc (α : Type) where
  en0 : α → D
def en {α : Type} [Enc α] (a : α) : D := Enc.en0 a
/-- a tuple of any length -/
structure Tu (α : Type) where
  l : List α
  deriving DecidableEq, Inhabited
instance : Enc Int := ⟨PyData.int⟩
instance : Enc Bool := ⟨PyData.bool⟩
instance : Enc Unit := ⟨fun _ => .none⟩
instance {α : Type} [Enc α] : Enc (List α) := ⟨fun xs => .list (xs.map en)⟩
instance {α : Type} [Enc α] : Enc (Tu α) := ⟨fun xs => .tuple (xs.l.map en)⟩
instance {α β : Type} [Enc α] [Enc β] : Enc (α × β) := ⟨fun p => .tuple [en p.1, en p.2]⟩
instance {α : Type} [Enc α] : Enc (Option α) := ⟨fun | none => .none | some a => en a⟩
section
variable {α β γ : Type} [Enc α] [Enc β]
theorem i_en (i : Int) : PyData.int i = en i := rfl
theorem b_en (b : Bool) : PyData.bool b = en b := rfl
theorem n_en : PyData.none = en () := rfl
theorem l_en (xs : List α) : PyData.list (xs.map en) = en xs := rfl
theorem t_en (xs : List α) : PyData.tuple (xs.map en) = en (Tu.mk xs) := rfl
theorem tl_en (xs : Tu α) : PyData.tuple (xs.l.map en) = en xs := rfl
theorem p_en (a : α) (b : β) : PyData.tuple [en a, en b] = en (a, b) := rfl
theorem some_en (a : α) : en (some a) = en a := rfl
theorem none_en : en (none : Option α) = en () := rfl
/-- literals of one sort -/
theorem l1_en (a : α) : PyData.list [en a] = en [a] := rfl
theorem l2_en (a b : α) : PyData.list [en a, en b] = en [a, b] := rfl
theorem l3_en (a b c : α) : PyData.list [en a, en b, en c] = en [a, b, c] := rfl
theorem l4_en (a b c d : α) : PyData.list [en a, en b, en c, en d] = en [a, b, c, d] := rfl
theorem t1_en (a : α) : PyData.tuple [en a] = en (Tu.mk [a]) := rfl
theorem snoc_en (xs : List α) (a : α) : PyData.list (xs.map en ++ [en a]) = en (xs ++ [a]) := by
  rw [show xs.map en ++ [en a] = (xs ++ [a]).map en by simp]; rfl
theorem app_en (xs ys : List α) : PyData.list (xs.map en ++ ys.map en) = en (xs ++ ys) := by
  rw [← List.map_append]; rfl
theorem isL_l (xs : List α) : isL (en xs) = true := rfl
end
/-- data of one sort, told apart as Python does -/
class LEnc (α : Type) [Enc α] [DecidableEq α] where
  eqv : ∀ a b : α, PyData.eqv (en a) (en b) = decide (a = b)
  lay : ∀ a : α, PyData.canLay0 (en a) = true
  dp : Nat
  dep : ∀ a : α, PyData.depth (en a) ≤ dp
/-- is it one of them? -/
def mb {α : Type} [DecidableEq α] (a : α) (xs : List α) : Bool := decide (a ∈ xs)
theorem mb_eq {α : Type} [DecidableEq α] (a : α) (xs : List α) [Decidable (a ∈ xs)] : mb a xs = decide (a ∈ xs) := by
  unfold mb; congr
theorem mb_iff {α : Type} [DecidableEq α] {a : α} {xs : List α} : mb a xs = true ↔ a ∈ xs := by unfold mb; simp
theorem mb_not {α : Type} [DecidableEq α] {a : α} {xs : List α} : mb a xs = false ↔ a ∉ xs := by unfold mb; simp
theorem eqvAll_en {α : Type} [Enc α] [DecidableEq α] [LEnc α] : ∀ xs ys : List α, PyData.eqvAll (xs.map en) (ys.map en) = decide (xs = ys)
  | [], [] => by simp [PyData.eqvAll]
  | [], _ :: _ => by simp [PyData.eqvAll]
  | _ :: _, [] => by simp [PyData.eqvAll]
  | x :: xs, y :: ys => by
    simp only [List.map_cons, PyData.eqvAll, LEnc.eqv, eqvAll_en xs ys, List.cons.injEq]
    by_cases h : x = y <;> simp [h]
theorem layAll_en {α : Type} [Enc α] [DecidableEq α] [LEnc α] (xs : List α) : PyData.canLayAll0 (xs.map en) = true := canLayAll_of fun d hd => by
  obtain ⟨a, _, rfl⟩ := List.mem_map.mp hd
  exact LEnc.lay a
theorem depAll_en {α : Type} [Enc α] [DecidableEq α] [LEnc α] (xs : List α) : PyData.depthAll (xs.map en) ≤ LEnc.dp α := depthAll_of fun d hd => by
  obtain ⟨a, _, rfl⟩ := List.mem_map.mp hd
  exact LEnc.dep a
instance : LEnc Int where
  eqv := eqv_int
  lay := canLay_int
  dp := 0
  dep := fun a => by rw [show en a = PyData.int a from rfl, depth_int]; exact Nat.le_refl _
instance : LEnc Bool where
  eqv := fun a b => by
    show PyData.eqv (.bool a) (.bool b) = _
    cases a <;> cases b <;> simp [PyData.eqv]
  lay := fun a => by show PyData.canLay0 (.bool a) = true; simp only [PyData.canLay0]
  dp := 0
  dep := fun a => by show PyData.depth (.bool a) ≤ 0; simp [PyData.depth]
instance : LEnc Unit where
  eqv := fun a b => by show PyData.eqv .none .none = _; simp [PyData.eqv]
  lay := fun a => by show PyData.canLay0 .none = true; simp only [PyData.canLay0]
  dp := 0
  dep := fun a => by show PyData.depth .none ≤ 0; simp [PyData.depth]
instance {α : Type} [Enc α] [DecidableEq α] [LEnc α] : LEnc (List α) where
  eqv := fun xs ys => by
    show PyData.eqv (.list (xs.map en)) (.list (ys.map en)) = _
    simp only [PyData.eqv]; exact eqvAll_en xs ys
  lay := fun xs => by show PyData.canLay0 (.list (xs.map en)) = true; simp only [PyData.canLay0]; exact layAll_en xs
  dp := LEnc.dp α + 1
  dep := fun xs => by
    show PyData.depth (.list (xs.map en)) ≤ _
    have := depAll_en xs
    simp only [PyData.depth]; omega
instance {α : Type} [Enc α] [DecidableEq α] [LEnc α] : LEnc (Tu α) where
  eqv := fun xs ys => by
    show PyData.eqv (.tuple (xs.l.map en)) (.tuple (ys.l.map en)) = _
    simp only [PyData.eqv]; rw [eqvAll_en xs.l ys.l]
    cases xs; cases ys; simp
  lay := fun xs => by show PyData.canLay0 (.tuple (xs.l.map en)) = true; simp only [PyData.canLay0]; exact layAll_en xs.l
  dp := LEnc.dp α + 1
  dep := fun xs => by
    show PyData.depth (.tuple (xs.l.map en)) ≤ _
    have := depAll_en xs.l
    simp only [PyData.depth]; omega
instance {α β : Type} [Enc α] [DecidableEq α] [LEnc α] [Enc β] [DecidableEq β] [LEnc β] : LEnc (α × β) where
  eqv := fun p q => by
    show PyData.eqv (.tuple [en p.1, en p.2]) (.tuple [en q.1, en q.2]) = _
    simp only [PyData.eqv, PyData.eqvAll, LEnc.eqv, Bool.and_true]
    by_cases h1 : p.1 = q.1 <;> by_cases h2 : p.2 = q.2 <;> simp [h1, h2, Prod.ext_iff]
  lay := fun p => by
    show PyData.canLay0 (.tuple [en p.1, en p.2]) = true
    simp only [PyData.canLay0, PyData.canLayAll0, LEnc.lay]; rfl
  dp := max (LEnc.dp α) (LEnc.dp β) + 1
  dep := fun p => by
    show PyData.depth (.tuple [en p.1, en p.2]) ≤ _
    have h1 := LEnc.dep p.1
    have h2 := LEnc.dep p.2
    simp only [PyData.depth, PyData.depthAll]; omega
theorem dp_int : LEnc.dp Int = 0 := rfl
theorem dp_bool : LEnc.dp Bool = 0 := rfl
theorem dp_unit : LEnc.dp Unit = 0 := rfl
section
variable {α β : Type} [Enc α] [DecidableEq α] [LEnc α] [Enc β] [DecidableEq β] [LEnc β]
theorem dp_list : LEnc.dp (List α) = LEnc.dp α + 1 := rfl
theorem dp_tu : LEnc.dp (Tu α) = LEnc.dp α + 1 := rfl
theorem dp_pair : LEnc.dp (α × β) = max (LEnc.dp α) (LEnc.dp β) + 1 := rfl
theorem eqOk_en (h : LEnc.dp α ≤ 60) (a b : α) : eqOk (en a) (en b) = true := by
  unfold eqOk
  rw [LEnc.lay, LEnc.lay]
  have := LEnc.dep a
  rw [Bool.or_eq_true]; left
  simp; omega
theorem c_eq (h : LEnc.dp α ≤ 60) (a b : α) : copD .eq (en a) (en b) = some (en (decide (a = b))) := by
  rw [copD_eq, if_pos (eqOk_en h a b), LEnc.eqv]; rfl
theorem c_ne (h : LEnc.dp α ≤ 60) (a b : α) : copD .ne (en a) (en b) = some (en (!decide (a = b))) := by
  rw [copD_ne, if_pos (eqOk_en h a b), LEnc.eqv]; rfl
theorem in_en (h : LEnc.dp α ≤ 60) (neg : Bool) (a : α) (xs : List α) : inD neg (en a) (.tuple (xs.map en)) = some (.bool (if neg then !decide (a ∈ xs) else decide (a ∈ xs))) ∧ inD neg (en a) (.list (xs.map en)) = some (.bool (if neg then !decide (a ∈ xs) else decide (a ∈ xs))) :=
  in_of (f := en) LEnc.eqv LEnc.lay (fun a => Nat.le_trans (LEnc.dep a) h) neg a xs
theorem c_inL (h : LEnc.dp α ≤ 60) (a : α) (xs : List α) : copD .inn (en a) (en xs) = some (en (mb a xs)) := (in_en h false a xs).2
theorem c_inT (h : LEnc.dp α ≤ 60) (a : α) (xs : Tu α) : copD .inn (en a) (en xs) = some (en (mb a xs.l)) := (in_en h false a xs.l).1
theorem c_ninL (h : LEnc.dp α ≤ 60) (a : α) (xs : List α) : copD .nin (en a) (en xs) = some (en (!mb a xs)) := (in_en h true a xs).2
theorem c_ninT (h : LEnc.dp α ≤ 60) (a : α) (xs : Tu α) : copD .nin (en a) (en xs) = some (en (!mb a xs.l)) := (in_en h true a xs.l).1
end
section
variable {α : Type} [Enc α]
theorem c_eqE (xs : List α) : copD .eq (en xs) (.list []) = some (en xs.isEmpty) := by
  have := (eq_unit0 (xs.map en) false).2
  rw [List.isEmpty_map] at this; exact this
theorem c_neE (xs : List α) : copD .ne (en xs) (.list []) = some (en (!xs.isEmpty)) := by
  have := (eq_unit0 (xs.map en) true).2
  rw [List.isEmpty_map] at this; exact this
theorem c_eqU (xs : Tu α) : copD .eq (en xs) (.tuple []) = some (en xs.l.isEmpty) := by
  have := (eq_unit0 (xs.l.map en) false).1
  rw [List.isEmpty_map] at this; exact this
theorem c_neU (xs : Tu α) : copD .ne (en xs) (.tuple []) = some (en (!xs.l.isEmpty)) := by
  have := (eq_unit0 (xs.l.map en) true).1
  rw [List.isEmpty_map] at this; exact this
end
/-! ### readings as values of W -/
def rt {α : Type} (x : α) : W α := fun Q => Q x
def bd {α β : Type} (A : W α) (f : α → W β) : W β := fun Q => A fun x => f x Q
def gd {α : Type} (c : Prop) (A : W α) : W α := fun Q => c ∧ A Q
section
variable {α β γ : Type} {p q : Bool} {c d : Prop}
theorem rt_ap (x : α) (Q : α → Prop) : rt x Q = Q x := rfl
theorem bd_ap (A : W α) (f : α → W β) (Q : β → Prop) : bd A f Q = A fun x => f x Q := rfl
theorem gd_ap (c : Prop) (A : W α) (Q : α → Prop) : gd c A Q = (c ∧ A Q) := rfl
theorem ite_ap (A B : W α) (Q : α → Prop) : (if p = true then A else B) Q = if p = true then A Q else B Q := by cases p <;> rfl
theorem bd_rt (x : α) (f : α → W β) : bd (rt x) f = f x := rfl
theorem rt_bd (A : W α) : bd A rt = A := rfl
theorem bd_bd (A : W α) (f : α → W β) (g : β → W γ) : bd (bd A f) g = bd A fun x => bd (f x) g := rfl
theorem bd_gd (A : W α) (f : α → W β) : bd (gd c A) f = gd c (bd A f) := rfl
theorem gd_gd (A : W α) : gd c (gd d A) = gd (c ∧ d) A := by funext Q; exact propext ⟨fun h => ⟨⟨h.1, h.2.1⟩, h.2.2⟩, fun h => ⟨h.1.1, h.1.2, h.2⟩⟩
theorem gd_true (A : W α) : gd True A = A := by funext Q; exact propext ⟨fun h => h.2, fun h => ⟨trivial, h⟩⟩
theorem bd_ite (A B : W α) (f : α → W β) : bd (if p = true then A else B) f = if p = true then bd A f else bd B f := by cases p <;> rfl
theorem ite_rt (x y : α) : (if p = true then rt x else rt y) = rt (if p = true then x else y) := by cases p <;> rfl
theorem ite_gd1 (A B : W α) : (if p = true then gd c A else B) = gd (p = true → c) (if p = true then A else B) := by
  funext Q; cases p <;> exact propext (by simp [gd])
theorem ite_gd2 (A B : W α) : (if p = true then A else gd c B) = gd (p = false → c) (if p = true then A else B) := by
  funext Q; cases p <;> exact propext (by simp [gd])
theorem lift_rt (x : α) : lift (some x) = rt x := by funext Q; exact lift_some
theorem lift_gd (c : Prop) [Decidable c] (x : α) : lift (if c then some x else none) = gd c (rt x) := by
  funext Q; by_cases h : c <;> simp [h, lift, gd, rt]
theorem b_and (p q : Bool) : (if p = true then q else false) = (p && q) := by cases p <;> rfl
theorem b_and2 (p q : Bool) : (if p = true then q else p) = (p && q) := by cases p <;> rfl
theorem b_or (p q : Bool) : (if p = true then true else q) = (p || q) := by cases p <;> rfl
theorem b_or2 (p q : Bool) : (if p = true then p else q) = (p || q) := by cases p <;> rfl
theorem ite_en {α : Type} [Enc α] (x y : α) : (if p = true then en x else en y) = en (if p = true then x else y) := by cases p <;> rfl
end
theorem c_lt (a b : Int) : copD .lt (en a) (en b) = some (en (decide (a < b))) := lt_int a b
theorem c_gt (a b : Int) : copD .gt (en a) (en b) = some (en (decide (b < a))) := gt_int a b
theorem c_le (a b : Int) : copD .le (en a) (en b) = some (en (decide (a ≤ b))) := by
  show (if ltOk (.int a) (.int b) then some (PyData.bool (!PySem.W.dataLt (.int b) (.int a))) else none) = _
  rw [if_pos (ltOk_int a b), dataLt_int, b_en]
  congr 2
  by_cases h : b < a
  · simp [h]
  · simp [h, Int.not_lt.mp h]
theorem c_ge (a b : Int) : copD .ge (en a) (en b) = some (en (decide (b ≤ a))) := by
  show (if ltOk (.int a) (.int b) then some (PyData.bool (!PySem.W.dataLt (.int a) (.int b))) else none) = _
  rw [if_pos (ltOk_int a b), dataLt_int, b_en]
  congr 2
  by_cases h : a < b
  · simp [h]
  · simp [h, Int.not_lt.mp h]
theorem boolsD_en : ∀ bs : List Bool, boolsD (bs.map .bool) = some bs
  | [] => rfl
  | b :: bs => by
    show (boolsD (bs.map .bool)).map (b :: ·) = _
    rw [boolsD_en bs]; rfl
theorem intsD_en : ∀ bs : List Int, intsD (bs.map .int) = some bs
  | [] => rfl
  | b :: bs => by
    show (intsD (bs.map .int)).map (b :: ·) = _
    rw [intsD_en bs]; rfl
section
variable {α β : Type} [Enc α] [Enc β]
/-! truth -/
theorem tr_b (b : Bool) : truD (en b) = some b := rfl
theorem tr_i (i : Int) : truD (en i) = some (i != 0) := rfl
theorem tr_l (xs : List α) : truD (en xs) = some (!xs.isEmpty) := by show some (!(xs.map en).isEmpty) = _; rw [List.isEmpty_map]
theorem tr_t (xs : Tu α) : truD (en xs) = some (!xs.l.isEmpty) := by show some (!(xs.l.map en).isEmpty) = _; rw [List.isEmpty_map]
/-! numbers -/
theorem o_add (a b : Int) : binD .add (en a) (en b) = some (en (a + b)) := rfl
theorem o_sub (a b : Int) : binD .sub (en a) (en b) = some (en (a - b)) := rfl
theorem o_mul (a b : Int) : lift (binD .mul (en a) (en b)) = gd (CMul a b) (rt (en (a * b))) := lift_gd _ _
theorem o_div (a b : Int) : lift (binD .fdiv (en a) (en b)) = gd (CDivN a b) (rt (en (a.fdiv b))) := lift_gd _ _
theorem o_mod (a b : Int) : lift (binD .mod (en a) (en b)) = gd (b ≠ 0) (rt (en (a.fmod b))) := lift_gd _ _
theorem o_shl (a b : Int) : lift (binD .shl (en a) (en b)) = gd (CPow a b) (rt (en (a * 2 ^ b.toNat))) := lift_gd _ _
theorem o_shr (a b : Int) : lift (binD .shr (en a) (en b)) = gd (0 ≤ b) (rt (en (a / 2 ^ b.toNat))) := lift_gd _ _
theorem o_band (a b : Int) : binD .band (en a) (en b) = some (en (Builtin.bitAnd a b)) := by
  show (if True then some (PyData.int (Builtin.bitAnd a b)) else none) = _
  rw [if_pos trivial]; rfl
theorem o_neg (a : Int) : negD (en a) = some (en (-a)) := rfl
/-! lists -/
theorem o_addL (xs ys : List α) : lift (binD .add (en xs) (en ys)) = gd (xs.length + ys.length ≤ sizeLine) (rt (en (xs ++ ys))) := by
  have : binD .add (en xs) (en ys) = if xs.length + ys.length ≤ sizeLine then some (en (xs ++ ys)) else none := by
    show (if (xs.map en).length + (ys.map en).length ≤ sizeLine then some (PyData.list (xs.map en ++ ys.map en)) else none) = _
    rw [List.length_map, List.length_map, ← List.map_append]; rfl
  rw [this, lift_gd]
theorem o_addT (xs ys : Tu α) : lift (binD .add (en xs) (en ys)) = gd (xs.l.length + ys.l.length ≤ sizeLine) (rt (en (Tu.mk (xs.l ++ ys.l)))) := by
  have : binD .add (en xs) (en ys) = if xs.l.length + ys.l.length ≤ sizeLine then some (en (Tu.mk (xs.l ++ ys.l))) else none := by
    show (if (xs.l.map en).length + (ys.l.map en).length ≤ sizeLine then some (PyData.tuple (xs.l.map en ++ ys.l.map en)) else none) = _
    rw [List.length_map, List.length_map, ← List.map_append]; rfl
  rw [this, lift_gd]
/-- [x] * m -/
theorem o_mulL (xs : List α) (m : Int) : lift (binD .mul (en xs) (en m)) = gd (-(2 ^ 63) ≤ m ∧ m < 2 ^ 63 ∧ xs.length * m.toNat ≤ sizeLine) (rt (en (List.replicate m.toNat xs).flatten)) := by
  have : binD .mul (en xs) (en m) = if -(2 ^ 63) ≤ m ∧ m < 2 ^ 63 ∧ xs.length * m.toNat ≤ sizeLine then some (en (List.replicate m.toNat xs).flatten) else none := by
    show (if -(2 ^ 63) ≤ m ∧ m < 2 ^ 63 ∧ (xs.map en).length * m.toNat ≤ sizeLine then some (PyData.list (List.replicate m.toNat (xs.map en)).flatten) else none) = _
    rw [List.length_map]
    congr 2
    show _ = PyData.list _
    rw [List.map_flatten, List.map_replicate]
  rw [this, lift_gd]
theorem i01 (b : Bool) : primD .int [en b] = some (en (if b = true then (1 : Int) else 0)) := rfl
theorem mulB1 (x : α) (b : Bool) : lift (binD .mul (en [x]) (en (if b = true then (1 : Int) else 0))) = rt (en (if b = true then [x] else [])) := by
  rw [o_mulL]
  have z : (1 : Nat) ≤ sizeLine := by decide
  funext Q
  cases b <;> simp [z, gd, rt]
/-- is the number one of a place? -/
def IxOk (n : Nat) (i : Int) : Prop := -(n : Int) ≤ i ∧ i < n
instance {n : Nat} {i : Int} : Decidable (IxOk n i) := by unfold IxOk; exact inferInstance
def pix {α : Type} [Inhabited α] (xs : List α) (i : Int) : α := xs.getD (if i < 0 then (i + xs.length).toNat else i.toNat) default
theorem atI_map [Inhabited α] (xs : List α) (i : Int) : atI (xs.map en) i = if IxOk xs.length i then some (en (pix xs i)) else none := by
  unfold atI ixN IxOk pix
  rw [List.length_map]
  by_cases h0 : 0 ≤ i
  · by_cases h1 : i < xs.length
    · have hj : i.toNat < xs.length := by omega
      simp [h0, h1, show ¬ i < 0 by omega, show -(xs.length : Int) ≤ i by omega, List.getD, List.getElem?_eq_getElem hj]
    · simp [h0, h1]
  · by_cases h1 : -(xs.length : Int) ≤ i
    · have hj : (i + xs.length).toNat < xs.length := by omega
      simp [h0, h1, show i < 0 by omega, show i < xs.length by omega, List.getD, List.getElem?_eq_getElem hj]
    · simp [h0, h1]
theorem x_list [Inhabited α] (xs : List α) (i : Int) : lift (idxD (en xs) (en i)) = gd (IxOk xs.length i) (rt (en (pix xs i))) := by
  rw [show idxD (en xs) (en i) = atI (xs.map en) i from rfl, atI_map, lift_gd]
theorem x_tup [Inhabited α] (xs : Tu α) (i : Int) : lift (idxD (en xs) (en i)) = gd (IxOk xs.l.length i) (rt (en (pix xs.l i))) := by
  rw [show idxD (en xs) (en i) = atI (xs.l.map en) i from rfl, atI_map, lift_gd]
theorem x_p0 (p : α × β) : idxD (en p) (en (0 : Int)) = some (en p.1) := idx0 _ _
theorem x_p1 (p : α × β) : idxD (en p) (en (1 : Int)) = some (en p.2) := idx1 _ _ _
theorem s_list (xs : List α) (lo hi : Option Int) : slcD (en xs) lo hi = some (en (cutL xs lo hi)) := by
  show some (PyData.list (cutL (xs.map en) lo hi)) = _
  rw [cutL_map]; rfl
theorem s_tup (xs : Tu α) (lo hi : Option Int) : slcD (en xs) lo hi = some (en (Tu.mk (cutL xs.l lo hi))) := by
  show some (PyData.tuple (cutL (xs.l.map en) lo hi)) = _
  rw [cutL_map]; rfl
theorem r0_tup (xs : Tu α) : rev0D (en xs) = some (en (Tu.mk (xs.l.drop 1).reverse)) := by
  show some (PyData.tuple ((xs.l.map en).drop 1).reverse) = some (PyData.tuple ((xs.l.drop 1).reverse.map en))
  rw [List.map_reverse, List.map_drop]
theorem r_tup (xs : Tu α) : revD (en xs) = some (en (Tu.mk xs.l.reverse)) := by
  show some (PyData.tuple (xs.l.map en).reverse) = some (PyData.tuple (xs.l.reverse.map en))
  rw [List.map_reverse]
theorem r_pair {β : Type} [Enc β] (p : α × β) : revD (en p) = some (en (p.2, p.1)) := rfl
theorem r_list (xs : List α) : revD (en xs) = some (en xs.reverse) := by
  show some (PyData.list (xs.map en).reverse) = _
  rw [← List.map_reverse]; rfl
theorem lt_list (xs : List α) : ltD (en xs) = some (xs.map en) := rfl
theorem lt_tup (xs : Tu α) : ltD (en xs) = some (xs.l.map en) := rfl
theorem ls_list (xs : List α) : lstD (en xs) = some (xs.map en) := rfl
/-! built-ins -/
theorem q_lenL (xs : List α) : primD .len [en xs] = some (en (xs.length : Int)) := by show some (PyData.int (xs.map en).length) = _; rw [List.length_map]; rfl
theorem q_lenT (xs : Tu α) : primD .len [en xs] = some (en (xs.l.length : Int)) := by show some (PyData.int (xs.l.map en).length) = _; rw [List.length_map]; rfl
theorem q_tupL (xs : List α) : primD .tuple [en xs] = some (en (Tu.mk xs)) := rfl
theorem q_tupT (xs : Tu α) : primD .tuple [en xs] = some (en xs) := rfl
theorem q_listL (xs : List α) : primD .list [en xs] = some (en xs) := rfl
theorem q_listT (xs : Tu α) : primD .list [en xs] = some (en xs.l) := rfl
theorem q_all (bs : List Bool) : primD .all [en bs] = some (en (bs.all id)) := by show (boolsD (bs.map .bool)).map _ = _; rw [boolsD_en bs]; rfl
theorem q_any (bs : List Bool) : primD .any [en bs] = some (en (bs.any id)) := by show (boolsD (bs.map .bool)).map _ = _; rw [boolsD_en bs]; rfl
theorem q_sum (ns : List Int) : primD .sum [en ns] = some (en ns.sum) := by show (intsD (ns.map .int)).map _ = _; rw [intsD_en ns]; rfl
theorem q_max (a b : Int) : primD .max [en a, en b] = some (en (if b > a then b else a)) := rfl
theorem q_min (a b : Int) : primD .min [en a, en b] = some (en (if b < a then b else a)) := rfl
theorem q_int (a : Int) : primD .int [en a] = some (en a) := rfl
theorem q_abs (a : Int) : primD .abs [en a] = some (en (if a < 0 then -a else a)) := rfl
/-! numbers in a row -/
def rgI (a b : Int) : List Int := (List.range (b - a).toNat).map fun i : Nat => a + (i : Int)
theorem g_rng (a b : Int) : lift (rngD (en a) (en b)) = gd (RgOk a b) (rt ((rgI a b).map en)) := by
  have : rngD (en a) (en b) = if RgOk a b then some ((rgI a b).map en) else none := by
    show (if RgOk a b then some (rangeI a b) else none) = _
    unfold rangeI rgI
    rw [List.map_map]; rfl
  rw [this, lift_gd]
theorem rgI_len (a b : Int) : (rgI a b).length = (b - a).toNat := by unfold rgI; simp
theorem mem_rgI {a b x : Int} : x ∈ rgI a b ↔ a ≤ x ∧ x < b := by
  unfold rgI
  simp only [List.mem_map, List.mem_range]
  constructor
  · rintro ⟨i, h, rfl⟩; omega
  · rintro ⟨h1, h2⟩
    exact ⟨(x - a).toNat, by omega, by omega⟩
theorem rgI_rg (n : Nat) : rgI 0 n = rg n := by unfold rgI rg; simp
theorem rgI_at {a b : Int} {i : Nat} (h : i < (rgI a b).length) : (rgI a b)[i] = a + i := by
  have : (rgI a b)[i]? = some (a + (i : Int)) := by
    rw [rgI_len] at h
    unfold rgI
    rw [List.getElem?_map, List.getElem?_range h]; rfl
  rw [List.getElem?_eq_getElem h] at this
  exact Option.some.inj this
theorem rgI_srt (a b : Int) : (rgI a b).Pairwise (· < ·) := by
  unfold rgI
  rw [List.pairwise_map]
  exact List.pairwise_lt_range.imp fun {a b} h => by omega
theorem rgOk_small {a b : Int} (h1 : -1000000 ≤ a) (h2 : a ≤ 1000000) (h3 : -1000000 ≤ b) (h4 : b ≤ 1000000) : RgOk a b := ⟨by omega, by omega, by omega, by omega, by omega⟩
def toI (x : D) : W (Option Int) := fun Q => ∃ i, x = .int i ∧ Q (some i)
theorem toI_en (a : Int) : toI (en a) = rt (some a) := by
  funext Q; exact propext ⟨fun ⟨i, e, q⟩ => by cases e; exact q, fun q => ⟨a, rfl, q⟩⟩
theorem getD_int (a : Int) : PyData.int ((some a).getD 0) = en a := rfl
/-! comprehensions -/
def lcM {α : Type} : List α → (α → W (Option D)) → W (List D)
  | [], _ => rt []
  | a :: as, st => bd (st a) fun o => bd (lcM as st) fun r => rt (o.toList ++ r)
theorem lcW_en : ∀ (xs : List α) (st : D → W (Option D)), lcW (xs.map en) st = lcM xs fun a => st (en a)
  | [], _ => rfl
  | a :: as, st => by
    funext Q
    show st (en a) (fun o => lcW (as.map en) st fun r => Q (o.toList ++ r)) = st (en a) fun o => lcM as (fun a => st (en a)) fun r => Q (o.toList ++ r)
    rw [lcW_en as st]
theorem lcM_all {γ : Type} (xs : List γ) (g : γ → β) : (lcM xs fun a => rt (some (en (g a)))) = rt ((xs.map g).map en) := by
  induction xs with
  | nil => rfl
  | cons a xs ih => show bd (rt _) (fun o => bd (lcM xs _) _) = _; rw [ih]; rfl
theorem lcM_if {γ : Type} (xs : List γ) (p : γ → Bool) (g : γ → β) : (lcM xs fun a => rt (if p a = true then some (en (g a)) else none)) = rt (((xs.filter p).map g).map en) := by
  induction xs with
  | nil => rfl
  | cons a xs ih =>
    show bd (rt _) (fun o => bd (lcM xs _) _) = _
    rw [ih]
    cases h : p a
    · rw [List.filter_cons_of_neg (by simp [h])]; rfl
    · rw [List.filter_cons_of_pos h]; rfl
theorem lcM_gd {γ : Type} (xs : List γ) (c : γ → Prop) (g : γ → Option D) : (lcM xs fun a => gd (c a) (rt (g a))) = gd (∀ a ∈ xs, c a) (lcM xs fun a => rt (g a)) := by
  induction xs with
  | nil => funext Q; exact propext ⟨fun h => ⟨by simp, h⟩, fun h => h.2⟩
  | cons a xs ih =>
    show bd (gd _ (rt _)) (fun o => bd (lcM xs _) _) = gd _ (bd (rt _) fun o => bd (lcM xs _) _)
    rw [ih]
    funext Q
    refine propext ⟨fun h => ⟨fun b hb => (List.mem_cons.mp hb).elim (fun e => e ▸ h.1) (h.2.1 b), h.2.2⟩, fun h => ⟨h.1 a (List.mem_cons_self ..), fun b hb => h.1 b (List.mem_cons_of_mem _ hb), h.2⟩⟩
/-- by implications -/
theorem lcM_imp {γ : Type} {xs : List γ} {st : γ → W (Option D)} {g : γ → Option D} {Q : List D → Prop} (h : ∀ a ∈ xs, ∀ K : Option D → Prop, K (g a) → st a K) (q : Q (xs.filterMap g)) : lcM xs st Q := by
  induction xs generalizing Q with
  | nil => exact q
  | cons a xs ih =>
    refine h a (List.mem_cons_self ..) _ (ih (fun b hb => h b (List.mem_cons_of_mem _ hb)) ?_)
    cases hg : g a with
    | none => rw [List.filterMap_cons_none hg] at q; exact q
    | some x => rw [List.filterMap_cons_some hg] at q; exact q
theorem lcM_congr {γ : Type} {xs : List γ} {st st' : γ → W (Option D)} (h : ∀ a ∈ xs, st a = st' a) : lcM xs st = lcM xs st' := by
  induction xs with
  | nil => rfl
  | cons a xs ih =>
    show bd (st a) _ = bd (st' a) _
    rw [h a (List.mem_cons_self ..), ih fun b hb => h b (List.mem_cons_of_mem _ hb)]
/-! sizes -/
theorem sz {n : Nat} (h : n ≤ 1000) : (n ≤ sizeLine) = True := eq_true (small_le h)
theorem sz_lt {n : Nat} (h : n ≤ 1000) : (n < sizeLine) = True := eq_true (small_lt (by omega))
theorem szl {n : Nat} (h : n ≤ 1000000) : n ≤ sizeLine := Nat.le_trans h (by decide)
theorem szt {n : Nat} (h : n ≤ 1000000) : n < sizeLine := Nat.lt_of_le_of_lt h (by decide)
end
end
set_option maxHeartbeats 4000000
/-! PEb: what compact text means, as readings put together; the tactic px. -/
section
open PySem L2
section
variable {C : Calls} {ρ : Nv} {K : Ko}
def bo (C : Calls) (e : E) (ρ : Nv) : W D := bor e ρ (ev C e ρ)
def ar (C : Calls) (e : E) (ρ : Nv) : W B := arg e ρ (ev C e ρ)
theorem wbo_var (i : Nat) : bo C (.var i) ρ = lift (lookB ρ i) := rfl
theorem ar_var (i : Nat) : ar C (.var i) ρ = lift (lookA ρ i) := rfl
theorem bo_cst (d : D) : bo C (.cst d) ρ = rt d := rfl
theorem bo_bin (op : BOp) (a b : E) : bo C (.bin op a b) ρ = ev C (.bin op a b) ρ := rfl
theorem bo_neg (a : E) : bo C (.neg a) ρ = ev C (.neg a) ρ := rfl
theorem bo_not (a : E) : bo C (.not a) ρ = ev C (.not a) ρ := rfl
theorem bo_and (a b : E) : bo C (.and a b) ρ = ev C (.and a b) ρ := rfl
theorem bo_or (a b : E) : bo C (.or a b) ρ = ev C (.or a b) ρ := rfl
theorem bo_cmp (o : COp) (a b : E) : bo C (.cmp o a b) ρ = ev C (.cmp o a b) ρ := rfl
theorem bo_chain (o p : COp) (a b c : E) : bo C (.chain o p a b c) ρ = ev C (.chain o p a b c) ρ := rfl
theorem bo_ife (c : T) (a b : E) : bo C (.ife c a b) ρ = ev C (.ife c a b) ρ := rfl
theorem bo_tupH (es : Es) : bo C (.tupH es) ρ = ev C (.tupH es) ρ := rfl
theorem bo_tup (es : Es) : bo C (.tup es) ρ = ev C (.tup es) ρ := rfl
theorem bo_lst (es : Es) : bo C (.lst es) ρ = ev C (.lst es) ρ := rfl
theorem bo_dnew : bo C .dnew ρ = ev C .dnew ρ := rfl
theorem bo_idx (a b : E) : bo C (.idx a b) ρ = ev C (.idx a b) ρ := rfl
theorem bo_slc (a : E) (lo hi : Eo) : bo C (.slc a lo hi) ρ = ev C (.slc a lo hi) ρ := rfl
theorem bo_rev0 (a : E) : bo C (.rev0 a) ρ = ev C (.rev0 a) ρ := rfl
theorem bo_rev (a : E) : bo C (.rev a) ρ = ev C (.rev a) ρ := rfl
theorem bo_call (f : Nat) (as : Es) : bo C (.call f as) ρ = ev C (.call f as) ρ := rfl
theorem bo_prim (p : Prim) (as : Es) : bo C (.prim p as) ρ = ev C (.prim p as) ρ := rfl
theorem bo_isi (a : E) (ts : List Ty) : bo C (.isi a ts) ρ = ev C (.isi a ts) ρ := rfl
theorem bo_lc (vs : List Nat) (g : G) (it : It) (c : To) (e : E) : bo C (.lc vs g it c e) ρ = ev C (.lc vs g it c e) ρ := rfl
theorem bo_rg (t : Bool) (lo : Eo) (hi : E) : bo C (.rg t lo hi) ρ = ev C (.rg t lo hi) ρ := rfl
/-- what is handed on -/
def shW (A : W D) : W B := bd A fun d => rt (B.sh d)
theorem sh_rt (d : D) : shW (rt d) = rt (.sh d) := rfl
theorem sh_gd (c : Prop) (A : W D) : shW (gd c A) = gd c (shW A) := rfl
theorem sh_bd {α : Type} (A : W α) (f : α → W D) : shW (bd A f) = bd A fun x => shW (f x) := rfl
theorem ar_cst (d : D) : ar C (.cst d) ρ = rt (.sh d) := rfl
theorem ar_bin (op : BOp) (a b : E) : ar C (.bin op a b) ρ = shW (ev C (.bin op a b) ρ) := rfl
theorem ar_neg (a : E) : ar C (.neg a) ρ = shW (ev C (.neg a) ρ) := rfl
theorem ar_not (a : E) : ar C (.not a) ρ = shW (ev C (.not a) ρ) := rfl
theorem ar_and (a b : E) : ar C (.and a b) ρ = shW (ev C (.and a b) ρ) := rfl
theorem ar_or (a b : E) : ar C (.or a b) ρ = shW (ev C (.or a b) ρ) := rfl
theorem ar_cmp (o : COp) (a b : E) : ar C (.cmp o a b) ρ = shW (ev C (.cmp o a b) ρ) := rfl
theorem ar_chain (o p : COp) (a b c : E) : ar C (.chain o p a b c) ρ = shW (ev C (.chain o p a b c) ρ) := rfl
theorem ar_ife (c : T) (a b : E) : ar C (.ife c a b) ρ = shW (ev C (.ife c a b) ρ) := rfl
theorem ar_tupH (es : Es) : ar C (.tupH es) ρ = shW (ev C (.tupH es) ρ) := rfl
theorem ar_tup (es : Es) : ar C (.tup es) ρ = shW (ev C (.tup es) ρ) := rfl
theorem ar_lst (es : Es) : ar C (.lst es) ρ = shW (ev C (.lst es) ρ) := rfl
theorem ar_dnew : ar C .dnew ρ = shW (ev C .dnew ρ) := rfl
theorem ar_idx (a b : E) : ar C (.idx a b) ρ = shW (ev C (.idx a b) ρ) := rfl
theorem ar_slc (a : E) (lo hi : Eo) : ar C (.slc a lo hi) ρ = shW (ev C (.slc a lo hi) ρ) := rfl
theorem ar_rev0 (a : E) : ar C (.rev0 a) ρ = shW (ev C (.rev0 a) ρ) := rfl
theorem ar_rev (a : E) : ar C (.rev a) ρ = shW (ev C (.rev a) ρ) := rfl
theorem ar_call (f : Nat) (as : Es) : ar C (.call f as) ρ = shW (ev C (.call f as) ρ) := rfl
theorem ar_prim (p : Prim) (as : Es) : ar C (.prim p as) ρ = shW (ev C (.prim p as) ρ) := rfl
theorem ar_isi (a : E) (ts : List Ty) : ar C (.isi a ts) ρ = shW (ev C (.isi a ts) ρ) := rfl
theorem ar_lc (vs : List Nat) (g : G) (it : It) (c : To) (e : E) : ar C (.lc vs g it c e) ρ = shW (ev C (.lc vs g it c e) ρ) := rfl
theorem ar_rg (t : Bool) (lo : Eo) (hi : E) : ar C (.rg t lo hi) ρ = shW (ev C (.rg t lo hi) ρ) := rfl
/-! expressions -/
theorem e_var (i : Nat) : ev C (.var i) ρ = lift (look ρ i) := rfl
theorem e_cst (d : D) : ev C (.cst d) ρ = rt d := rfl
theorem e_bin (op : BOp) (a b : E) : ev C (.bin op a b) ρ = bd (bo C a ρ) fun x => bd (bo C b ρ) fun y => lift (binD op x y) := rfl
theorem e_neg (a : E) : ev C (.neg a) ρ = bd (bo C a ρ) fun x => lift (negD x) := rfl
theorem e_not (a : E) : ev C (.not a) ρ = bd (bo C a ρ) fun x => bd (lift (truD x)) fun b => rt (en (!b)) := rfl
theorem e_and (a b : E) : ev C (.and a b) ρ = bd (ev C a ρ) fun x => bd (lift (truD x)) fun t => if t = true then ev C b ρ else rt x := by
  funext Q; show (ev C a ρ fun x => lift (truD x) fun t => _) = (ev C a ρ fun x => lift (truD x) fun t => _)
  congr 1; funext x; congr 1; funext t; cases t <;> rfl
theorem e_or (a b : E) : ev C (.or a b) ρ = bd (ev C a ρ) fun x => bd (lift (truD x)) fun t => if t = true then rt x else ev C b ρ := by
  funext Q; show (ev C a ρ fun x => lift (truD x) fun t => _) = (ev C a ρ fun x => lift (truD x) fun t => _)
  congr 1; funext x; congr 1; funext t; cases t <;> rfl
theorem e_cmp (o : COp) (a b : E) : ev C (.cmp o a b) ρ = bd (bo C a ρ) fun x => bd (bo C b ρ) fun y => lift (copD o x y) := rfl
theorem e_chain (o p : COp) (a b c : E) : ev C (.chain o p a b c) ρ = bd (bo C a ρ) fun x => bd (bo C b ρ) fun y => bd (lift (copD o x y)) fun z => bd (lift (truD z)) fun t => if t = true then bd (bo C c ρ) fun z => lift (copD p y z) else rt (en false) := by
  funext Q; show (bor a ρ (ev C a ρ) fun x => bor b ρ (ev C b ρ) fun y => lift (copD o x y) fun z => lift (truD z) fun t => _) = (bor a ρ (ev C a ρ) fun x => bor b ρ (ev C b ρ) fun y => lift (copD o x y) fun z => lift (truD z) fun t => _)
  congr 1; funext x; congr 1; funext y; congr 1; funext z; congr 1; funext t; cases t <;> rfl
theorem e_ife (c : T) (a b : E) : ev C (.ife c a b) ρ = bd (tst C c ρ) fun t => if t = true then ev C a ρ else ev C b ρ := by
  funext Q; show (tst C c ρ fun t => _) = (tst C c ρ fun t => _)
  congr 1; funext t; cases t <;> rfl
theorem e_tupH (es : Es) : ev C (.tupH es) ρ = bd (evs C es ρ) fun ds => gd (ds.length ≤ sizeLine) (rt (mkH ds)) := rfl
theorem e_tup (es : Es) : ev C (.tup es) ρ = bd (evs C es ρ) fun ds => gd (ds.length ≤ sizeLine) (rt (.tuple ds)) := rfl
theorem e_lst (es : Es) : ev C (.lst es) ρ = bd (evs C es ρ) fun ds => gd (ds.length ≤ sizeLine) (rt (.list ds)) := rfl
theorem e_dnew : ev C .dnew ρ = rt (.dict []) := rfl
theorem e_idx (a i : E) : ev C (.idx a i) ρ = bd (bo C a ρ) fun x => bd (ev C i ρ) fun y => lift (idxD x y) := rfl
theorem e_slc (a : E) (lo hi : Eo) : ev C (.slc a lo hi) ρ = bd (bo C a ρ) fun x => bd (evo C lo ρ) fun l => bd (evo C hi ρ) fun h => lift (slcD x l h) := rfl
theorem e_rev0 (a : E) : ev C (.rev0 a) ρ = bd (bo C a ρ) fun x => lift (rev0D x) := rfl
theorem e_rev (a : E) : ev C (.rev a) ρ = bd (bo C a ρ) fun x => lift (revD x) := rfl
theorem e_call (f : Nat) (as : Es) : ev C (.call f as) ρ = bd (eva C as ρ) fun bs => C f bs := rfl
theorem e_prim (p : Prim) (as : Es) : ev C (.prim p as) ρ = bd (evb C as ρ) fun ds => lift (primD p ds) := rfl
theorem e_isi (a : E) (ts : List Ty) : ev C (.isi a ts) ρ = bd (bo C a ρ) fun x => rt (en (isiD x ts)) := rfl
theorem e_lc (vs : List Nat) (g : G) (it : It) (c : To) (e : E) : ev C (.lc vs g it c e) ρ = gd (free ρ vs = true) (bd (evi C true it ρ) fun ds => bd (lcW ds fun d => bd (lift (asg g d (wipeN ρ vs))) fun ρ' => bd (evc C c ρ') fun t => if t = true then bd (ev C e ρ') fun y => rt (some y) else rt none) fun r => rt (.list r)) := by
  funext Q
  show (free ρ vs = true ∧ evi C true it ρ fun ds => lcW ds _ _) = (free ρ vs = true ∧ evi C true it ρ fun ds => lcW ds _ _)
  congr 1; congr 1; funext ds; congr 1; funext d K; show (lift _ fun ρ' => evc C c ρ' fun t => _) = (lift _ fun ρ' => evc C c ρ' fun t => _)
  congr 1; funext ρ'; congr 1; funext t; cases t <;> rfl
theorem e_rg (tup : Bool) (lo : Eo) (hi : E) : ev C (.rg tup lo hi) ρ = bd (evo C lo ρ) fun l => bd (ev C hi ρ) fun h => bd (lift (rngD (.int (l.getD 0)) h)) fun ds => rt (if tup = true then .tuple ds else .list ds) := by
  cases tup <;> rfl
theorem wt_and (a b : T) : tst C (.and a b) ρ = bd (tst C a ρ) fun c => if c = true then tst C b ρ else rt false := by
  funext Q; show (tst C a ρ fun t => _) = (tst C a ρ fun t => _)
  congr 1; funext t; cases t <;> rfl
theorem wt_or (a b : T) : tst C (.or a b) ρ = bd (tst C a ρ) fun c => if c = true then rt true else tst C b ρ := by
  funext Q; show (tst C a ρ fun t => _) = (tst C a ρ fun t => _)
  congr 1; funext t; cases t <;> rfl
theorem wt_not (a : T) : tst C (.not a) ρ = bd (tst C a ρ) fun c => rt (!c) := rfl
theorem wt_e (a : E) : tst C (.e a) ρ = bd (bo C a ρ) fun x => lift (truD x) := rfl
theorem vs_nil : evs C .nil ρ = rt [] := rfl
theorem vs_cons (e : E) (r : Es) : evs C (.cons e r) ρ = bd (ev C e ρ) fun x => bd (evs C r ρ) fun xs => rt (x :: xs) := rfl
theorem vs_star (e : E) (r : Es) : evs C (.star e r) ρ = bd (bo C e ρ) fun x => bd (lift (ltD x)) fun ys => bd (evs C r ρ) fun xs => rt (ys ++ xs) := rfl
theorem vb_nil : evb C .nil ρ = rt [] := rfl
theorem vb_cons (e : E) (r : Es) : evb C (.cons e r) ρ = bd (bo C e ρ) fun x => bd (evb C r ρ) fun xs => rt (x :: xs) := rfl
theorem va_nil : eva C .nil ρ = rt [] := rfl
theorem va_cons (e : E) (r : Es) : eva C (.cons e r) ρ = bd (ar C e ρ) fun x => bd (eva C r ρ) fun xs => rt (x :: xs) := rfl
theorem vo_no : evo C .no ρ = rt none := rfl
theorem vo_yes (e : E) : evo C (.yes e) ρ = bd (ev C e ρ) toI := rfl
theorem vc_no : evc C .no ρ = rt true := rfl
theorem vc_yes (t : T) : evc C (.yes t) ρ = tst C t ρ := rfl
theorem vi_val (e : E) : evi C true (.val e) ρ = bd (bo C e ρ) fun x => lift (ltD x) := rfl
theorem vi_valf (e : E) : evi C false (.val e) ρ = bd (ev C e ρ) fun x => lift (ltD x) := rfl
theorem vi_rng (b : Bool) (lo : Eo) (hi : E) : evi C b (.rng lo hi) ρ = bd (evo C lo ρ) fun l => bd (ev C hi ρ) fun h => lift (rngD (.int (l.getD 0)) h) := rfl
theorem vi_zip (e f : E) : evi C true (.zip e f) ρ = bd (bo C e ρ) fun x => bd (bo C f ρ) fun y => lift (zipD x y) := rfl
theorem vi_zipf (e f : E) : evi C false (.zip e f) ρ = bd (ev C e ρ) fun x => bd (ev C f ρ) fun y => lift (zipD x y) := rfl
theorem getD_0 : PyData.int ((none : Option Int).getD 0) = en (0 : Int) := rfl
theorem getD_s (a : Int) : PyData.int ((some a : Option Int).getD 0) = en a := rfl
/-! assignment -/
theorem a_v (i : Nat) (d : D) : asg (.v i) d ρ = some (ρ.set i (some (.sh d))) := by unfold asg; rfl
theorem a_p {α β : Type} [Enc α] [Enc β] (g h : G) (p : α × β) : asg (.tup [g, h]) (en p) ρ = (asg g (en p.1) ρ).bind (asg h (en p.2)) := by
  show asg (.tup [g, h]) (.tuple [en p.1, en p.2]) ρ = _
  rw [asg_t, asgs_c]
  congr 1
  funext r
  rw [asgs_c]
  cases asg h (en p.2) r with
  | none => rfl
  | some x => exact asgs_n
/-! statements -/
theorem x_nil : execs C .nil ρ K = K.nx ρ := rfl
theorem x_cons (s : Sm) (r : Ss) : execs C (.cons s r) ρ K = exec C s ρ { K with nx := fun ρ' => execs C r ρ' K } := rfl
theorem x_ite (c : T) (a b : Ss) : exec C (.ite c a b) ρ K = tst C c ρ fun t => if t = true then execs C a ρ K else execs C b ρ K := rfl
end
theorem cf_code {prog : List Fn} {k f np ns : Nat} {body : Ss} {bs : List B} (h : prog[f]? = some (.code np ns body)) (hl : bs.length = np) (hr : bs.all isRd = true) : callF prog (k + 1) f bs = fun Q => execs (callF prog k) body (startN ns bs) (koF Q) := by
  funext Q
  show (match prog[f]? with
    | some (.code np ns body) => bs.length = np ∧ bs.all isRd = true ∧ execs (callF prog k) body (startN ns bs) (koF Q)
    | some (.ext np sem) => bs.length = np ∧ 1 ≤ k ∧ sem bs Q
    | none => False) = _
  rw [h]
  exact propext ⟨fun h => h.2.2, fun h => ⟨hl, hr, h⟩⟩
end
set_option maxHeartbeats 4000000
/-! PEc: typed dicts, enumerate, index; pz with them (py). -/
section
open PySem L2
/-- a dict, by its entries -/
structure Dct (κ ν : Type) where
  l : List (κ × ν)
instance {κ ν : Type} [Enc κ] [Enc ν] : Enc (Dct κ ν) := ⟨fun d => .dict (d.l.map fun p => (en p.1, en p.2))⟩
/-- sorts of keys -/
class KEnc (κ : Type) [Enc κ] where
  key : ∀ k : κ, isKey (en k) = true
  knd : ∀ a b : κ, kindOk [(en a, .none)] (en b) = true
instance : KEnc Int := ⟨fun _ => rfl, fun _ _ => rfl⟩
theorem key1_int (i : Int) : isKey1 (en i) = true := rfl
instance : KEnc (Tu Int) := ⟨fun k => by
  show (k.l.map en).all isKey1 = true
  rw [List.all_map, List.all_eq_true]; intro x _; rfl, fun _ _ => rfl⟩
instance : KEnc (Int × Int) := ⟨fun _ => rfl, fun _ _ => rfl⟩
namespace Dct
variable {κ ν : Type} [DecidableEq κ]
def look? : List (κ × ν) → κ → Option ν
  | [], _ => none
  | p :: l, k => if p.1 = k then some p.2 else look? l k
def get? (d : Dct κ ν) (k : κ) : Option ν := look? d.l k
theorem look_find (l : List (κ × ν)) (k : κ) : (l.find? fun p => decide (p.1 = k)).map (·.2) = look? l k := by
  induction l with
  | nil => rfl
  | cons p l ih =>
    unfold look?
    by_cases h : p.1 = k
    · rw [List.find?_cons_of_pos (by simpa using h), if_pos h]; rfl
    · rw [List.find?_cons_of_neg (by simpa using h), if_neg h, ih]
theorem look_map (k j : κ) (v : ν) : ∀ l : List (κ × ν), look? (l.map fun p => if p.1 = k then (p.1, v) else p) j = if j = k then (look? l j).map (fun _ => v) else look? l j
  | [] => by unfold look?; simp [look?]
  | p :: l => by
    have ih := look_map k j v l
    rw [List.map_cons]
    unfold look?
    by_cases hp : p.1 = k
    · rw [if_pos hp]
      by_cases hj : j = k
      · rw [if_pos hj, if_pos (hp.trans hj.symm), if_pos (show p.1 = j from hp.trans hj.symm)]; rfl
      · have : p.1 ≠ j := fun e => hj (e ▸ hp)
        rw [if_neg hj] at ih ⊢
        rw [if_neg this, if_neg (show ¬ p.1 = j from this), ih]
    · rw [if_neg hp]
      by_cases hpj : p.1 = j
      · have : j ≠ k := fun e => hp (hpj.trans e)
        rw [if_pos hpj, if_neg this]; rw [if_pos hpj]
      · rw [if_neg hpj, ih]; rw [if_neg hpj]
theorem look_app (k j : κ) (v : ν) : ∀ l : List (κ × ν), look? (l ++ [(k, v)]) j = (look? l j).or (if k = j then some v else none)
  | [] => by simp [look?]
  | p :: l => by
    rw [List.cons_append]
    unfold look?
    by_cases h : p.1 = j
    · rw [if_pos h, if_pos h]; rfl
    · rw [if_neg h, if_neg h, look_app k j v l]
theorem look_any (k : κ) : ∀ l : List (κ × ν), (look? l k).isSome = l.any fun p => decide (p.1 = k)
  | [] => rfl
  | p :: l => by
    unfold look?
    by_cases h : p.1 = k
    · rw [if_pos h]; simp [h]
    · rw [if_neg h, look_any k l]; simp [h]
def has (d : Dct κ ν) (k : κ) : Bool := (d.get? k).isSome
def getD [Inhabited ν] (d : Dct κ ν) (k : κ) : ν := (d.get? k).getD default
def put (d : Dct κ ν) (k : κ) (v : ν) : Dct κ ν := ⟨if d.l.any (fun p => decide (p.1 = k)) then d.l.map (fun p => if p.1 = k then (p.1, v) else p) else d.l ++ [(k, v)]⟩
def keys (d : Dct κ ν) : List κ := d.l.map (·.1)
theorem has_iff (d : Dct κ ν) (k : κ) : d.has k = true ↔ k ∈ d.keys := by
  unfold has get? keys
  rw [look_any, List.any_eq_true]
  simp only [decide_eq_true_eq, List.mem_map]
theorem get?_put (d : Dct κ ν) (k j : κ) (v : ν) : (d.put k v).get? j = if j = k then some v else d.get? j := by
  show look? (if d.l.any (fun p => decide (p.1 = k)) then _ else _) j = if j = k then some v else look? d.l j
  by_cases h : (d.l.any fun p => decide (p.1 = k)) = true
  · rw [if_pos h, look_map]
    by_cases hj : j = k
    · subst hj
      rw [← look_any] at h
      obtain ⟨x, hx⟩ := Option.isSome_iff_exists.mp h
      rw [if_pos rfl, if_pos rfl, hx]; rfl
    · rw [if_neg hj, if_neg hj]
  · rw [if_neg h, look_app]
    by_cases hj : j = k
    · subst hj
      rw [← look_any] at h
      have hn : look? d.l j = none := by simpa using h
      rw [if_pos rfl, if_pos rfl, hn]; rfl
    · rw [if_neg hj, if_neg fun e => hj e.symm]
      cases look? d.l j <;> rfl
theorem len_put (d : Dct κ ν) (k : κ) (v : ν) : (d.put k v).l.length ≤ d.l.length + 1 := by
  unfold put
  split
  · simp
  · simp
theorem keys_put (d : Dct κ ν) (k : κ) (v : ν) : (d.put k v).keys = if k ∈ d.keys then d.keys else d.keys ++ [k] := by
  have hk : (d.l.any fun p => decide (p.1 = k)) = decide (k ∈ d.keys) := by
    rw [Bool.eq_iff_iff, List.any_eq_true, decide_eq_true_iff]
    unfold keys
    simp [List.mem_map]
  unfold put
  rw [hk]
  by_cases h : k ∈ d.keys
  · simp only [h, decide_true, if_true]
    unfold keys
    rw [List.map_map]
    apply List.map_congr_left
    intro p _
    simp only [Function.comp]
    split <;> rfl
  · simp only [h, decide_false, Bool.false_eq_true, if_false]
    unfold keys
    simp
end Dct
section
variable {κ ν : Type} [DecidableEq κ] [Enc κ] [LEnc κ] [KEnc κ] [Enc ν]
theorem dget_en (d : Dct κ ν) (k : κ) : dget (d.l.map fun p => (en p.1, en p.2)) (en k) = (d.get? k).map en := by
  unfold dget Dct.get?
  rw [List.find?_map, Option.map_map, ← Dct.look_find, Option.map_map]
  have : ((fun p : D × D => PyData.eqv p.1 (en k)) ∘ fun p : κ × ν => (en p.1, en p.2)) = fun p => decide (p.1 = k) := by
    funext p; exact LEnc.eqv p.1 k
  rw [this]; rfl
theorem kind_en (d : Dct κ ν) (k : κ) : kindOk (d.l.map fun p => (en p.1, en p.2)) (en k) = true := by
  unfold kindOk
  rw [List.all_map, List.all_eq_true]
  intro p _
  have h := KEnc.knd p.1 k
  unfold kindOk at h
  rw [List.all_cons, List.all_nil, Bool.and_true] at h
  exact h
theorem x_dct [Inhabited ν] (d : Dct κ ν) (k : κ) : lift (idxD (en d) (en k)) = gd (d.has k = true) (rt (en (d.getD k))) := by
  have : idxD (en d) (en k) = (d.get? k).map en := by
    show (if (isKey (en k) && kindOk _ (en k)) = true then dget _ (en k) else _) = _
    rw [KEnc.key, kind_en, dget_en]; rfl
  rw [this]
  unfold Dct.has Dct.getD
  cases h : d.get? k with
  | none => funext Q; simp [lift, gd, h]
  | some v => funext Q; simp [lift, gd, rt, h]
theorem c_inD (d : Dct κ ν) (k : κ) : copD .inn (en k) (en d) = some (en (d.has k)) := by
  show (if (isKey (en k) && kindOk _ (en k)) = true then some (PyData.bool (if false = true then _ else (dget _ (en k)).isSome)) else _) = _
  rw [KEnc.key, kind_en, dget_en]
  unfold Dct.has
  simp only [Option.isSome_map]; rfl
theorem c_ninD (d : Dct κ ν) (k : κ) : copD .nin (en k) (en d) = some (en (!d.has k)) := by
  show (if (isKey (en k) && kindOk _ (en k)) = true then some (PyData.bool (if true = true then !(dget _ (en k)).isSome else _)) else _) = _
  rw [KEnc.key, kind_en, dget_en]
  unfold Dct.has
  simp only [Option.isSome_map]; rfl
theorem dput_en (d : Dct κ ν) (k : κ) (v : ν) : PyData.dict (dput (d.l.map fun p => (en p.1, en p.2)) (en k) (en v)) = en (d.put k v) := by
  show _ = PyData.dict _
  congr 1
  unfold dput Dct.put
  rw [List.any_map]
  have e : ((fun p : D × D => PyData.eqv p.1 (en k)) ∘ fun p : κ × ν => (en p.1, en p.2)) = fun p => decide (p.1 = k) := by
    funext p; exact LEnc.eqv p.1 k
  rw [e]
  by_cases h : (d.l.any fun p => decide (p.1 = k)) = true
  · rw [if_pos h, if_pos h, List.map_map, List.map_map]
    apply List.map_congr_left
    intro p _
    simp only [Function.comp]
    rw [LEnc.eqv]
    by_cases hp : p.1 = k <;> simp [hp]
  · rw [if_neg h, if_neg h, List.map_append]; rfl
theorem s_dct (d : Dct κ ν) (k : κ) (v : ν) : lift (setD (en d) (en k) (en v)) = gd (d.l.length < sizeLine) (rt (en (d.put k v))) := by
  have : setD (en d) (en k) (en v) = if d.l.length < sizeLine then some (en (d.put k v)) else none := by
    show (if (isKey (en k) && kindOk _ (en k) && decide ((d.l.map fun p => (en p.1, en p.2)).length < sizeLine)) = true then some (PyData.dict (dput _ (en k) (en v))) else none) = _
    rw [KEnc.key, kind_en, dput_en, List.length_map]
    simp
  rw [this, lift_gd]
theorem nmK_en (d : Dct κ ν) : nmK (d.l.map fun p => ((en p.1 : D), (en p.2 : D))) = true := by
  cases h : d.l with
  | nil => rfl
  | cons p r =>
    rw [List.map_cons]
    have hk := KEnc.key p.1
    show nmK ((en p.1, en p.2) :: _) = true
    generalize (en p.1 : D) = x at hk
    cases x <;> first | rfl | (cases hk)
theorem isL_d (d : Dct κ ν) : isL (en d) = true := nmK_en d
theorem q_lenD (d : Dct κ ν) : primD .len [en d] = some (en (d.l.length : Int)) := by
  show (if nmK (d.l.map fun p => ((en p.1 : D), (en p.2 : D))) = true then some (PyData.int (d.l.map fun p => ((en p.1 : D), (en p.2 : D))).length) else _) = _
  rw [nmK_en, if_pos rfl, List.length_map]; rfl
theorem q_listD (d : Dct κ ν) : primD .list [en d] = some (en d.keys) := by
  show (if nmK (d.l.map fun p => ((en p.1 : D), (en p.2 : D))) = true then some (PyData.list ((d.l.map fun p => ((en p.1 : D), (en p.2 : D))).map (·.1))) else _) = _
  rw [nmK_en, if_pos rfl, List.map_map]
  show some _ = some (PyData.list (d.keys.map en))
  unfold Dct.keys
  rw [List.map_map]; rfl
end
section
variable {ν : Type} [Enc ν]
theorem d_int (k : Int) (v : ν) : dispD false [(en k, en v)] = some (en (Dct.mk [(k, v)])) := rfl
theorem isTk_tu (k : Tu Int) : isTk (en k) = true := by
  show (k.l.map en).all isKey1 = true
  rw [List.all_map, List.all_eq_true]; intro x _; rfl
theorem d_tu (k : Tu Int) (v : ν) : dispD true [(en k, en v)] = some (en (Dct.mk [(k, v)])) := by
  show (if (decide (1 ≤ 15) && ((isTk (en k)) && true) && !false) = true then some (PyData.dict [(en k, en v)]) else none) = _
  rw [isTk_tu]; rfl
theorem d_pair (k : Int × Int) (v : ν) : dispD true [(en k, en v)] = some (en (Dct.mk [(k, v)])) := rfl
end
section
variable {α : Type} [Enc α]
def enumT (xs : List α) : List (Int × α) := xs.zipIdx.map fun p => ((p.2 : Int), p.1)
theorem enum_en (xs : List α) : enumD (xs.map en) = (enumT xs).map en := by
  unfold enumD enumT
  rw [List.zipIdx_map, List.map_map, List.map_map]; rfl
theorem index_en [DecidableEq α] [LEnc α] (h : LEnc.dp α ≤ 60) (xs : List α) (a : α) : lift (primD .index [en xs, en a]) = gd (a ∈ xs) (rt (en (xs.idxOf a : Int))) := by
  have e : (fun y => PyData.eqv y (en a)) ∘ en = fun y : α => decide (y = a) := by funext y; exact LEnc.eqv y a
  have : primD .index [en xs, en a] = if a ∈ xs then some (en (xs.idxOf a : Int)) else none := by
    show (if ((en a).canLay0 && PyData.canLayAll0 (xs.map en) && decide (min (PyData.depthAll (xs.map en)) (en a).depth ≤ 60) && (xs.map en).any fun y => PyData.eqv y (en a)) = true then some (PyData.int ((xs.map en).findIdx fun y => PyData.eqv y (en a))) else none) = _
    have h1 := LEnc.dep a
    rw [LEnc.lay, layAll_en, List.any_map, List.findIdx_map, e]
    have h2 : (xs.any fun y => decide (y = a)) = decide (a ∈ xs) := by
      rw [Bool.eq_iff_iff, List.any_eq_true, decide_eq_true_iff]
      simp
    have h3 : decide (min (PyData.depthAll (xs.map en)) (PyData.depth (en a)) ≤ 60) = true := by simp; omega
    rw [h2, h3]
    have h4 : xs.findIdx (fun y => decide (y = a)) = xs.idxOf a := by
      unfold List.idxOf
      congr 1
    rw [h4, i_en]
    by_cases ha : a ∈ xs
    · simp [ha]
    · simp [ha]
  rw [this, lift_gd]
theorem mOk_l (xs : List α) : mOk .index (en xs) = true := rfl
end
section
variable {C : Calls} {ρ : Nv}
theorem e_meth (p : Prim) (a : E) (as : Es) : ev C (.meth p a as) ρ = bd (bo C a ρ) fun x => gd (mOk p x = true) (bd (evb C as ρ) fun ds => lift (primD p (x :: ds))) := rfl
theorem e_disp (tk : Bool) (ps : Ps) : ev C (.disp tk ps) ρ = bd (evp C ps ρ) fun qs => lift (dispD tk qs) := rfl
theorem vp_nil : evp C .nil ρ = rt [] := rfl
theorem vp_cons (k v : E) (r : Ps) : evp C (.cons k v r) ρ = bd (ev C k ρ) fun x => bd (ev C v ρ) fun y => bd (evp C r ρ) fun qs => rt ((x, y) :: qs) := rfl
theorem e_sset (a : E) : ev C (.sset a) ρ = bd (bo C a ρ) fun x => lift (ssetD x) := rfl
theorem bo_sset (a : E) : bo C (.sset a) ρ = ev C (.sset a) ρ := rfl
theorem ar_sset (a : E) : ar C (.sset a) ρ = shW (ev C (.sset a) ρ) := rfl
theorem bo_meth (p : Prim) (a : E) (as : Es) : bo C (.meth p a as) ρ = ev C (.meth p a as) ρ := rfl
theorem bo_disp (tk : Bool) (ps : Ps) : bo C (.disp tk ps) ρ = ev C (.disp tk ps) ρ := rfl
theorem ar_meth (p : Prim) (a : E) (as : Es) : ar C (.meth p a as) ρ = shW (ev C (.meth p a as) ρ) := rfl
theorem ar_disp (tk : Bool) (ps : Ps) : ar C (.disp tk ps) ρ = shW (ev C (.disp tk ps) ρ) := rfl
theorem vi_enum (e : E) : evi C true (.enum e) ρ = bd (bo C e ρ) fun x => bd (lift (ltD x)) fun ds => rt (enumD ds) := rfl
theorem vi_enumf (e : E) : evi C false (.enum e) ρ = bd (ev C e ρ) fun x => bd (lift (ltD x)) fun ds => rt (enumD ds) := rfl
theorem vi_rng3 (b : Bool) (lo hi st : E) : evi C b (.rng3 lo hi st) ρ = bd (ev C lo ρ) fun l => bd (ev C hi ρ) fun h => bd (ev C st ρ) fun s => lift (rng3D l h s) := rfl
end
section
variable {p q : Bool} {γ : Sort _}
theorem ii_and {γ : Type _} (x y : γ) : (if p = true then (if q = true then x else y) else y) = if (p && q) = true then x else y := by cases p <;> cases q <;> rfl
theorem ii_or {γ : Type _} (x y : γ) : (if p = true then x else (if q = true then x else y)) = if (p || q) = true then x else y := by cases p <;> cases q <;> rfl
theorem isEmpty_filterB {α : Type} (p : α → Bool) (xs : List α) : (xs.filter p).isEmpty = !(xs.any p) := by
  rw [Bool.eq_iff_iff, List.isEmpty_iff, List.filter_eq_nil_iff]
  simp
theorem gd_ff {α : Type} (c : Prop) : gd c (fun _ : α → Prop => False) = fun _ => False := by funext Q; exact propext ⟨fun h => h.2, fun h => h.elim⟩
end
theorem ite_some {p : Bool} {γ : Type} (x y : γ) : (if p = true then some x else some y) = some (if p = true then x else y) := by cases p <;> rfl
/-- xs[i] = x -/
def pset {α : Type} (xs : List α) (i : Int) (x : α) : List α := xs.set (if i < 0 then (i + xs.length).toNat else i.toNat) x
theorem s_lst {α : Type} [Enc α] (xs : List α) (i : Int) (x : α) : lift (setD (en xs) (en i) (en x)) = gd (IxOk xs.length i) (rt (en (pset xs i x))) := by
  have : setD (en xs) (en i) (en x) = if IxOk xs.length i then some (en (pset xs i x)) else none := by
    show (ixN (xs.map en).length i).map (fun j => PyData.list ((xs.map en).set j (en x))) = _
    unfold ixN IxOk pset
    rw [List.length_map]
    by_cases h0 : 0 ≤ i
    · by_cases h1 : i < xs.length
      · simp only [h0, h1, if_true, show ¬ i < 0 by omega, if_false, show -(xs.length : Int) ≤ i by omega, and_self, Option.map_some, ← List.map_set]; rfl
      · simp [h0, h1]
    · by_cases h1 : -(xs.length : Int) ≤ i
      · simp only [h0, h1, if_true, show i < 0 by omega, if_false, show i < xs.length by omega, and_self, Option.map_some, ← List.map_set]; rfl
      · simp [h0, h1]
  rw [this, lift_gd]
abbrev Ord := Int × Tu (Int × Int)
def od (n : Nat) (ps : List (Int × Int)) : Ord := ((n : Int), ⟨ps⟩)
theorem od_1 (n : Nat) (ps : List (Int × Int)) : (od n ps).1 = (n : Int) := rfl
theorem od_2 (n : Nat) (ps : List (Int × Int)) : (od n ps).2.l = ps := rfl
theorem ordD_od (n : Nat) (ps : List (Int × Int)) : ordD (n : Int) ps = en (od n ps) := rfl
def frzN (ρ : Nv) (i : Nat) : Nv := match ρ[i]? with
  | some (some (.own d)) => ρ.set i (some (.sh d))
  | _ => ρ
theorem x_frz {C : Calls} (i : Nat) (r : Ss) (ρ : Nv) (K : Ko) : execs C (.frz i r) ρ K = execs C r (frzN ρ i) K := rfl
theorem frz_o (d : D) (r : Nv) : frzN (some (.own d) :: r) 0 = some (.sh d) :: r := rfl
theorem frz_h (d : D) (r : Nv) : frzN (some (.sh d) :: r) 0 = some (.sh d) :: r := rfl
theorem frz_s (x : Option B) (r : Nv) (i : Nat) : frzN (x :: r) (i + 1) = x :: frzN r i := by
  unfold frzN
  rw [List.getElem?_cons_succ]
  cases r[i]? with
  | none => rfl
  | some b => cases b with
    | none => rfl
    | some b => cases b <;> rfl
/-- empty ones, of a wanted sort -/
theorem l0_en {α : Type} [Enc α] : PyData.list (List.map en ([] : List α)) = en ([] : List α) := rfl
theorem t0_en {α : Type} [Enc α] : PyData.tuple (List.map en ([] : List α)) = en (Tu.mk ([] : List α)) := rfl
theorem mtE {α : Type} [Enc α] : PyData.list [] = en ([] : List α) := rfl
theorem mtU {α : Type} [Enc α] : PyData.tuple [] = en (Tu.mk ([] : List α)) := rfl
theorem mtD {κ ν : Type} [Enc κ] [Enc ν] : PyData.dict [] = en (Dct.mk ([] : List (κ × ν))) := rfl
theorem sset_en (xs : Tu Int) : lift (ssetD (en xs)) = gd (xs.l.length < 64) (rt (en (sortU xs.l))) := by
  have : ssetD (en xs) = if xs.l.length < 64 then some (en (sortU xs.l)) else none := by
    show (match intsD (xs.l.map .int) with
      | some ns => if ns.length < 64 then some (PyData.list ((sortU ns).map .int)) else none
      | none => none) = _
    rw [intsD_en]; rfl
  rw [this, lift_gd]
theorem ssetL_en (xs : List Int) : lift (ssetD (en xs)) = gd (xs.length < 64) (rt (en (sortU xs))) := by
  have : ssetD (en xs) = if xs.length < 64 then some (en (sortU xs)) else none := by
    show (match intsD (xs.map .int) with
      | some ns => if ns.length < 64 then some (PyData.list ((sortU ns).map .int)) else none
      | none => none) = _
    rw [intsD_en]; rfl
  rw [this, lift_gd]
/-- loops over typed data -/
def forL {α : Type} : List α → (α → Nv → (Nv → Prop) → Prop) → Nv → (Nv → Prop) → Prop
  | [], _, ρ, Q => Q ρ
  | a :: as, st, ρ, Q => st a ρ fun ρ' => forL as st ρ' Q
theorem forW_en {α : Type} [Enc α] : ∀ (xs : List α) (st : D → Nv → (Nv → Prop) → Prop) (ρ : Nv) (Q : Nv → Prop), forW (xs.map en) st ρ Q = forL xs (fun a => st (en a)) ρ Q
  | [], _, _, _ => rfl
  | a :: as, st, ρ, Q => by
    show st (en a) ρ (fun ρ' => forW (as.map en) st ρ' Q) = st (en a) ρ fun ρ' => forL as (fun a => st (en a)) ρ' Q
    congr 1; funext ρ'; exact forW_en as st ρ' Q
/-- an invariant that tells what has been gone through, what is left -/
theorem forL_inv {α : Type} {st : α → Nv → (Nv → Prop) → Prop} {Q : Nv → Prop} (I : List α → Nv → Prop) : ∀ {xs done : List α} {ρ : Nv}, I done ρ → (∀ d a r ρ, done ++ xs = d ++ a :: r → I d ρ → ∀ K : Nv → Prop, (∀ ρ', I (d ++ [a]) ρ' → K ρ') → st a ρ K) → (∀ ρ, I (done ++ xs) ρ → Q ρ) → forL xs st ρ Q
  | [], done, ρ, h, _, q => q ρ (by rw [List.append_nil]; exact h)
  | a :: xs, done, ρ, h, hs, q => by
    refine hs done a xs ρ rfl h _ fun ρ' h' => ?_
    exact forL_inv I (xs := xs) (done := done ++ [a]) h' (fun d b r ρ e => hs d b r ρ (by rw [← e, List.append_assoc]; rfl)) fun ρ hh => q ρ (by rw [List.append_assoc] at hh; exact hh)
/-- a value carried on -/
theorem forL_fold {α σ : Type} {st : α → Nv → (Nv → Prop) → Prop} {Q : Nv → Prop} (R : σ → Nv → Prop) (f : σ → α → σ) : ∀ {xs : List α} {s : σ} {ρ : Nv}, R s ρ → (∀ a ∈ xs, ∀ s ρ, R s ρ → ∀ K : Nv → Prop, (∀ ρ', R (f s a) ρ' → K ρ') → st a ρ K) → (∀ ρ, R (xs.foldl f s) ρ → Q ρ) → forL xs st ρ Q
  | [], s, ρ, h, _, q => q ρ h
  | a :: xs, s, ρ, h, hs, q => hs a (List.mem_cons_self ..) s ρ h _ fun ρ' h' => forL_fold R f (xs := xs) h' (fun b hb => hs b (List.mem_cons_of_mem _ hb)) q
section
variable {C : Calls} {ρ : Nv} {K : Ko}
theorem bo_dc (vs : List Nat) (g : G) (it : It) (c : To) (k x : E) : bo C (.dc vs g it c k x) ρ = ev C (.dc vs g it c k x) ρ := rfl
theorem ar_dc (vs : List Nat) (g : G) (it : It) (c : To) (k x : E) : ar C (.dc vs g it c k x) ρ = shW (ev C (.dc vs g it c k x) ρ) := rfl
theorem e_dc (vs : List Nat) (g : G) (it : It) (c : To) (k x : E) : ev C (.dc vs g it c k x) ρ = gd (free ρ vs = true) (bd (evi C true it ρ) fun ds => bd (dcW (fun d => bd (lift (asg g d (wipeN ρ vs))) fun ρ' => bd (evc C c ρ') fun t => if t = true then bd (ev C k ρ') fun y => bd (ev C x ρ') fun z => rt (some (y, z)) else rt none) ds []) fun r => rt (.dict r)) := by
  funext Q
  show (free ρ vs = true ∧ evi C true it ρ fun ds => dcW _ ds [] _) = (free ρ vs = true ∧ evi C true it ρ fun ds => dcW _ ds [] _)
  congr 1; congr 1; funext ds; congr 1; funext d K; show (lift _ fun ρ' => evc C c ρ' fun t => _) = (lift _ fun ρ' => evc C c ρ' fun t => _)
  congr 1; funext ρ'; congr 1; funext t; cases t <;> rfl
theorem a_t3 {α : Type} [Enc α] (g1 g2 g3 : G) (a b c : α) : asg (.tup [g1, g2, g3]) (en (Tu.mk [a, b, c])) ρ = (asg g1 (en a) ρ).bind fun ρ => (asg g2 (en b) ρ).bind (asg g3 (en c)) := by
  show asg (.tup [g1, g2, g3]) (.tuple [en a, en b, en c]) ρ = _
  rw [asg_t, asgs_c]
  congr 1
  funext r
  rw [asgs_c]
  congr 1
  funext r2
  rw [asgs_c]
  cases asg g3 (en c) r2 with
  | none => rfl
  | some x => exact asgs_n
/-- keys and values of one sort -/
def putsD {κ ν : Type} [DecidableEq κ] (d : Dct κ ν) (ps : List (κ × ν)) : Dct κ ν := ps.foldl (fun d p => d.put p.1 p.2) d
theorem dputs_en {κ ν : Type} [DecidableEq κ] [Enc κ] [LEnc κ] [KEnc κ] [Enc ν] : ∀ (ps : List (κ × ν)) (d : Dct κ ν), PyData.dict (dputs (d.l.map fun p => (en p.1, en p.2)) (ps.map fun p => (en p.1, en p.2))) = en (putsD d ps)
  | [], _ => rfl
  | p :: ps, d => by
    have h := dput_en d p.1 p.2
    have h2 : dput (d.l.map fun p => (en p.1, en p.2)) (en p.1) (en p.2) = (d.put p.1 p.2).l.map fun p => (en p.1, en p.2) := PyData.dict.inj h
    show PyData.dict (dputs (dput (d.l.map fun p => (en p.1, en p.2)) (en p.1) (en p.2)) (ps.map fun p => (en p.1, en p.2))) = _
    rw [h2]
    exact dputs_en ps (d.put p.1 p.2)
theorem setK_en {κ ν : Type} [DecidableEq κ] [Enc κ] [LEnc κ] [KEnc κ] [Enc ν] (d : Dct κ ν) (k : κ) (v : ν) (h : d.l.length < sizeLine) : setK (d.l.map fun p => (en p.1, en p.2)) (en k) (en v) = some ((d.put k v).l.map fun p => (en p.1, en p.2)) := by
  have h2 : dput (d.l.map fun p => (en p.1, en p.2)) (en k) (en v) = (d.put k v).l.map fun p => (en p.1, en p.2) := PyData.dict.inj (dput_en d k v)
  have : setK (d.l.map fun p => (en p.1, en p.2)) (en k) (en v) = if isKey (en k) && kindOk (d.l.map fun p => (en p.1, en p.2)) (en k) && decide ((d.l.map fun p : κ × ν => ((en p.1 : D), (en p.2 : D))).length < sizeLine) then some (dput (d.l.map fun p => (en p.1, en p.2)) (en k) (en v)) else none := rfl
  rw [this, KEnc.key, kind_en, List.length_map, decide_eq_true h, h2]; rfl
theorem dcW_en {α κ ν : Type} [Enc α] [DecidableEq κ] [Enc κ] [LEnc κ] [KEnc κ] [Enc ν] {st : D → W (Option (D × D))} (f : α → κ) (g : α → ν) {Q : List (D × D) → Prop} : ∀ {xs : List α} {d : Dct κ ν}, (∀ a ∈ xs, ∀ K : Option (D × D) → Prop, K (some (en (f a), en (g a))) → st (en a) K) → d.l.length + xs.length ≤ sizeLine →
    Q ((putsD d (xs.map fun a => (f a, g a))).l.map fun p => (en p.1, en p.2)) → dcW st (xs.map en) (d.l.map fun p => (en p.1, en p.2)) Q
  | [], d, _, _, q => q
  | a :: xs, d, h, hz, q => by
    rw [List.length_cons] at hz
    rw [List.map_cons]
    unfold dcW
    refine h a (List.mem_cons_self ..) _ ?_
    refine ⟨_, setK_en d (f a) (g a) (by omega), ?_⟩
    have := Dct.len_put d (f a) (g a)
    exact dcW_en f g (fun b hb => h b (List.mem_cons_of_mem _ hb)) (by omega) q
/-- d.update(x) -/
theorem upd_en {κ ν : Type} [DecidableEq κ] [Enc κ] [LEnc κ] [KEnc κ] [Enc ν] {i : Nat} {e : E} {d : Dct κ ν} (hl : lookO ρ i = some (en d)) (h : ev C e ρ fun x => ∃ d2 : Dct κ ν, x = en d2 ∧ UpdOk (d.l.map fun p => (en p.1, en p.2)) (d2.l.map fun p => (en p.1, en p.2)) ∧ K.nx (ρ.set i (some (.own (en (putsD d d2.l)))))) (mono : ∀ {Q Q' : D → Prop}, (∀ x, Q x → Q' x) → ev C e ρ Q → ev C e ρ Q') : exec C (.upd i e) ρ K := by
  refine ⟨_, hl, mono (fun x hx => ?_) h⟩
  obtain ⟨d2, rfl, hu, hk⟩ := hx
  refine ⟨_, rfl, hu, ?_⟩
  rw [dputs_en]; exact hk
def hP (p : Int × Int) : Int := reduceHash (Builtin.Tuple.tupleHashOf [hashInt p.1, hashInt p.2])
def grid9 : List (Int × Int) := (List.range 9).flatMap fun a : Nat => (List.range 9).map fun b : Nat => (Int.ofNat a, Int.ofNat b)
theorem hP_apart : (grid9.map hP).Nodup := by decide +kernel
theorem inj_of_nodup {α β : Type} {f : α → β} : ∀ {l : List α}, (l.map f).Nodup → ∀ a ∈ l, ∀ b ∈ l, f a = f b → a = b
  | [], _, _, h, _, _, _ => nomatch h
  | x :: l, h, a, ha, b, hb, e => by
    rw [List.map_cons, List.nodup_cons] at h
    rcases List.mem_cons.mp ha with e1 | ha
    · rcases List.mem_cons.mp hb with e2 | hb
      · rw [e1, e2]
      · exact absurd (List.mem_map.mpr ⟨b, hb, by rw [← e, e1]⟩) h.1
    · rcases List.mem_cons.mp hb with e2 | hb
      · exact absurd (List.mem_map.mpr ⟨a, ha, by rw [e, e2]⟩) h.1
      · exact inj_of_nodup h.2 a ha b hb e
theorem in_grid9 {p : Int × Int} (h : 0 ≤ p.1 ∧ p.1 < 9 ∧ 0 ≤ p.2 ∧ p.2 < 9) : p ∈ grid9 := by
  unfold grid9
  refine List.mem_flatMap.mpr ⟨p.1.toNat, List.mem_range.mpr (by omega), List.mem_map.mpr ⟨p.2.toNat, List.mem_range.mpr (by omega), ?_⟩⟩
  have h1 : Int.ofNat p.1.toNat = p.1 := Int.toNat_of_nonneg h.1
  have h2 : Int.ofNat p.2.toNat = p.2 := Int.toNat_of_nonneg h.2.2.1
  rw [h1, h2]
theorem map_nodup {α β : Type} {f : α → β} : ∀ {l : List α}, l.Nodup → (∀ a ∈ l, ∀ b ∈ l, f a = f b → a = b) → (l.map f).Nodup
  | [], _, _ => List.nodup_nil
  | x :: l, h, hi => by
    rw [List.nodup_cons] at h
    rw [List.map_cons, List.nodup_cons]
    refine ⟨fun z => ?_, map_nodup h.2 fun a ha b hb => hi a (List.mem_cons_of_mem _ ha) b (List.mem_cons_of_mem _ hb)⟩
    obtain ⟨b, hb, e⟩ := List.mem_map.mp z
    have := hi b (List.mem_cons_of_mem _ hb) x (List.mem_cons_self ..) e
    exact h.1 (this ▸ hb)
theorem mix_hash (P : Program) (w : World) (i : Int) : (mixKind P w).hash (Sum.inl i) = hashInt i := rfl
theorem tup_hash (P : Program) (w : World) (p : Int × Int) : (tupleKind (mixKind P w)).hash [Sum.inl p.1, Sum.inl p.2] = hP p := by
  show reduceHash (Builtin.Tuple.tupleHashOf (List.map (mixKind P w).hash [Sum.inl p.1, Sum.inl p.2])) = _
  rw [List.map_cons, List.map_cons, List.map_nil, mix_hash, mix_hash]
  unfold hP
  rfl
theorem keys_pairs {qs : List (Int × Int)} {ks : List (List Key)} (e : qs.map en = ks.map tkeyD) : ks = qs.map fun p => [Sum.inl p.1, Sum.inl p.2] := by
    induction qs generalizing ks with
    | nil => cases ks with
      | nil => rfl
      | cons _ _ => simp at e
    | cons q qs ih =>
      cases ks with
      | nil => simp at e
      | cons k ks =>
        rw [List.map_cons, List.map_cons, List.cons.injEq] at e
        rw [List.map_cons, ih e.2]
        congr 1
        have e1 : PyData.tuple [.int q.1, .int q.2] = .tuple (k.map keyD) := e.1
        have e2 : [PyData.int q.1, .int q.2] = k.map keyD := PyData.tuple.inj e1
        match k, e2 with
        | [a, b], e2 =>
          simp only [List.map_cons, List.map_nil, List.cons.injEq, and_true] at e2
          cases a with
          | inl i => cases b with
            | inl j =>
              have h1 : q.1 = i := PyData.int.inj e2.1
              have h2 : q.2 = j := PyData.int.inj e2.2
              rw [h1, h2]
            | inr y => have := e2.2; cases this
          | inr x => have := e2.1; cases this
        | [], e2 => cases e2
        | [_], e2 => simp at e2
        | _ :: _ :: _ :: _, e2 => simp at e2
theorem hP_inj {a b : Int × Int} (ha : 0 ≤ a.1 ∧ a.1 < 9 ∧ 0 ≤ a.2 ∧ a.2 < 9) (hb : 0 ≤ b.1 ∧ b.1 < 9 ∧ 0 ≤ b.2 ∧ b.2 < 9) (e : hP a = hP b) : a = b :=
  inj_of_nodup (f := hP) (l := grid9) hP_apart a (in_grid9 ha) b (in_grid9 hb) e
theorem hash_inj (f : List Key → Int) (h0 : ∀ p : Int × Int, f [Sum.inl p.1, Sum.inl p.2] = hP p) {qs : List (Int × Int)} (nd : qs.Nodup) (h : ∀ p ∈ qs, 0 ≤ p.1 ∧ p.1 < 9 ∧ 0 ≤ p.2 ∧ p.2 < 9) {ks : List (List Key)} (hk : ks = qs.map fun p => [Sum.inl p.1, Sum.inl p.2]) : (ks.map f).Nodup := by
  subst hk
  refine map_nodup (map_nodup nd fun a _ b _ e => ?_) fun a ha b hb e => ?_
  · simp only [List.cons.injEq, Sum.inl.injEq, and_true] at e
    exact Prod.ext e.1 e.2
  · obtain ⟨p, hp, rfl⟩ := List.mem_map.mp ha
    obtain ⟨q, hq, rfl⟩ := List.mem_map.mp hb
    rw [hP_inj (h p hp) (h q hq) ((h0 p).symm.trans (e.trans (h0 q)))]
/-- pairs of small ints hash apart -/
theorem apart_pairs {qs : List (Int × Int)} (nd : qs.Nodup) (h : ∀ p ∈ qs, 0 ≤ p.1 ∧ p.1 < 9 ∧ 0 ≤ p.2 ∧ p.2 < 9) : ApartD (qs.map en) :=
  fun _ e P w => hash_inj (tupleKind (mixKind P w)).hash (tup_hash P w) nd h (keys_pairs e)
end
theorem intsD_map : ∀ xs : List Int, intsD (xs.map en) = some xs
  | [] => rfl
  | x :: xs => by
    show (intsD (xs.map en)).map _ = _
    rw [intsD_map xs]; rfl
theorem mmD_en (f : Int → Int → Int) (x : Int) (xs : List Int) : mmD f ((x :: xs).map en) = some (en (xs.foldl f x)) := by unfold mmD; rw [intsD_map]; rfl
theorem q_minL (x : Int) (xs : List Int) : primD .min [en (x :: xs)] = some (en (xs.foldl min x)) := mmD_en min x xs
theorem q_minT (x : Int) (xs : List Int) : primD .min [en (Tu.mk (x :: xs))] = some (en (xs.foldl min x)) := mmD_en min x xs
theorem q_maxL (x : Int) (xs : List Int) : primD .max [en (x :: xs)] = some (en (xs.foldl max x)) := mmD_en max x xs
theorem q_maxT (x : Int) (xs : List Int) : primD .max [en (Tu.mk (x :: xs))] = some (en (xs.foldl max x)) := mmD_en max x xs
/-! ### marked tuples (known to have no dict: index may be asked of them) -/
structure Hd (α : Type) where
  l : List α
  deriving DecidableEq, Inhabited
instance {α : Type} [Enc α] : Enc (Hd α) := ⟨fun t => mkH (t.l.map en)⟩
section
variable {α : Type} [Enc α]
theorem q_tupH (xs : List α) : primD .tupleH [en xs] = some (en (Hd.mk xs)) := rfl
theorem h1_en (x : α) : mkH [en x] = en (Hd.mk [x]) := rfl
theorem isL_h (t : Hd α) : isL (en t) = false := rfl
theorem lt_hd (t : Hd α) : ltD (en t) = some (t.l.map en) := unH_mk _
theorem q_lenH (t : Hd α) : primD .len [en t] = some (en (t.l.length : Int)) := by
  show (unH [(PyData.list [.int bigI], .list (t.l.map en))]).map (fun ys => PyData.int ys.length) = _
  rw [unH_mk, Option.map_some, List.length_map]; rfl
theorem q_listH (t : Hd α) : primD .list [en t] = some (en t.l) := by
  show (unH [(PyData.list [.int bigI], .list (t.l.map en))]).map (fun ys => PyData.list ys) = _
  rw [unH_mk, Option.map_some]; rfl
theorem x_hd [Inhabited α] (t : Hd α) (i : Int) : lift (idxD (en t) (en i)) = gd (IxOk t.l.length i) (rt (en (pix t.l i))) := by
  rw [show idxD (en t) (en i) = (unH [(PyData.list [.int bigI], .list (t.l.map en))]).bind (fun xs => atI xs i) from rfl, unH_mk, Option.bind_some, atI_map, lift_gd]
theorem mOk_h (t : Hd α) : mOk .index (en t) = true := by
  show (unH [(PyData.list [.int bigI], .list (t.l.map en))]).isSome = true
  rw [unH_mk]; rfl
theorem ii_hd (t : Hd α) : isiD (en t) [.tuple] = true := rfl
theorem index_hd [DecidableEq α] [LEnc α] (h : LEnc.dp α ≤ 60) (t : Hd α) (a : α) : lift (primD .index [en t, en a]) = gd (a ∈ t.l) (rt (en (t.l.idxOf a : Int))) := by
  rw [show primD .index [en t, en a] = (unH [(PyData.list [.int bigI], .list (t.l.map en))]).bind (fun xs => indexD xs (en a)) from rfl, unH_mk, Option.bind_some, ← index_en h t.l a]
  rfl
theorem inT_en [DecidableEq α] [LEnc α] (h : LEnc.dp α ≤ 60) (neg : Bool) (a : α) (t : Hd α) : inT neg (en a) (t.l.map en) = inD neg (en a) (.tuple (t.l.map en)) := by
  have c : ((en a : D).canLay0 && PyData.canLayAll0 (t.l.map en) && decide (min (PyData.depthAll (t.l.map en)) (en a : D).depth ≤ 60)) = true := by
    rw [LEnc.lay a, canLayAll_of (fun d hd' => by
      obtain ⟨b, _, rfl⟩ := List.mem_map.mp hd'
      exact LEnc.lay b)]
    have := LEnc.dep a
    simp; omega
  unfold inT
  rw [if_pos c]
  show _ = (if _ then _ else _)
  rw [if_pos c]
theorem in_kind [DecidableEq α] [LEnc α] (neg : Bool) (a : α) (t : Hd α) : inD neg (en a) (en t) = inT neg (en a) (t.l.map en) := by
  have hk : kindOk [(PyData.list [.int bigI], .list (t.l.map en))] (en a) = false := by
    unfold kindOk
    rw [List.all_cons, List.all_nil, Bool.and_true]
  show (if (isKey (en a) && kindOk [(PyData.list [.int bigI], .list (t.l.map en))] (en a)) = true then _ else (unH [(PyData.list [.int bigI], .list (t.l.map en))]).bind (inT neg (en a))) = _
  rw [hk, Bool.and_false, if_neg (by decide), unH_mk, Option.bind_some]
theorem c_inH [DecidableEq α] [LEnc α] (h : LEnc.dp α ≤ 60) (a : α) (t : Hd α) : copD .inn (en a) (en t) = some (en (mb a t.l)) := by
  have := c_inT h a (Tu.mk t.l)
  show inD false (en a) (en t) = _
  rw [in_kind, inT_en h]
  exact this
theorem c_ninH [DecidableEq α] [LEnc α] (h : LEnc.dp α ≤ 60) (a : α) (t : Hd α) : copD .nin (en a) (en t) = some (en (!mb a t.l)) := by
  have := c_ninT h a (Tu.mk t.l)
  show inD true (en a) (en t) = _
  rw [in_kind, inT_en h]
  exact this
theorem er_en [DecidableEq α] [LEnc α] (a : α) : er (en a) = en a := er_lay _ (LEnc.lay a)
theorem erL_en [DecidableEq α] [LEnc α] : ∀ xs : List α, erL (xs.map en) = xs.map en
  | [] => by simp [erL]
  | x :: xs => by rw [List.map_cons, erL, er_en, erL_en xs]
theorem er_hd [DecidableEq α] [LEnc α] (t : Hd α) : er (en t) = en (Tu.mk t.l) := by
  show er (mkH (t.l.map en)) = _
  rw [er_mkH, erL_en]; rfl
theorem eqOk_nil (d : D) (ks : List (D × D)) : eqOk (.dict ks) d = false := by
  unfold eqOk emptyL
  cases d <;> simp [PyData.canLay0]
theorem eqOk_nil2 (d : D) (ks : List (D × D)) : eqOk d (.dict ks) = false := by
  unfold eqOk emptyL
  cases d <;> simp [PyData.canLay0]
/-- a marked tuple beside a tuple -/
theorem c_eqH [DecidableEq α] [LEnc α] (h : LEnc.dp α ≤ 58) (t : Hd α) (s : Tu α) : copD .eq (en t) (en s) = some (en (decide (t.l = s.l))) := by
  have h1 : eqOk (en t) (en s) = false := eqOk_nil _ _
  have h2 := c_eq (α := Tu α) (by show LEnc.dp α + 1 ≤ 60; omega) (Tu.mk t.l) s
  rw [copD_eq, if_neg (by rw [h1]; decide)]
  rw [copD_eq, if_pos (eqOk_en (by show LEnc.dp α + 1 ≤ 60; omega) _ _)] at h2
  unfold eqE
  rw [er_hd, er_en, if_pos (eqOk_en (by show LEnc.dp α + 1 ≤ 60; omega) _ _)]
  simp only [Bool.false_eq_true, if_false]
  rw [h2]
  obtain ⟨l⟩ := s
  simp
theorem c_neH [DecidableEq α] [LEnc α] (h : LEnc.dp α ≤ 58) (t : Hd α) (s : Tu α) : copD .ne (en t) (en s) = some (en (!decide (t.l = s.l))) := by
  have h1 : eqOk (en t) (en s) = false := eqOk_nil _ _
  have h2 := c_ne (α := Tu α) (by show LEnc.dp α + 1 ≤ 60; omega) (Tu.mk t.l) s
  rw [copD_ne, if_neg (by rw [h1]; decide)]
  rw [copD_ne, if_pos (eqOk_en (by show LEnc.dp α + 1 ≤ 60; omega) _ _)] at h2
  unfold eqE
  rw [er_hd, er_en, if_pos (eqOk_en (by show LEnc.dp α + 1 ≤ 60; omega) _ _)]
  simp only [if_true]
  rw [h2]
  obtain ⟨l⟩ := s
  simp
/-- repr of data with marks: as of the data without -/
theorem rep_er {d : D} (h1 : showOk d = false) (h2 : showOk (er d) = true) : primD .repr [d] = some (.str (er d).shown) := by
  show (if showOk d = true then some (PyData.str d.shown) else if showOk (er d) = true then some (.str (er d).shown) else none) = _
  rw [if_neg (by rw [h1]; decide), if_pos h2]
end
end
local macro_rules
  | `(tactic| sizeOf_list_dec) => `(tactic| simp only [wbo_var, ar_var, bo_cst, bo_bin, bo_neg, bo_not, bo_and, bo_or, bo_cmp, bo_chain, bo_ife, bo_tup, bo_lst, bo_dnew, bo_idx, bo_slc, bo_rev, bo_call, bo_prim, bo_isi, bo_lc, bo_rg, sh_rt, sh_gd, sh_bd, ar_cst, ar_bin, ar_neg, ar_not, ar_and, ar_or, ar_cmp, ar_chain, ar_ife, ar_tup, ar_lst, ar_dnew, ar_idx, ar_slc, ar_rev, ar_call, ar_prim, ar_isi, ar_lc, ar_rg, e_var, e_cst, e_bin, e_neg, e_not, e_and, e_or, e_cmp, e_chain, e_ife, e_tup, e_lst, e_dnew, e_idx, e_slc, e_rev, e_call, e_prim, e_isi, e_lc, e_rg, wt_and, wt_or, wt_not, wt_e, vs_nil, vs_cons, vs_star, vb_nil, vb_cons, va_nil, va_cons, vo_no, vo_yes, vc_no, vc_yes, vi_val, vi_valf, vi_rng, vi_zip, vi_zipf, getD_0, getD_s, a_v, a_p, Option.bind_some, x_nil, x_cons, x_ite, exec, koF, parW, sets_n, sets_c, rt_ap, bd_ap, gd_ap, ite_ap, bd_rt, rt_bd, bd_bd, bd_gd, gd_gd, gd_true, bd_ite, ite_rt, ite_gd1, ite_gd2, lift_rt, b_and, b_and2, b_or, b_or2, ite_en, look_z, look_s, lookB_z, lookB_o, lookB_s, lookA_z, lookA_c, lookA_s, lookO_o, lookO_s, List.getElem?_cons_zero, List.getElem?_cons_succ, List.set_cons_zero, List.set_cons_succ, Bool.false_eq_true, if_false, if_true, wipeN_n, wipeN_c, free_n, free_c, nOwn_n, nOwn_s, nOwn_c, Bool.true_and, true_and, List.length_cons, List.length_nil, Nat.zero_add, Nat.reduceAdd, Nat.reduceLeDiff, sz, i_en, b_en, l_en, t_en, tl_en, p_en, l1_en, t1_en, snoc_en, app_en, isL_l, c_eq, c_ne, c_inL, c_inT, c_ninL, c_ninT, c_eqE, c_neE, c_eqU, c_neU, c_lt, c_gt, c_le, c_ge, dp_int, dp_bool, dp_unit, dp_list, dp_tu, dp_pair, Nat.max_self, tr_b, tr_i, tr_l, tr_t, o_add, o_sub, o_mul, o_div, o_mod, o_shl, o_shr, o_band, o_neg, o_addL, o_addT, mulB1, i01, x_list, x_tup, x_p0, x_p1, s_list, s_tup, r_list, lt_list, lt_tup, ls_list, q_lenL, q_lenT, q_tupL, q_tupT, q_listL, q_listT, q_all, q_any, q_sum, q_max, q_min, q_int, q_abs, g_rng, toI_en, lcW_en, lcM_all, lcM_if, lcM_gd, List.map_id', List.all_map, List.any_map, Bool.not_true, Bool.not_false, List.length_map, ii_and, ii_or, Option.getD_some, List.isEmpty_map, isEmpty_filterB, Function.comp_def, id_eq, bo_sset, ar_sset, e_sset, sset_en, ssetL_en, bo_meth, bo_disp, ar_meth, ar_disp, e_meth, e_disp, vp_nil, vp_cons, vi_enum, vi_enumf, vi_rng3, x_dct, c_inD, c_ninD, s_dct, isL_d, q_lenD, q_listD, d_int, d_tu, d_pair, enum_en, index_en, mOk_l, mOk_h, h1_en, bo_tupH, ar_tupH, e_tupH, index_hd, c_inH, c_ninH, lt_hd, q_tupH, q_lenH, q_listH, x_hd, od_1, od_2, false_implies, Bool.and_true, and_true, implies_true, forall_const, ite_some, s_lst, x_frz, frz_o, frz_h, frz_s, Option.getD_none, Int.one_mul, forW_en, gd_ff, sz_lt, List.append_nil, List.nil_append, Bool.not_not, t0_en, l0_en, e_dc, bo_dc, ar_dc, asgT, r_tup, r_pair, a_t3, bo_rev0, ar_rev0, e_rev0, r0_tup])
set_option maxHeartbeats 4000000
/-! K14a: the draws of this law. -/
section
open PySem L2 PySem.Spec PyProof.Rows
abbrev lawP : Program := PySem.Challenge.pw_eachorder_k14_whole_lots_at_a_time
def topS (i : Nat) : PySem.Stmt := lawP.main.body.getD i (.Pass ⟨0, 0, 0, 0⟩)
def pickN : List Str := ["source", "many", "left", "mixed"]
abbrev sPick : PySem.Stmt := topS 13
theorem scPick : fsB pickN (pickN.take 2) (defScope sPick) = true := by decide +kernel
section
variable {P : Program} {w : World} {K : PySem.W.Frag} {mg : Str → Option Value} {base : Heap}
theorem ok_pick {f : Addr} {fd : FuncData} {k : Nat} (F : Fun K "_law_pick" "_law_pick" sPick f fd) (hb : ∀ x ∈ bltNames, mg x = none) : FnOk P w K mg base CX0 (k + 1) f fd ["source", "many"] spPick := by
  refine F.ok (fsB_ok scPick) (fun vs H Q E h => ?_) (fun cdv A outer s H vs Q E hr h => ?_)
  · obtain ⟨c, l, m, _, rfl, _⟩ := h
    rfl
  · obtain ⟨c, l, m, hne, rfl, hm, hS, q⟩ := h
    have hu := hu_of hr
    have nd : pickN.Nodup := (fsB_ok scPick).nd
    have ml : mg "len" = none := hb _ (by simp [bltNames])
    have mm : mg "max" = none := hb _ (by simp [bltNames])
    have mi : mg "int" = none := hb _ (by simp [bltNames])
    refine ⟨_, pss_cons (ps_while PassesOwn.never (PW.pt (pw_and (pt_cmpR op_gt (pv 1) pe_int rfl) (pw_and (pt_cmpR op_lt (pe_dget hu (pv 0) pe_str (fun _ _ => rfl)) pe_int rfl) (pw_and1 (pt_cmpR op_gt (pe_callB call_len_seq (by rfl) ml PySem.boot_len (pa_cons (pe_dget hu (pv 0) pe_str (fun _ _ => rfl)) pa_nil)) pe_int rfl)))))
        (pss_one (ps_dput hu (pv 0) pe_str (pe_bm0 PySem.F.plainAttrs_list PySem.F.slot_list_pop PySem.F.type_list_pop mt_pop (pe_dget hu (pv 0) pe_str (fun _ _ => rfl))) rfl)))
      (pss_cons (ps_set (i := 2) nd rfl (.inl rfl) (pe_dget hu (pv 0) pe_str (fun _ _ => rfl)))
      (pss_cons (ps_if (PW.pt (pw_or (pt_cmpR op_lt (pv 1) pe_int rfl) (pw_or1 (pt_cmpR op_gt (pv 2) pe_int rfl))))
          (pss_cons (ps_dput hu (pv 0) pe_str (pe_op op_fdivN (pv 2) (pe_callB (call_max2 rfl) (by rfl) mm (by decide +kernel) (pa_cons pe_int (pa_cons (pv 1) pa_nil)))) rfl)
            (pss_one (ps_ret (pe_op op_mod (pe_callTy call_int1 (by rfl) mi (by decide +kernel) (pa_cons (pv 2) pa_nil)) (pe_callB (call_max2 rfl) (by rfl) mm (by decide +kernel) (pa_cons pe_int (pa_cons (pv 1) pa_nil)))))))
          pss_nil)
      (pss_cons (ps_dput hu (pv 0) pe_str (pe_op op_add (pe_dget hu (pv 0) pe_str (fun _ _ => rfl)) pe_int) rfl)
      (pss_cons (ps_set (i := 3) nd rfl (.inl rfl) (pe_op op_mod (pe_callTy call_int1 (by rfl) mi (by decide +kernel) (pa_cons (pe_op op_add (pe_dget hu (pv 0) pe_str (fun _ _ => rfl)) (pe_op op_mul (pe_dget hu (pv 0) pe_str (fun _ _ => rfl)) pe_int)) pa_nil)) pe_int))
      (pss_cons (ps_set (i := 3) nd rfl (.inl rfl) (pe_op op_mod (pe_callTy call_int1 (by rfl) mi (by decide +kernel) (pa_cons (pe_op op_add (pe_op op_mul (pv 3) (pv 3)) (pe_op op_mul (pe_dget hu (pv 0) pe_str (fun _ _ => rfl)) pe_int)) pa_nil)) pe_int))
      (pss_cons (ps_dput hu (pv 0) pe_str (pv 3) rfl)
      (pss_one (ps_ret (pe_op op_mod (pe_callTy call_int1 (by rfl) mi (by decide +kernel) (pa_cons (pe_op op_fdivN (pv 3) pe_int) pa_nil)) (pv 1)))))))))), ?_⟩
    have σ0 : (start pickN [V.ref c, V.int m]) = [some (.ref c), some (.int m), none, none] := rfl
    rw [σ0]
    have drw : ∀ {xs : List Int} {a b t : Int} {H' : Hp}, SrcH c l xs a b t H' → (∀ b, b ≠ c → b ≠ l → H' b = H b) → Drw c l H H' := fun h1 h2 => ⟨⟨_, _, _, _, h1⟩, h2⟩
    have fr : ∀ {H' : Hp} {o : HO}, (∀ b, b ≠ c → b ≠ l → H' b = H b) → ∀ b, b ≠ c → b ≠ l → (upd H' c o) b = H b := fun h2 b hb hl => by rw [upd_ne hb]; exact h2 b hb hl
    have frl : ∀ {H' : Hp} {o : HO}, (∀ b, b ≠ c → b ≠ l → H' b = H b) → ∀ b, b ≠ c → b ≠ l → (upd H' l o) b = H b := fun h2 b hb hl => by rw [upd_ne hl]; exact h2 b hb hl
    obtain ⟨xs0, a0, b0, t0, h0⟩ := hS
    refine ⟨fun n σ H' => σ = [some (.ref c), some (.int m), none, none] ∧ ∃ xs a b t, xs.length = n ∧ SrcH c l xs a b t H' ∧ ∀ b, b ≠ c → b ≠ l → H' b = H b, ⟨_, rfl, xs0, a0, b0, t0, rfl, h0, fun _ _ _ => rfl⟩, ?_⟩
    rintro n σ H1 ⟨rfl, xs, a, b, t, rfl, h1, f1⟩
    refine tt_use (fun bb => bb = true → xs ≠ []) (fun Qf hq => ?_) (fun bb hbb => ?_)
    · refine ⟨.int m, rfl, m, 1, rfl, rfl, _, rfl, ite2 (fun _ => ?_) (fun _ => hq _ (fun z => nomatch z))⟩
      refine ⟨.ref c, rfl, c, _, rfl, h1.gl, a, 2, rfl, rfl, _, rfl, ite2 (fun _ => ?_) (fun _ => hq _ (fun z => nomatch z))⟩
      refine ⟨.ref c, rfl, c, _, rfl, h1.gc, l, _, rfl, .inl (SqL.of h1.l), _, 0, rfl, rfl, _, rfl, hq _ fun z e => ?_⟩
      subst e
      exact absurd z (by decide)
    · refine ite2 (fun z => ?_) (fun _ => ?_)
      · have hx := hbb z
        obtain ⟨ys, y, rfl⟩ : ∃ ys y, xs = ys ++ [y] := ⟨xs.dropLast, xs.getLast hx, (List.dropLast_concat_getLast hx).symm⟩
        refine ⟨fun σ H' => σ = [some (.ref c), some (.int m), none, none] ∧ ∃ a b t, SrcH c l ys a b t H' ∧ ∀ b, b ≠ c → b ≠ l → H' b = H b, ?_, ?_⟩
        · rintro σ' H' ⟨rfl, a', b', t', h', f'⟩
          exact ⟨ys.length, by simp, rfl, ys, a', b', t', rfl, h', f'⟩
        · refine ⟨.ref c, rfl, c, _, rfl, h1.gc, .inl ⟨rfl, _, SqL.of h1.l⟩, l, _, .int y, rfl, rfl, h1.l, by simp, ?_⟩
          have h2 := h1.pop hne (ys := ys)
          have e : ((ys ++ [y]).map V.int).dropLast = ys.map V.int := by simp
          rw [e]
          refine ⟨.ref c, rfl, c, _, rfl, h2.pl (v := y), ?_⟩
          exact ⟨rfl, _, _, _, h2.new hne, fr (frl f1)⟩
      · refine ⟨.ref c, rfl, c, _, rfl, h1.gl, ?_⟩
        dsimp only [gName, tSeq, tIfS]
        refine tt_use (fun bb => bb = false → 1 < m) (fun Qf hq => ?_) (fun bb hbb => ?_)
        · refine ⟨.int m, rfl, m, 2, rfl, rfl, _, rfl, ite2 (fun _ => hq _ (fun z => nomatch z)) (fun z => ?_)⟩
          have hm2 : 1 < m := by
            have : ¬ m < 2 := fun w => z (decide_eq_true w)
            omega
          exact ⟨.int a, rfl, a, 1, rfl, rfl, _, rfl, hq _ fun _ => hm2⟩
        refine ite2 (fun z => ?_) (fun z => ?_)
        · have hmx : (if m > 1 then m else 1) = max 1 m := by
            rw [Int.max_def]; split <;> split <;> omega
          have hp : 0 < max 1 m := by omega
          have hn : CDivN a (max 1 m) := ⟨by omega, by omega⟩
          refine ⟨.int a, rfl, .int m, rfl, 1, m, rfl, a, _, rfl, rfl, by rw [hmx]; exact hn, .ref c, rfl, c, _, rfl, h1.pl, ?_⟩
          refine ⟨.int a, rfl, .inl ⟨a, rfl, .int m, rfl, 1, m, rfl, a, _, rfl, rfl, by rw [hmx]; exact hp, q _ ?_ ?_ _ (drw (h1.new hne) (fr f1))⟩⟩
          · rw [hmx]; exact Int.emod_nonneg _ (by omega)
          · rw [hmx]; exact Int.emod_lt_of_pos _ hp
        · have hm2 : 1 < m := hbb (by simpa using z)
          have h2 := h1.new hne (a := a) (b := b) (t := t + 1)
          refine ⟨.ref c, rfl, c, _, rfl, h1.gt, t, 1, rfl, rfl, .ref c, rfl, c, _, rfl, h1.pt, ?_⟩
          refine ⟨.ref c, rfl, c, _, rfl, h2.gm, .ref c, rfl, c, _, rfl, h2.gt, t + 1, 104729, rfl, rfl, .inr ⟨by decide, by decide⟩, b, _, rfl, rfl, .inl ⟨_, rfl, _, 998244353, rfl, rfl, (by decide : (0 : Int) < 998244353), ?_⟩⟩
          have k1 := Int.emod_nonneg (b + (t + 1) * 104729) (show (998244353 : Int) ≠ 0 by decide)
          have k2 := Int.emod_lt_of_pos (b + (t + 1) * 104729) (show (0 : Int) < 998244353 by decide)
          dsimp only [gName]
          generalize (b + (t + 1) * 104729) % 998244353 = M at k1 k2 ⊢
          refine ⟨.int M, rfl, .int M, rfl, M, M, rfl, rfl, .inl ⟨by omega, by omega⟩, .ref c, rfl, c, _, rfl, h2.gt, t + 1, 17, rfl, rfl, .inr ⟨by decide, by decide⟩, _, _, rfl, rfl, .inl ⟨_, rfl, _, 2147483647, rfl, rfl, (by decide : (0 : Int) < 2147483647), ?_⟩⟩
          dsimp only [gName]
          generalize (M * M + (t + 1) * 17) % 2147483647 = M2
          refine ⟨.int M2, rfl, .ref c, rfl, c, _, rfl, h2.pm, ?_⟩
          refine ⟨.int M2, rfl, M2, 16, rfl, rfl, ⟨by decide, by decide⟩, .inl ⟨_, rfl, .int m, rfl, _, m, rfl, rfl, by omega, q _ ?_ ?_ _ (drw (h2.new hne) (fr (fr f1)))⟩⟩
          · exact Int.emod_nonneg _ (by omega)
          · have := Int.emod_lt_of_pos (M2.fdiv 16) (show (0 : Int) < m by omega)
            omega
theorem sx : True := trivial
def sourceN : List Str := ["script", "mixed", "cell"]
abbrev sSource : PySem.Stmt := topS 12
theorem scSource : fsB sourceN (sourceN.take 1) (defScope sSource) = true := by decide +kernel
def lcScope (st : PySem.Stmt) (i : Nat) : Scope := match (defBody st).getD i (.Pass ⟨0, 0, 0, 0⟩) with
  | .Return (some (.Dict _ (.Subscript (.ListComp _ _ sc _) _ _ :: _) _)) _ => sc
  | .Assign _ (.ListComp _ _ sc _) _ => sc
  | _ => defScope st
theorem lcSource : blkC sourceN (defScope sSource) (lcScope sSource 2) [("cell", 2)] = true := by decide +kernel
theorem ok_source {f : Addr} {fd : FuncData} {k : Nat} (F : Fun K "_law_source" "_law_source" sSource f fd) (hb : ∀ x ∈ bltNames, mg x = none) : FnOk P w K mg base CX0 (k + 1) f fd ["script"] (spSource K) := by
  refine F.ok (fsB_ok scSource) (fun vs H Q E h => ?_) (fun cdv A outer s H vs Q E hr h => ?_)
  · obtain ⟨a, ns, rfl, _⟩ := h
    rfl
  · obtain ⟨a, ns, rfl, hl, hS, q⟩ := h
    have hu := hu_of hr
    have nd : sourceN.Nodup := (fsB_ok scSource).nd
    have mi : mg "int" = none := hb _ (by simp [bltNames])
    have ma : mg "abs" = none := hb _ (by simp [bltNames])
    refine ⟨_, pss_cons (ps_set (i := 1) nd rfl (.inl rfl) pe_int)
      (pss_cons (ps_for PassesOwn.never rfl (pi_list (pv 0)) (pg_name (i := 2) nd rfl (.inl rfl))
        (pss_one (ps_set (i := 1) nd rfl (.inl rfl) (pe_op op_mod (pe_callTy call_int1 (by rfl) mi (by decide +kernel) (pa_cons (pe_op op_add (pe_op op_add (pe_op op_mul (pv 1) pe_int) (pe_op op_mul (pv 2) pe_int)) pe_int) pa_nil)) pe_int))))
      (pss_one (ps_ret (pe_disp (pps_cons pe_str (pe_revL (pe_lc rfl nd (pi_list (pv 0)) (blkOk_by (N := sourceN) lcSource) (fun _ _ _ _ _ => pg_name (i := 2) nd rfl (.inl rfl)) (fun _ _ _ _ _ => pts_nil) (fun _ _ _ _ _ => pe_callB call_abs (by rfl) ma (by decide +kernel) (pa_cons (pv 2) pa_nil))))
        (pps_cons pe_str pe_int (pps_cons pe_str (pv 1) (pps_cons pe_str pe_int pps_nil)))) rfl rfl (by decide) (by decide))))), ?_⟩
    refine ⟨.ref a, rfl, a, rfl, ⟨_, hS⟩, fun i m σ H' => i ≤ ns.length ∧ m = ns.length - i ∧ H' = H ∧ ∃ x y, σ = [some (.ref a), some (.int x), y], ⟨_, Nat.zero_le _, rfl, rfl, 11, none, rfl⟩, ?_⟩
    rintro i m σ H' ⟨hi, rfl, rfl, x, y, rfl⟩
    by_cases h : i < ns.length
    · right
      have g : (ns.map V.int)[i]? = some (.int ns[i]) := by rw [List.getElem?_map, List.getElem?_eq_getElem h]; rfl
      refine ⟨⟨_, _, hS, g⟩, fun σ H1 => H1 = H' ∧ ∃ x y, σ = [some (.ref a), some (.int x), y], ?_, ?_⟩
      · rintro σ' H1 ⟨rfl, x, y, rfl⟩
        exact ⟨ns.length - (i + 1), by omega, h, rfl, rfl, x, y, rfl⟩
      · rintro v H1 ⟨rfl, hv⟩
        have ev : v = .int ns[i] := Option.some.inj ((hv _ hS).symm.trans g)
        subst ev
        exact ⟨.int x, rfl, x, 69069, rfl, rfl, .inr ⟨by decide, by decide⟩, .int ns[i], rfl, ns[i], 31, rfl, rfl, .inr ⟨by decide, by decide⟩, _, _, rfl, rfl, _, 5, rfl, rfl, .inl ⟨_, rfl, _, 2147483629, rfl, rfl, (by decide : (0 : Int) < 2147483629), rfl, _, _, rfl⟩⟩
    · left
      refine ⟨⟨_, hS, by rw [List.length_map]; omega⟩, ?_⟩
      exact disp_ok (i := 1) (j := 2) (by decide) rfl (by simp) rfl hS hl q
def mixedN : List Str := ["source", "things", "rest", "lap"]
abbrev sMixed : PySem.Stmt := topS 14
theorem scMixed : fsB mixedN (mixedN.take 2) (defScope sMixed) = true := by decide +kernel
def lcScope2 (st : PySem.Stmt) (i : Nat) : Scope := match (defBody st).getD i (.Pass ⟨0, 0, 0, 0⟩) with
  | .Return (some (.ListComp _ _ sc _)) _ => sc
  | _ => defScope st
def lcElt (st : PySem.Stmt) (i : Nat) : PySem.Expr := match (defBody st).getD i (.Pass ⟨0, 0, 0, 0⟩) with
  | .Return (some (.ListComp e _ _ _)) _ => e
  | _ => .Name "x" ⟨0, 0, 0, 0⟩
theorem lcMixed : blkC mixedN (defScope sMixed) (lcScope2 sMixed 1) [("lap", 3)] = true := by decide +kernel
theorem ok_mixed {f f1 : Addr} {fd fd1 : FuncData} {k : Nat} (F : Fun K "_law_mixed" "_law_mixed" sMixed f fd) (hb : ∀ x ∈ bltNames, mg x = none) (F1 : Fun K "_law_pick" "_law_pick" sPick f1 fd1) (b1 : Binds K fd1 ["source", "many"] []) (g1 : mg "_law_pick" = some (.ref f1)) : FnOk P w K mg base CX0 (k + 2) f fd ["source", "things"] spMixed := by
  have G1 : FnOk P w K mg base CX0 (k + 1) f1 fd1 ["source", "many"] spPick := ok_pick F1 hb
  refine F.ok (fsB_ok scMixed) (fun vs H Q E h => ?_) (fun cdv A outer s H vs Q E hr h => ?_)
  · obtain ⟨c, l, a, xs, _, _, _, rfl, _⟩ := h
    rfl
  · obtain ⟨c, l, a, xs, hne, hac, hal, rfl, hS, ha, hlen, q⟩ := h
    have hu := hu_of hr
    have nd : mixedN.Nodup := (fsB_ok scMixed).nd
    have ml : mg "len" = none := hb _ (by simp [bltNames])
    have mr : mg "range" = none := hb _ (by simp [bltNames])
    have mls : mg "list" = none := hb _ (by simp [bltNames])
    have el : ∀ s1 H1 C1 cl1 fp1, PE ((cxOf CX0 P w K mg base mixedN "_law_mixed" (defScope sMixed) f cdv A outer s H E).nox.blk s1 H1 (lcScope2 sMixed 1) (compEnvC (lcScope2 sMixed 1) cl1 C1 (cxOf CX0 P w K mg base mixedN "_law_mixed" (defScope sMixed) f cdv A outer s H E).nox.env) fp1) (lcElt sMixed 1)
        (tBM K "list" rPopAt (tVar 2) (tCons (tCall spPick [] E0 (tCons (tVar 0) (tCons (tCB (fun xs H Q => ∃ p ys, xs = [.ref p] ∧ (SqL K H p ys ∨ SqT K H p ys) ∧ Q (.int ys.length) H) (tCons (tVar 2) tNil)) tNil))) tNil)) := fun s1 H1 C1 cl1 fp1 =>
      pe_bm PySem.F.plainAttrs_list PySem.F.slot_list_pop PySem.F.type_list_pop mt_popAt (pv 2) (pa_cons (pe_call G1 hr (by rfl) g1 F1.kp b1 .nil pass0 (pa_cons (pv 0) (pa_cons (pe_callB call_len_seq (by rfl) ml PySem.boot_len (pa_cons (pv 2) pa_nil)) pa_nil))) pa_nil)
    refine ⟨_, pss_cons (ps_set (i := 2) nd rfl (.inr rfl) (pe_callTy call_list_of (by rfl) mls (by decide +kernel) (pa_cons (pv 1) pa_nil)))
      (pss_one (ps_ret (pe_lc rfl nd (pi_range1 (by rfl) mr (pa_cons (pe_callB call_len_seq (by rfl) ml PySem.boot_len (pa_cons (pv 2) pa_nil)) pa_nil)) (blkOk_by (N := mixedN) lcMixed) (fun _ _ _ _ _ => pg_name (i := 3) nd rfl (.inl rfl)) (fun _ _ _ _ _ => pts_nil)
        el))), ?_⟩
    refine ⟨.ref a, rfl, a, xs, rfl, .inl (SqL.of ha), fun r hr => ?_⟩
    obtain ⟨xs0, a0, b0, t0, h0⟩ := hS
    have rc : r ≠ c := fun e => by rw [e, h0.d] at hr; cases hr
    have rl : r ≠ l := fun e => by rw [e, h0.l] at hr; cases hr
    have z1 : (1000 : Nat) < sizeLine := by decide
    refine ⟨.ref r, rfl, r, xs, rfl, .inl (SqL.of upd_same), xs.length, rfl, by omega, by omega, fun D hD => ?_⟩
    have Dr : D ≠ r := fun e => by rw [e, upd_same] at hD; cases hD
    have hDH : H D = none := by rw [upd_ne Dr] at hD; exact hD
    have Dc : D ≠ c := fun e => by rw [e, h0.d] at hDH; cases hDH
    have Dl : D ≠ l := fun e => by rw [e, h0.l] at hDH; cases hDH
    refine ⟨fun i m H' => ∃ acc rem, i ≤ xs.length ∧ m = xs.length - i ∧ H' D = some (.lst acc) ∧ H' r = some (.lst rem) ∧ acc.length = i ∧ rem.length = xs.length - i ∧ (acc ++ rem).Perm xs ∧ SrcI c l H' ∧ ∀ b o, b ≠ c → b ≠ l → H b = some o → H' b = some o,
      ⟨_, [], xs, Nat.zero_le _, rfl, upd_same, by rw [upd_ne (Ne.symm Dr), upd_same], rfl, by simp, .refl _, ⟨xs0, a0, b0, t0, ?_, ?_⟩, fun b o _ _ e => ?_⟩, ?_⟩
    · rw [upd_ne (Ne.symm Dc), upd_ne (Ne.symm rc)]; exact h0.d
    · rw [upd_ne (Ne.symm Dl), upd_ne (Ne.symm rl)]; exact h0.l
    · rw [upd_ne (ne_of_none e hDH), upd_ne (ne_of_none e hr)]; exact e
    rintro i m H1 ⟨acc, rem, hi, rfl, hA, hR, la, lr, hp, hS, hx⟩
    by_cases h : i < xs.length
    · right
      refine ⟨by show i < ((xs.length : Int)).toNat; omega, fun H' => ∃ acc rem, H' D = some (.lst acc) ∧ H' r = some (.lst rem) ∧ acc.length = i + 1 ∧ rem.length = xs.length - (i + 1) ∧ (acc ++ rem).Perm xs ∧ SrcI c l H' ∧ ∀ b o, b ≠ c → b ≠ l → H b = some o → H' b = some o, ?_, ?_⟩
      · rintro H' ⟨acc, rem, q1, q2, q3, q4, q5, q6, q7⟩
        exact ⟨xs.length - (i + 1), by omega, acc, rem, h, rfl, q1, q2, q3, q4, q5, q6, q7⟩
      · rintro x H2 ⟨rfl, rfl⟩
        refine ⟨rfl, ?_⟩
        dsimp only [tYes]
        refine ite2 (fun _ => ?_) (fun z => absurd rfl z)
        refine ⟨.ref r, rfl, tyV_list hR, .ref c, rfl, .ref r, rfl, r, rem, rfl, .inl (SqL.of hR), c, l, _, hne, rfl, by omega, hS, fun j j1 j2 H4 dr => ?_⟩
        have j3 : j < rem.length := by omega
        obtain ⟨k, rfl⟩ := Int.eq_ofNat_of_zero_le j1
        have k3 : k < rem.length := by omega
        have hR4 : H4 r = some (.lst rem) := by rw [dr.2 r rc rl]; exact hR
        have hA4 : H4 D = some (.lst acc) := by rw [dr.2 D Dc Dl]; exact hA
        refine ⟨r, rem, k, k, rem[k], rfl, rfl, hR4, by omega, by omega, ?_, List.getElem?_eq_getElem k3, ?_⟩
        · have := seqIndex_of (k := (k : Int)) (n := rem.length) (by omega) (by omega)
          rwa [Int.toNat_natCast] at this
        · have pe : (rem[k] :: rem.eraseIdx k).Perm rem := erase_perm k3
          obtain ⟨xs1, a1, b1, t1, h1⟩ := dr.1
          refine ⟨acc, by rw [upd_ne Dr]; exact hA4, by omega, acc ++ [rem[k]], rem.eraseIdx k, upd_same, by rw [upd_ne (Ne.symm Dr), upd_same], by simp [la], ?_, ?_, ⟨xs1, a1, b1, t1, ?_, ?_⟩, fun b o n1 n2 e => ?_⟩
          · rw [List.length_eraseIdx, if_pos k3]; omega
          · rw [List.append_assoc]
            exact ((List.Perm.append_left acc pe).trans hp)
          · rw [upd_ne (Ne.symm Dc), upd_ne (Ne.symm rc)]; exact h1.d
          · rw [upd_ne (Ne.symm Dl), upd_ne (Ne.symm rl)]; exact h1.l
          · rw [upd_ne (ne_of_none e hDH), upd_ne (ne_of_none e hr), dr.2 b n1 n2]; exact hx b o n1 n2 e
    · left
      refine ⟨by show ((xs.length : Int)).toNat ≤ i; omega, ?_⟩
      have : rem = [] := List.eq_nil_of_length_eq_zero (by omega)
      subst this
      rw [List.append_nil] at hp
      exact q acc D H1 hp hDH hA hS hx
end
end
set_option maxHeartbeats 4000000
/-! K14b: the compact forms of the defs. -/
section
open PySem L2
def b0 : Ss := (.cons (.ret (.prim .tuple (.cons (.lc [2] (.v 2) (.rng .no (.idx (.var 0) (.cst (.int 0)))) (.yes (.e (.cmp .inn (.tup (.cons (.var 2) (.cons (.var 1) .nil))) (.idx (.var 0) (.cst (.int 1)))))) (.var 2)) .nil))) .nil)
/-- earlier_lot: 0:order 1:work 2:a -/
def r0 : Row := ⟨"earlier_lot", topS 1, ["order", "work", "a"], .code 2 3 b0⟩
def b1_0 : Ss := (.cons (.app 1 (.tup (.cons (.var 4) (.cons (.var 5) (.cons (.var 6) (.cons (.var 7) .nil)))))) .nil)
def b1_1 : Ss := (.cons (.ite (.and (.e (.cmp .nin (.tup (.cons (.var 4) (.cons (.var 7) .nil))) (.var 3))) (.e (.cmp .nin (.tup (.cons (.var 6) (.cons (.var 5) .nil))) (.var 3)))) b1_0 .nil) .nil)
def b1_2 : Ss := (.cons (.for_ (.tup [(.v 6), (.v 7)]) (.val (.var 3)) b1_1) .nil)
def b1 : Ss := (.cons (.asg (.tup [(.v 2), (.v 3)]) (.var 0)) (.cons (.set true 1 (.lst .nil)) (.cons (.for_ (.tup [(.v 4), (.v 5)]) (.val (.var 3)) b1_2) (.cons (.ret (.prim .tuple (.cons (.var 1) .nil))) .nil))))
/-- side_pairs: 0:order 1:found 2:n 3:pairs 4:a 5:b 6:c 7:d -/
def r1 : Row := ⟨"side_pairs", topS 2, ["order", "found", "n", "pairs", "a", "b", "c", "d"], .code 1 8 b1⟩
def b2 : Ss := (.cons (.ret (.cmp .eq (.call 1 (.cons (.var 0) .nil)) (.tup .nil))) .nil)
/-- has_times: 0:order -/
def r2 : Row := ⟨"has_times", topS 3, ["order"], .code 1 1 b2⟩
def b3_0 : Ss := (.cons (.set false 5 (.lc [7, 6] (.tup [(.v 7), (.v 6)]) (.enum (.var 2)) (.yes (.e (.cmp .inn (.var 4) (.var 6)))) (.var 7))) (.cons (.app 3 (.tup (.cons (.meth .index (.var 2) (.cons (.idx (.var 1) (.var 4)) .nil)) (.cons (.ife (.e (.cmp .ne (.var 5) (.lst .nil))) (.bin .sub (.idx (.var 5) (.cst (.int 0))) (.cst (.int 1))) (.bin .sub (.prim .len (.cons (.var 2) .nil)) (.cst (.int 1)))) .nil)))) .nil))
def b3_1 : Ss := (.cons (.set false 1 (.lc [4] (.v 4) (.rng .no (.idx (.var 0) (.cst (.int 0)))) .no (.call 0 (.cons (.var 0) (.cons (.var 4) .nil))))) (.cons (.set false 2 (.srt (.prim .dictOf (.cons (.lc [6] (.v 6) (.val (.var 1)) .no (.tup (.cons (.var 6) (.cons (.cst (.bool true)) .nil)))) .nil)) 0 .dead)) (.cons (.set true 3 (.lst .nil)) (.cons (.for_ (.v 4) (.rng .no (.idx (.var 0) (.cst (.int 0)))) b3_0) (.cons (.ret (.prim .tuple (.cons (.var 3) .nil))) .nil)))))
def b3 : Ss := (.cons (.ite (.not (.e (.call 2 (.cons (.var 0) .nil)))) (.cons (.ret (.cst .none)) .nil) .nil) b3_1)
/-- least_times: 0:order 1:mine 2:lots 3:found 4:work 5:late 6:lot 7:i -/
def r3 : Row := ⟨"least_times", topS 4, ["order", "mine", "lots", "found", "work", "late", "lot", "i"], .code 1 8 b3⟩
def b4 : Ss := (.cons (.set false 1 (.call 3 (.cons (.var 0) .nil))) (.cons (.ret (.ife (.e (.cmp .is (.var 1) (.cst .none))) (.cst .none) (.bin .add (.cst (.int 1)) (.prim .max (.cons (.lc [2, 3] (.tup [(.v 2), (.v 3)]) (.val (.var 1)) .no (.var 3)) .nil))))) .nil))
/-- span_of: 0:order 1:times 2:begin 3:end -/
def r4 : Row := ⟨"span_of", topS 5, ["order", "times", "begin", "end"], .code 1 4 b4⟩
def b5 : Ss := (.cons (.ret (.prim .tuple (.cons (.lc [2, 3, 4] (.tup [(.v 2), (.tup [(.v 3), (.v 4)])]) (.enum (.var 0)) (.yes (.e (.chain .le .le (.var 3) (.var 1) (.var 4)))) (.var 2)) .nil))) .nil)
/-- lot_at: 0:times 1:i 2:work 3:begin 4:end -/
def r5 : Row := ⟨"lot_at", topS 7, ["times", "i", "work", "begin", "end"], .code 2 5 b5⟩
def b6 : Ss := (.cons (.set false 1 (.call 3 (.cons (.var 0) .nil))) (.cons (.ret (.prim .tuple (.cons (.lc [2] (.v 2) (.rng .no (.bin .add (.cst (.int 1)) (.prim .max (.cons (.lc [3, 4] (.tup [(.v 3), (.v 4)]) (.val (.var 1)) .no (.var 4)) .nil)))) .no (.call 5 (.cons (.var 1) (.cons (.var 2) .nil)))) .nil))) .nil))
/-- unordered_lots: 0:order 1:times 2:i 3:begin 4:end -/
def r6 : Row := ⟨"unordered_lots", topS 8, ["order", "times", "i", "begin", "end"], .code 1 5 b6⟩
def b7 : Ss := (.cons (.ret (.tup (.cons (.prim .len (.cons (.var 1) .nil)) (.cons (.prim .tuple (.cons (.lc [2, 3] (.tup [(.v 2), (.v 3)]) (.val (.idx (.var 0) (.cst (.int 1)))) (.yes (.and (.e (.cmp .inn (.var 2) (.var 1))) (.e (.cmp .inn (.var 3) (.var 1))))) (.tup (.cons (.meth .index (.var 1) (.cons (.var 2) .nil)) (.cons (.meth .index (.var 1) (.cons (.var 3) .nil)) .nil)))) .nil)) .nil)))) .nil)
/-- part_on: 0:order 1:lot 2:a 3:b -/
def r7 : Row := ⟨"part_on", topS 9, ["order", "lot", "a", "b"], .code 2 4 b7⟩
def b8 : Ss := (.cons (.ret (.tup (.cons (.idx (.var 0) (.cst (.int 0))) (.cons (.prim .tuple (.cons (.prim .sorted (.cons (.lc [1, 2] (.tup [(.v 1), (.v 2)]) (.val (.idx (.var 0) (.cst (.int 1)))) .no (.tup (.cons (.var 2) (.cons (.var 1) .nil)))) .nil)) .nil)) .nil)))) .nil)
/-- mirrored_order: 0:order 1:a 2:b -/
def r8 : Row := ⟨"mirrored_order", topS 10, ["order", "a", "b"], .code 1 3 b8⟩
def r9 : Row := ⟨"_law_pick", topS 13, ["source", "many", "left", "mixed"], .ext 2 semPick⟩
def r10 : Row := ⟨"_law_mixed", topS 14, ["source", "things", "rest", "lap"], .ext 2 semMixed⟩
def b11_0 : Ss := (.cons (.seti 2 (.tup (.cons (.var 4) (.cons (.var 5) .nil))) (.cst (.int 0))) .nil)
def b11_1 : Ss := (.cons (.ite (.and (.e (.cmp .inn (.tup (.cons (.var 4) (.cons (.var 3) .nil))) (.var 2))) (.e (.cmp .inn (.tup (.cons (.var 3) (.cons (.var 5) .nil))) (.var 2)))) b11_0 .nil) .nil)
def b11_2 : Ss := (.cons (.for_ (.v 4) (.rng .no (.var 0)) (.cons (.for_ (.v 5) (.rng .no (.var 0)) b11_1) .nil)) .nil)
def b11_3 : Ss := (.cons (.ret (.prim .tuple (.cons (.prim .sorted (.cons (.var 2) .nil)) .nil))) .nil)
def b11 : Ss := (.cons (.set true 2 (.prim .dictOf (.cons (.lc [6] (.v 6) (.val (.var 1)) .no (.tup (.cons (.var 6) (.cons (.cst (.int 0)) .nil)))) .nil))) (.cons (.for_ (.v 3) (.rng .no (.var 0)) b11_2) b11_3))
/-- _law_closed: 0:n 1:pairs 2:found 3:k 4:a 5:b 6:pair -/
def r11 : Row := ⟨"_law_closed", topS 15, ["n", "pairs", "found", "k", "a", "b", "pair"], .code 2 7 b11⟩
def b12_0 : Ss := (.cons (.set false 1 (.bin .add (.var 1) (.lc [3] (.v 3) (.rng .no (.prim .len (.cons (.var 0) .nil))) (.yes (.e (.cmp .lt (.idx (.idx (.var 0) (.var 2)) (.cst (.int 1))) (.idx (.idx (.var 0) (.var 3)) (.cst (.int 0)))))) (.tup (.cons (.var 2) (.cons (.var 3) .nil)))))) .nil)
def b12_1 : Ss := (.cons (.ret (.tup (.cons (.prim .len (.cons (.var 0) .nil)) (.cons (.prim .tuple (.cons (.var 1) .nil)) .nil)))) .nil)
def b12 : Ss := (.cons (.set false 1 (.lst .nil)) (.cons (.for_ (.v 2) (.rng .no (.prim .len (.cons (.var 0) .nil))) b12_0) b12_1))
/-- _law_by_times: 0:times 1:found 2:a 3:b -/
def r12 : Row := ⟨"_law_by_times", topS 16, ["times", "found", "a", "b"], .code 1 4 b12⟩
def b13_0 : Ss := (.cons (.set false 8 (.bin .add (.var 8) (.lc [15] (.v 15) (.val (.slc (.var 6) (.yes (.bin .add (.var 9) (.cst (.int 1)))) .no)) (.yes (.e (.cmp .lt (.call 9 (.cons (.var 0) (.cons (.cst (.int 7)) .nil))) (.var 7)))) (.tup (.cons (.idx (.var 6) (.var 9)) (.cons (.var 15) .nil)))))) .nil)
def b13_1 : Ss := (.cons (.ret (.tup (.cons (.var 4) (.cons (.call 11 (.cons (.var 4) (.cons (.var 8) .nil))) .nil)))) .nil)
def b13_2 : Ss := (.cons (.set false 8 (.lst .nil)) (.cons (.for_ (.v 9) (.rng .no (.var 4)) b13_0) b13_1))
def b13_3 : Ss := (.cons (.set false 12 (.call 9 (.cons (.var 0) (.cons (.var 10) .nil)))) (.cons (.app 11 (.tup (.cons (.var 12) (.cons (.bin .add (.var 12) (.ife (.e (.cmp .eq (.var 5) (.cst (.int 2)))) (.var 7) (.call 9 (.cons (.var 0) (.cons (.bin .add (.cst (.int 1)) (.var 7)) .nil))))) .nil)))) .nil))
def b13_4 : Ss := (.cons (.set false 3 (.tup (.cons (.var 4) (.cons (.call 11 (.cons (.var 4) (.cons (.bin .add (.idx (.var 3) (.cst (.int 1))) (.tup (.cons (.tup (.cons (.var 13) (.cons (.var 14) .nil))) .nil))) .nil))) .nil)))) .nil)
def b13_5 : Ss := (.cons (.asg (.tup [(.v 13), (.v 14)]) (.slc (.call 10 (.cons (.var 0) (.cons (.rg false .no (.var 4)) .nil))) .no (.yes (.cst (.int 2))))) (.cons (.ite (.e (.cmp .nin (.tup (.cons (.var 14) (.cons (.var 13) .nil))) (.idx (.var 3) (.cst (.int 1))))) b13_4 .nil) .nil))
def b13_6 : Ss := (.frz 11 (.cons (.set false 3 (.call 12 (.cons (.var 11) .nil))) (.cons (.ite (.and (.e (.cmp .eq (.var 5) (.cst (.int 4)))) (.e (.cmp .gt (.var 4) (.cst (.int 1))))) b13_5 .nil) (.cons (.ret (.var 3)) .nil))))
def b13_7 : Ss := (.cons (.par [(false, 10), (true, 11)] (.cons (.bin .add (.cst (.int 2)) (.call 9 (.cons (.var 0) (.cons (.bin .mul (.cst (.int 2)) (.var 4)) .nil)))) (.cons (.lst .nil) .nil))) (.cons (.for_ (.v 2) (.rng .no (.var 4)) b13_3) b13_6))
def b13 : Ss := (.cons (.par [(false, 4), (false, 5)] (.cons (.bin .add (.cst (.int 1)) (.call 9 (.cons (.var 0) (.cons (.var 1) .nil)))) (.cons (.call 9 (.cons (.var 0) (.cons (.cst (.int 5)) .nil))) .nil))) (.cons (.par [(false, 6), (false, 7)] (.cons (.call 10 (.cons (.var 0) (.cons (.rg false .no (.var 4)) .nil))) (.cons (.bin .add (.cst (.int 1)) (.call 9 (.cons (.var 0) (.cons (.cst (.int 5)) .nil)))) .nil))) (.cons (.ite (.e (.cmp .lt (.var 5) (.cst (.int 2)))) b13_2 .nil) b13_7)))
/-- _law_order: 0:source 1:most 2:work 3:order 4:n 5:road 6:names 7:share 8:pairs 9:k 10:wide 11:times 12:begin 13:a 14:b 15:late -/
def r13 : Row := ⟨"_law_order", topS 17, ["source", "most", "work", "order", "n", "road", "names", "share", "pairs", "k", "wide", "times", "begin", "a", "b", "late"], .code 2 16 b13⟩
def b14_0 : Ss := (.cons (.set false 1 (.bin .add (.var 1) (.lc [6, 7] (.tup [(.v 6), (.v 7)]) (.val (.var 3)) (.yes (.and (.e (.cmp .nin (.tup (.cons (.var 4) (.cons (.var 7) .nil))) (.var 3))) (.e (.cmp .nin (.tup (.cons (.var 6) (.cons (.var 5) .nil))) (.var 3))))) (.tup (.cons (.var 4) (.cons (.var 5) (.cons (.var 6) (.cons (.var 7) .nil)))))))) .nil)
def b14 : Ss := (.cons (.asg (.tup [(.v 2), (.v 3)]) (.var 0)) (.cons (.set false 1 (.lst .nil)) (.cons (.for_ (.tup [(.v 4), (.v 5)]) (.val (.var 3)) b14_0) (.cons (.ret (.var 1)) .nil))))
/-- _law_side_pairs: 0:order 1:found 2:n 3:pairs 4:a 5:b 6:c 7:d -/
def r14 : Row := ⟨"_law_side_pairs", topS 18, ["order", "found", "n", "pairs", "a", "b", "c", "d"], .code 1 8 b14⟩
def b15_0 : Ss := (.cons (.seti 3 (.var 8) (.prim .max (.cons (.idx (.var 3) (.var 8)) (.cons (.bin .add (.idx (.var 4) (.var 7)) (.cst (.int 1))) .nil)))) .nil)
def b15_1 : Ss := (.cons (.seti 4 (.var 7) (.prim .max (.cons (.idx (.var 4) (.var 7)) (.cons (.idx (.var 3) (.var 8)) .nil)))) .nil)
def b15_2 : Ss := (.cons (.ite (.e (.cmp .inn (.tup (.cons (.var 7) (.cons (.var 8) .nil))) (.var 2))) b15_0 b15_1) .nil)
def b15_3 : Ss := (.cons (.set false 5 (.cmp .ne (.repl [3, 4]) (.var 6))) .nil)
def b15_4 : Ss := (.cons (.set false 6 (.repl [3, 4])) (.cons (.for_ (.v 7) (.rng .no (.var 1)) (.cons (.for_ (.v 8) (.rng .no (.var 1)) b15_2) .nil)) b15_3))
def b15_5 : Ss := (.cons (.ret (.prim .tuple (.cons (.lc [9] (.v 9) (.rng .no (.var 1)) .no (.tup (.cons (.idx (.var 3) (.var 9)) (.cons (.idx (.var 4) (.var 9)) .nil)))) .nil))) .nil)
def b15 : Ss := (.cons (.asg (.tup [(.v 1), (.v 2)]) (.var 0)) (.cons (.par [(true, 3), (true, 4), (false, 5)] (.cons (.bin .mul (.lst (.cons (.cst (.int 0)) .nil)) (.var 1)) (.cons (.bin .mul (.lst (.cons (.cst (.int 0)) .nil)) (.var 1)) (.cons (.cst (.bool true)) .nil)))) (.cons (.whl (.e (.var 5)) b15_4) b15_5)))
/-- _law_least: 0:order 1:n 2:pairs 3:begins 4:ends 5:more 6:kept 7:a 8:b 9:work -/
def r15 : Row := ⟨"_law_least", topS 19, ["order", "n", "pairs", "begins", "ends", "more", "kept", "a", "b", "work"], .code 1 10 b15⟩
def b16_0 : Ss := (.cons (.set false 5 (.lc [8] (.v 8) (.rng .no (.var 2)) (.yes (.or (.e (.cmp .inn (.tup (.cons (.var 8) (.cons (.var 2) .nil))) (.idx (.var 0) (.cst (.int 1))))) (.e (.cmp .inn (.tup (.cons (.var 2) (.cons (.var 8) .nil))) (.idx (.var 0) (.cst (.int 1))))))) (.var 8))) (.cons (.set false 1 (.bin .add (.var 1) (.lc [4] (.v 4) (.val (.var 1)) (.yes (.e (.cmp .eq (.lc [8] (.v 8) (.val (.var 4)) (.yes (.e (.cmp .inn (.var 8) (.var 5)))) (.var 8)) (.lst .nil)))) (.bin .add (.var 4) (.tup (.cons (.var 2) .nil)))))) .nil))
def b16_1 : Ss := (.cons (.set false 7 (.lc [8] (.v 8) (.val (.var 4)) (.yes (.or (.e (.cmp .inn (.tup (.cons (.var 8) (.cons (.var 2) .nil))) (.idx (.var 0) (.cst (.int 1))))) (.e (.cmp .inn (.tup (.cons (.var 2) (.cons (.var 8) .nil))) (.idx (.var 0) (.cst (.int 1))))))) (.var 8))) (.cons (.set false 6 (.bin .add (.var 6) (.bin .mul (.lst (.cons (.var 2) .nil)) (.prim .int (.cons (.cmp .eq (.var 7) (.lst .nil)) .nil))))) .nil))
def b16_2 : Ss := (.cons (.set false 3 (.bin .add (.var 3) (.bin .mul (.lst (.cons (.var 4) .nil)) (.prim .int (.cons (.cmp .eq (.var 6) (.lst .nil)) .nil))))) .nil)
def b16_3 : Ss := (.cons (.set false 6 (.lst .nil)) (.cons (.for_ (.v 2) (.val (.lc [2] (.v 2) (.rng .no (.idx (.var 0) (.cst (.int 0)))) (.yes (.e (.cmp .nin (.var 2) (.var 4)))) (.var 2))) b16_1) b16_2))
def b16_4 : Ss := (.cons (.set false 3 (.lst .nil)) (.cons (.for_ (.v 4) (.val (.var 1)) b16_3) (.cons (.ret (.var 3)) .nil)))
def b16 : Ss := (.cons (.set false 1 (.lst (.cons (.tup .nil) .nil))) (.cons (.for_ (.v 2) (.rng .no (.idx (.var 0) (.cst (.int 0)))) b16_0) b16_4))
/-- _law_unordered: 0:order 1:lots 2:work 3:found 4:lot 5:near 6:more 7:bad 8:one -/
def r16 : Row := ⟨"_law_unordered", topS 20, ["order", "lots", "work", "found", "lot", "near", "more", "bad", "one"], .code 1 9 b16⟩
def rows : List Row := [r0, r1, r2, r3, r4, r5, r6, r7, r8, r9, r10, r11, r12, r13, r14, r15, r16]
def lawN : List Str := ["script", "source", "lap", "order", "many", "lots", "i", "times", "here", "lot", "part", "late", "other", "n", "kept", "due", "work", "k", "begin", "end", "a", "b"]
/-- law: 0:script 1:source 2:lap 3:order 4:many 5:lots 6:i 7:times 8:here 9:lot 10:part 11:late 12:other 13:n 14:kept 15:due 16:work 17:k 18:begin 19:end 20:a 21:b -/
def lawB_0 : Ss := (.cons (.set false 3 (.call 12 (.cons (.lc [17] (.v 17) (.rng .no (.idx (.var 3) (.cst (.int 0)))) .no (.tup (.cons (.var 17) (.cons (.bin .add (.var 17) (.call 9 (.cons (.var 1) (.cons (.cst (.int 4)) .nil)))) .nil)))) .nil))) .nil)
def lawB_1 : Ss := (.cons (.ite (.e (.cmp .ne (.prim .repr (.cons (.var 3) .nil)) (.var 14))) (.cons (.ret (.cst (.bool false))) .nil) .nil) .nil)
def lawB_2 : Ss := (.cons (.ite (.e (.cmp .ne (.prim .repr (.cons (.call 3 (.cons (.var 12) .nil)) .nil)) (.prim .repr (.cons (.prim .tuple (.cons (.lc [18, 19] (.tup [(.v 18), (.v 19)]) (.val (.var 15)) .no (.tup (.cons (.bin .sub (.bin .sub (.var 4) (.cst (.int 1))) (.var 19)) (.cons (.bin .sub (.bin .sub (.var 4) (.cst (.int 1))) (.var 18)) .nil)))) .nil)) .nil)))) (.cons (.ret (.cst (.bool false))) .nil) .nil) lawB_1)
def lawB_3 : Ss := (.cons (.set false 12 (.call 8 (.cons (.var 3) .nil))) (.cons (.ite (.or (.e (.cmp .ne (.prim .repr (.cons (.var 12) .nil)) (.prim .repr (.cons (.tup (.cons (.var 13) (.cons (.prim .tuple (.cons (.prim .sorted (.cons (.lc [20, 21] (.tup [(.v 20), (.v 21)]) (.val (.idx (.var 3) (.cst (.int 1)))) .no (.tup (.cons (.var 21) (.cons (.var 20) .nil)))) .nil)) .nil)) .nil))) .nil)))) (.e (.cmp .ne (.call 4 (.cons (.var 12) .nil)) (.var 4)))) (.cons (.ret (.cst (.bool false))) .nil) .nil) lawB_2))
def lawB_4 : Ss := (.cons (.ite (.e (.cmp .ne (.lc [17, 16] (.tup [(.v 17), (.v 16)]) (.enum (.var 9)) (.yes (.or (.e (.cmp .gt (.idx (.idx (.var 11) (.var 17)) (.cst (.int 0))) (.idx (.idx (.var 15) (.var 16)) (.cst (.int 0))))) (.e (.cmp .gt (.idx (.idx (.var 11) (.var 17)) (.cst (.int 1))) (.idx (.idx (.var 15) (.var 16)) (.cst (.int 1))))))) (.var 17)) (.lst .nil))) (.cons (.ret (.cst (.bool false))) .nil) .nil) lawB_3)
def lawB_5 : Ss := (.cons (.set false 9 (.prim .tupleH (.cons (.lc [16] (.v 16) (.rng .no (.var 13)) (.yes (.e (.cmp .gt (.call 9 (.cons (.var 1) (.cons (.cst (.int 3)) .nil))) (.cst (.int 0))))) (.var 16)) .nil))) (.cons (.set false 9 (.ife (.e (.cmp .ne (.var 9) (.tup .nil))) (.var 9) (.tupH (.cons (.call 9 (.cons (.var 1) (.cons (.var 13) .nil))) .nil)))) (.cons (.set false 10 (.tup (.cons (.prim .len (.cons (.var 9) .nil)) (.cons (.prim .tuple (.cons (.lc [20, 21] (.tup [(.v 20), (.v 21)]) (.val (.idx (.var 3) (.cst (.int 1)))) (.yes (.and (.e (.cmp .inn (.var 20) (.var 9))) (.e (.cmp .inn (.var 21) (.var 9))))) (.tup (.cons (.meth .index (.var 9) (.cons (.var 20) .nil)) (.cons (.meth .index (.var 9) (.cons (.var 21) .nil)) .nil)))) .nil)) .nil)))) (.cons (.set false 11 (.call 3 (.cons (.call 7 (.cons (.var 3) (.cons (.var 9) .nil))) .nil))) (.cons (.ite (.or (.e (.cmp .ne (.prim .repr (.cons (.call 7 (.cons (.var 3) (.cons (.var 9) .nil))) .nil)) (.prim .repr (.cons (.var 10) .nil)))) (.e (.cmp .ne (.prim .repr (.cons (.var 11) .nil)) (.prim .repr (.cons (.call 15 (.cons (.var 10) .nil)) .nil))))) (.cons (.ret (.cst (.bool false))) .nil) .nil) lawB_4)))))
def lawB_6 : Ss := (.cons (.set false 6 (.bin .sub (.call 9 (.cons (.var 1) (.cons (.bin .add (.var 4) (.cst (.int 4))) .nil))) (.cst (.int 2)))) (.cons (.set false 7 (.prim .tuple (.cons (.lc [18, 19] (.tup [(.v 18), (.v 19)]) (.val (.var 15)) .no (.tup (.cons (.bin .sub (.var 18) (.cst (.int 1))) (.cons (.bin .add (.var 19) (.call 9 (.cons (.var 1) (.cons (.cst (.int 2)) .nil)))) .nil)))) .nil))) (.cons (.set false 8 (.prim .tuple (.cons (.lc [16] (.v 16) (.rng .no (.var 13)) (.yes (.e (.chain .le .le (.idx (.idx (.var 7) (.var 16)) (.cst (.int 0))) (.var 6) (.idx (.idx (.var 7) (.var 16)) (.cst (.int 1)))))) (.var 16)) .nil))) (.cons (.ite (.e (.cmp .ne (.prim .repr (.cons (.call 5 (.cons (.var 7) (.cons (.var 6) .nil))) .nil)) (.prim .repr (.cons (.var 8) .nil)))) (.cons (.ret (.cst (.bool false))) .nil) .nil) lawB_5))))
def lawB_7 : Ss := (.cons (.par [(false, 13), (false, 14), (false, 15)] (.cons (.idx (.var 3) (.cst (.int 0))) (.cons (.prim .repr (.cons (.var 3) .nil)) (.cons (.call 15 (.cons (.var 3) .nil)) .nil)))) (.cons (.set false 4 (.bin .add (.cst (.int 1)) (.prim .max (.cons (.lc [18, 19] (.tup [(.v 18), (.v 19)]) (.val (.var 15)) .no (.var 19)) .nil)))) (.cons (.set false 5 (.lc [6] (.v 6) (.rng .no (.var 4)) .no (.prim .tuple (.cons (.lc [16] (.v 16) (.rng .no (.var 13)) (.yes (.e (.chain .le .le (.idx (.idx (.var 15) (.var 16)) (.cst (.int 0))) (.var 6) (.idx (.idx (.var 15) (.var 16)) (.cst (.int 1)))))) (.var 16)) .nil)))) (.cons (.ite (.or (.e (.cmp .ne (.prim .repr (.cons (.call 6 (.cons (.var 3) .nil)) .nil)) (.prim .repr (.cons (.prim .tuple (.cons (.var 5) .nil)) .nil)))) (.e (.cmp .ne (.prim .sorted (.cons (.var 5) .nil)) (.prim .sorted (.cons (.call 16 (.cons (.var 3) .nil)) .nil))))) (.cons (.ret (.cst (.bool false))) .nil) .nil) lawB_6))))
def lawB_8 : Ss := (.cons (.set false 3 (.call 13 (.cons (.var 1) (.cons (.cst (.int 8)) .nil)))) (.cons (.ite (.e (.cmp .ne (.call 14 (.cons (.var 3) .nil)) (.lst .nil))) lawB_0 .nil) lawB_7))
def lawB_9 : Ss := (.cons (.ret (.cmp .eq (.call 6 (.cons (.tup (.cons (.cst (.int 4)) (.cons (.tup (.cons (.tup (.cons (.cst (.int 0)) (.cons (.cst (.int 1)) .nil))) (.cons (.tup (.cons (.cst (.int 0)) (.cons (.cst (.int 2)) .nil))) (.cons (.tup (.cons (.cst (.int 0)) (.cons (.cst (.int 3)) .nil))) (.cons (.tup (.cons (.cst (.int 1)) (.cons (.cst (.int 2)) .nil))) .nil))))) .nil))) .nil)) (.tup (.cons (.tup (.cons (.cst (.int 0)) .nil)) (.cons (.tup (.cons (.cst (.int 1)) (.cons (.cst (.int 3)) .nil))) (.cons (.tup (.cons (.cst (.int 2)) (.cons (.cst (.int 3)) .nil))) .nil)))))) .nil)
def lawB : Ss := (.cons (.for_ (.v 2) (.rng .no (.cst (.int 6))) lawB_8) lawB_9)
/-- law at 21, _law_source at 12 -/
theorem rows_ok : rows.all (chkRow (tabOf rows)) = true := by decide +kernel
def restOf : List PySem.Stmt → List PySem.Stmt
  | _ :: r => r
  | [] => []
theorem law_ok : (fsB lawN (lawN.take 1) (defScope (topS 21)) && chkSs lawN (tabOf rows) (defScope (topS 21)) lawB (restOf (defBody (topS 21)))) = true := by decide +kernel
section
open PySem.Spec PyProof.Rows
variable [Tb] {P : Program} {w : World} {K : PySem.W.Frag} {mg : Str → Option Value} {base : Heap}
theorem pick_fn {k f : Nat} {C : Calls} {a : Addr} {fd : FuncData} (F : Fun K "_law_pick" "_law_pick" sPick a fd) (hb : ∀ x ∈ bltNames, mg x = none) (len : ∀ (vs : List V) (H : Hp) (Q : VK) (E : XK), spC C f vs H Q E → vs.length = 2) (hC : ∀ bs Q, C f bs Q → 1 ≤ k ∧ bs.length = 2 ∧ semPick bs Q) :
    FnG P w K mg base (k + 1) a fd ["source", "many"] (spC C f) :=
  (FnG.of (ok_pick (k := k) F hb)).imp (fun vs H Q h => pick_of (fun bs Q c => (hC bs Q c).2.2) vs H Q h) len
theorem mixed_fn {k f : Nat} {C : Calls} {a : Addr} {fd : FuncData} (laid : Laid K mg rows) (F : Fun K "_law_mixed" "_law_mixed" sMixed a fd) (hb : ∀ x ∈ bltNames, mg x = none) (len : ∀ (vs : List V) (H : Hp) (Q : VK) (E : XK), spC C f vs H Q E → vs.length = 2) (hC : ∀ bs Q, C f bs Q → 1 ≤ k ∧ bs.length = 2 ∧ semMixed bs Q) :
    FnG P w K mg base (k + 1) a fd ["source", "things"] (spC C f) := by
  obtain ⟨a1, fd1, F1, g1, b1⟩ := laid r9 (by simp [rows])
  cases k with
  | zero => exact ⟨len, fun A outer s H args us vs Q _ _ _ _ _ ⟨S, Z, bs, Q0, _, _, _, _, h5, _⟩ => absurd (hC _ _ h5).1 (by omega)⟩
  | succ k => exact (FnG.of (ok_mixed (k := k) F hb F1 b1 g1)).imp (fun vs H Q h => mixed_of (fun bs Q c => (hC bs Q c).2.2) vs H Q h) len
end
theorem hd0 {k : Nat} {x0 x1 : B} (h0 : isRd x0 = true) (h1 : isRd x1 = true) : callF (progOf rows) (k + 1) 0 [x0, x1] = fun Q => execs (callF (progOf rows) k) b0 [some x0, some x1, none] (koF Q) := cf_code (np := 2) (ns := 3) (body := b0) rfl rfl (by simp [h0, h1])
theorem hd1 {k : Nat} {x0 : B} (h0 : isRd x0 = true) : callF (progOf rows) (k + 1) 1 [x0] = fun Q => execs (callF (progOf rows) k) b1 [some x0, none, none, none, none, none, none, none] (koF Q) := cf_code (np := 1) (ns := 8) (body := b1) rfl rfl (by simp [h0])
theorem hd2 {k : Nat} {x0 : B} (h0 : isRd x0 = true) : callF (progOf rows) (k + 1) 2 [x0] = fun Q => execs (callF (progOf rows) k) b2 [some x0] (koF Q) := cf_code (np := 1) (ns := 1) (body := b2) rfl rfl (by simp [h0])
theorem hd3 {k : Nat} {x0 : B} (h0 : isRd x0 = true) : callF (progOf rows) (k + 1) 3 [x0] = fun Q => execs (callF (progOf rows) k) b3 [some x0, none, none, none, none, none, none, none] (koF Q) := cf_code (np := 1) (ns := 8) (body := b3) rfl rfl (by simp [h0])
theorem hd4 {k : Nat} {x0 : B} (h0 : isRd x0 = true) : callF (progOf rows) (k + 1) 4 [x0] = fun Q => execs (callF (progOf rows) k) b4 [some x0, none, none, none] (koF Q) := cf_code (np := 1) (ns := 4) (body := b4) rfl rfl (by simp [h0])
theorem hd5 {k : Nat} {x0 x1 : B} (h0 : isRd x0 = true) (h1 : isRd x1 = true) : callF (progOf rows) (k + 1) 5 [x0, x1] = fun Q => execs (callF (progOf rows) k) b5 [some x0, some x1, none, none, none] (koF Q) := cf_code (np := 2) (ns := 5) (body := b5) rfl rfl (by simp [h0, h1])
theorem hd6 {k : Nat} {x0 : B} (h0 : isRd x0 = true) : callF (progOf rows) (k + 1) 6 [x0] = fun Q => execs (callF (progOf rows) k) b6 [some x0, none, none, none, none] (koF Q) := cf_code (np := 1) (ns := 5) (body := b6) rfl rfl (by simp [h0])
theorem hd7 {k : Nat} {x0 x1 : B} (h0 : isRd x0 = true) (h1 : isRd x1 = true) : callF (progOf rows) (k + 1) 7 [x0, x1] = fun Q => execs (callF (progOf rows) k) b7 [some x0, some x1, none, none] (koF Q) := cf_code (np := 2) (ns := 4) (body := b7) rfl rfl (by simp [h0, h1])
theorem hd8 {k : Nat} {x0 : B} (h0 : isRd x0 = true) : callF (progOf rows) (k + 1) 8 [x0] = fun Q => execs (callF (progOf rows) k) b8 [some x0, none, none] (koF Q) := cf_code (np := 1) (ns := 3) (body := b8) rfl rfl (by simp [h0])
theorem hd11 {k : Nat} {x0 x1 : B} (h0 : isRd x0 = true) (h1 : isRd x1 = true) : callF (progOf rows) (k + 1) 11 [x0, x1] = fun Q => execs (callF (progOf rows) k) b11 [some x0, some x1, none, none, none, none, none] (koF Q) := cf_code (np := 2) (ns := 7) (body := b11) rfl rfl (by simp [h0, h1])
theorem hd12 {k : Nat} {x0 : B} (h0 : isRd x0 = true) : callF (progOf rows) (k + 1) 12 [x0] = fun Q => execs (callF (progOf rows) k) b12 [some x0, none, none, none] (koF Q) := cf_code (np := 1) (ns := 4) (body := b12) rfl rfl (by simp [h0])
theorem hd13 {k : Nat} {x0 x1 : B} (h0 : isRd x0 = true) (h1 : isRd x1 = true) : callF (progOf rows) (k + 1) 13 [x0, x1] = fun Q => execs (callF (progOf rows) k) b13 [some x0, some x1, none, none, none, none, none, none, none, none, none, none, none, none, none, none] (koF Q) := cf_code (np := 2) (ns := 16) (body := b13) rfl rfl (by simp [h0, h1])
theorem hd14 {k : Nat} {x0 : B} (h0 : isRd x0 = true) : callF (progOf rows) (k + 1) 14 [x0] = fun Q => execs (callF (progOf rows) k) b14 [some x0, none, none, none, none, none, none, none] (koF Q) := cf_code (np := 1) (ns := 8) (body := b14) rfl rfl (by simp [h0])
theorem hd15 {k : Nat} {x0 : B} (h0 : isRd x0 = true) : callF (progOf rows) (k + 1) 15 [x0] = fun Q => execs (callF (progOf rows) k) b15 [some x0, none, none, none, none, none, none, none, none, none] (koF Q) := cf_code (np := 1) (ns := 10) (body := b15) rfl rfl (by simp [h0])
theorem hd16 {k : Nat} {x0 : B} (h0 : isRd x0 = true) : callF (progOf rows) (k + 1) 16 [x0] = fun Q => execs (callF (progOf rows) k) b16 [some x0, none, none, none, none, none, none, none, none] (koF Q) := cf_code (np := 1) (ns := 9) (body := b16) rfl rfl (by simp [h0])
end
set_option maxHeartbeats 4000000
/-! PMc: drawn things: works ahead of works; pairs sorted; comprehensions that draw. -/
section
open PySem L2
/-- p.1 stands ahead of p.2 among names -/
def Ahead (names : List Int) (p : Int × Int) : Prop := ∃ i j : Nat, i < j ∧ names[i]? = some p.1 ∧ names[j]? = some p.2
theorem nodup_at {names : List Int} (nd : names.Nodup) {i j : Nat} {x : Int} (hi : names[i]? = some x) (hj : names[j]? = some x) : i = j := by
  obtain ⟨h1, e1⟩ := List.getElem?_eq_some_iff.mp hi
  obtain ⟨h2, e2⟩ := List.getElem?_eq_some_iff.mp hj
  exact (List.getElem_inj nd).mp (e1.trans e2.symm)
theorem Ahead.trans {names : List Int} (nd : names.Nodup) {a k b : Int} (h1 : Ahead names (a, k)) (h2 : Ahead names (k, b)) : Ahead names (a, b) := by
  obtain ⟨i, j, hij, hi, hj⟩ := h1
  obtain ⟨i', j', hij', hi', hj'⟩ := h2
  have := nodup_at nd hj hi'
  subst this
  exact ⟨i, j', by omega, hi, hj'⟩
theorem Ahead.ne {names : List Int} (nd : names.Nodup) {a b : Int} (h : Ahead names (a, b)) : a ≠ b := fun e => by
  subst e
  obtain ⟨i, j, hij, hi, hj⟩ := h
  have := nodup_at nd hi hj
  omega
theorem rg_nodup (n : Nat) : (rg n).Nodup := (rg_srt n).imp fun h e => by omega
theorem Ahead.inr {names : List Int} {n : Nat} (hp : names.Perm (rg n)) {p : Int × Int} (h : Ahead names p) : InR n p := by
  obtain ⟨i, j, _, hi, hj⟩ := h
  have m1 := mem_rg.mp (hp.mem_iff.mp (List.mem_of_getElem? hi))
  have m2 := mem_rg.mp (hp.mem_iff.mp (List.mem_of_getElem? hj))
  exact ⟨m1.1, m1.2, m2.1, m2.2⟩
theorem rg_at {n i : Nat} (h : i < (rg n).length) : (rg n)[i] = (i : Int) := by
  have : (rg n)[i]? = some (i : Int) := by
    unfold rg
    rw [List.getElem?_map, List.getElem?_range (by rw [rg_len] at h; exact h)]; rfl
  rw [List.getElem?_eq_getElem h] at this
  exact Option.some.inj this
theorem len_inr10 {n : Nat} {qs : List (Int × Int)} (nd : qs.Nodup) (h : ∀ q ∈ qs, InR n q) (hn : n ≤ 10) : qs.length ≤ 100 := by
  have h1 := len_of_sub qs (grid n) nd fun q hq => in_grid (h q hq)
  have h2 := grid_len n
  have : n * n ≤ 10 * 10 := Nat.mul_le_mul hn hn
  omega
theorem q_sortP (qs : List (Int × Int)) : primD .sorted [en qs] = some (en (qs.mergeSort leP)) := by
  show (if sortOk (qs.map ip) = true then some (PyData.list (sortD (qs.map ip))) else none) = _
  rw [if_pos (sortOk_ip qs), sortD_ip]; rfl
theorem lcM_some {α β : Type} [Enc β] {P : β → Prop} {xs : List α} {st : α → W (Option D)} {Q : List D → Prop} (h : ∀ a ∈ xs, ∀ K : Option D → Prop, K none → (∀ b : β, P b → K (some (en b))) → st a K) (q : ∀ bs : List β, (∀ b ∈ bs, P b) → bs.length ≤ xs.length → Q (bs.map en)) : lcM xs st Q := by
  induction xs generalizing Q with
  | nil => exact q [] (by simp) (Nat.le_refl _)
  | cons a xs ih =>
    refine h a (List.mem_cons_self ..) _ ?_ fun b hb => ?_
    · exact ih (fun c hc => h c (List.mem_cons_of_mem _ hc)) fun bs h1 h2 => q bs h1 (by simp only [List.length_cons]; omega)
    · exact ih (fun c hc => h c (List.mem_cons_of_mem _ hc)) fun bs h1 h2 => q (b :: bs) (fun x hx => (List.mem_cons.mp hx).elim (fun e => e ▸ hb) (h1 x)) (by simp only [List.length_cons]; omega)
/-- each item is taken or left out -/
theorem lcM_sl {α : Type} [Enc α] {xs : List α} {st : α → W (Option D)} {Q : List D → Prop} (h : ∀ a ∈ xs, ∀ K : Option D → Prop, K none → K (some (en a)) → st a K) (q : ∀ bs : List α, bs.Sublist xs → Q (bs.map en)) : lcM xs st Q := by
  induction xs generalizing Q with
  | nil => exact q [] .slnil
  | cons a xs ih =>
    refine h a (List.mem_cons_self ..) _ ?_ ?_
    · exact ih (fun c hc => h c (List.mem_cons_of_mem _ hc)) fun bs h1 => q bs (h1.cons a)
    · exact ih (fun c hc => h c (List.mem_cons_of_mem _ hc)) fun bs h1 => q (a :: bs) (h1.cons₂ a)
/-- each item gives one -/
theorem lcM_each {α β : Type} [Enc β] {P : α → β → Prop} {xs : List α} {st : α → W (Option D)} {Q : List D → Prop} (h : ∀ a ∈ xs, ∀ K : Option D → Prop, (∀ b : β, P a b → K (some (en b))) → st a K) (q : ∀ bs : List β, All2 P xs bs → Q (bs.map en)) : lcM xs st Q := by
  induction xs generalizing Q with
  | nil => exact q [] .nil
  | cons a xs ih => exact h a (List.mem_cons_self ..) _ fun b hb => ih (fun c hc => h c (List.mem_cons_of_mem _ hc)) fun bs h1 => q (b :: bs) (.cons hb h1)
/-- what follows from pairs -/
def Rc (ps : List (Int × Int)) (x y : Int) : Prop := ∀ T : Int × Int → Prop, (∀ p ∈ ps, T p) → (∀ a b c, T (a, b) → T (b, c) → T (a, c)) → T (x, y)
theorem Rc.of {ps : List (Int × Int)} {x y : Int} (h : (x, y) ∈ ps) : Rc ps x y := fun T h1 _ => h1 _ h
theorem Rc.trans {ps : List (Int × Int)} {x y z : Int} (h : Rc ps x y) (h' : Rc ps y z) : Rc ps x z := fun T h1 h2 => h2 x y z (h T h1 h2) (h' T h1 h2)
theorem xp0 {x : Int} {l : List (Int × Int)} : True := trivial
theorem cutL_all {α : Type} (xs : List α) : cutL xs none none = xs := by
  unfold cutL
  rw [HT.sIx_none, HT.sIx_none, List.drop_zero, Nat.sub_zero, List.take_length]
theorem popD_snoc {α : Type} [Enc α] (xs : List α) (y : α) : popD ((xs ++ [y]).map en) none = some (en y, xs.map en) := by
  show ((xs ++ [y]).map en).getLast?.map _ = _
  rw [List.map_append]
  show (xs.map en ++ [en y]).getLast?.map _ = _
  rw [List.getLast?_append]
  simp
theorem pix_mapR {α : Type} [Inhabited α] {n : Nat} {f : Int → α} {x : Int} (h0 : 0 ≤ x) (h : x < n) : pix ((rg n).map f) x = f x := by
  obtain ⟨i, rfl⟩ := Int.eq_ofNat_of_zero_le h0
  have hi : i < n := by omega
  unfold pix
  rw [if_neg (by omega), Int.toNat_natCast]
  have : ((rg n).map f)[i]? = some (f i) := by
    rw [List.getElem?_map]
    have h2 : i < (rg n).length := by rw [rg_len]; exact hi
    rw [List.getElem?_eq_getElem h2, rg_at h2]; rfl
  simp [List.getD, this]
end
set_option maxHeartbeats 4000000
/-! PMf: what is reached by steps; sorted pairs with the same members (for the laws of forcing, k27 to k32). -/
section
open PySem L2
/-- what x reaches by F -/
inductive Rch {α : Type} (F : α → List α) (x : α) : α → Prop where
  | at_ : Rch F x x
  | step {y z : α} : Rch F x y → z ∈ F y → Rch F x z
theorem Rch.trans {α : Type} {F : α → List α} {x y z : α} (h : Rch F x y) (h2 : Rch F y z) : Rch F x z := by
  induction h2 with
  | at_ => exact h
  | step _ hz ih => exact ih.step hz
theorem Rch.sym {α : Type} {F : α → List α} (hs : ∀ x y, y ∈ F x → x ∈ F y) {x y : α} (h : Rch F x y) : Rch F y x := by
  induction h with
  | at_ => exact .at_
  | step _ hz ih => exact (Rch.at_.step (hs _ _ hz)).trans ih
theorem Rch.turn {α : Type} {F : α → List α} {t : α → α} (ht : ∀ x y, y ∈ F x → t y ∈ F (t x)) {x y : α} (h : Rch F x y) : Rch F (t x) (t y) := by
  induction h with
  | at_ => exact .at_
  | step _ hz ih => exact ih.step (ht _ _ hz)
/-- a closed list of what is reached is all that is reached -/
theorem rch_iff {α : Type} {F : α → List α} {x : α} {found : List α} (h0 : x ∈ found) (hr : ∀ y ∈ found, Rch F x y) (hc : ∀ y ∈ found, ∀ z ∈ F y, z ∈ found) (y : α) : y ∈ found ↔ Rch F x y := by
  refine ⟨hr y, fun h => ?_⟩
  induction h with
  | at_ => exact h0
  | step _ hz ih => exact hc _ ih _ hz
/-- a walk with a row of things yet to be looked at: all but those are closed -/
structure Wlk2 {α : Type} (F : α → List α) (x : α) (found rest : List α) : Prop where
  nd : found.Nodup
  x0 : x ∈ found
  rch : ∀ y ∈ found, Rch F x y
  sub : ∀ y ∈ rest, y ∈ found
  cl : ∀ y ∈ found, y ∈ rest ∨ ∀ z ∈ F y, z ∈ found
theorem Wlk2.start {α : Type} (F : α → List α) (x : α) : Wlk2 F x [x] [x] :=
  ⟨by simp, by simp, fun y hy => by rw [List.mem_singleton.mp hy]; exact .at_, fun y hy => hy, fun y hy => .inl hy⟩
theorem Wlk2.done {α : Type} {F : α → List α} {x : α} {found : List α} (h : Wlk2 F x found []) (y : α) : y ∈ found ↔ Rch F x y :=
  rch_iff h.x0 h.rch (fun y hy => (h.cl y hy).elim (fun z => nomatch z) id) y
/-- one is looked at: what it forces anew is put to both -/
theorem Wlk2.turn {α : Type} [DecidableEq α] {F : α → List α} {x y : α} {found rest rest' fresh : List α} (h : Wlk2 F x found rest) (hy : y ∈ found) (hr : ∀ z, z ∈ rest → z = y ∨ z ∈ rest') (hr2 : ∀ z ∈ rest', z ∈ rest ∨ z ∈ fresh) (hr3 : ∀ z ∈ fresh, z ∈ rest') (nf : fresh.Nodup) (hf : ∀ z, z ∈ fresh ↔ z ∈ F y ∧ z ∉ found) : Wlk2 F x (found ++ fresh) rest' where
  nd := List.nodup_append.mpr ⟨h.nd, nf, fun a ha b hb e => ((hf b).mp hb).2 (e ▸ ha)⟩
  x0 := List.mem_append_left _ h.x0
  rch := fun z hz => (List.mem_append.mp hz).elim (h.rch z) fun hz => (h.rch y hy).step ((hf z).mp hz).1
  sub := fun z hz => (hr2 z hz).elim (fun hz => List.mem_append_left _ (h.sub z hz)) fun hz => List.mem_append_right _ hz
  cl := fun z hz => by
    rcases List.mem_append.mp hz with hz | hz
    · rcases h.cl z hz with h1 | h1
      · rcases hr z h1 with rfl | h2
        · refine .inr fun w hw => ?_
          by_cases hwf : w ∈ found
          · exact List.mem_append_left _ hwf
          · exact List.mem_append_right _ ((hf w).mpr ⟨hw, hwf⟩)
        · exact .inl h2
      · exact .inr fun w hw => List.mem_append_left _ (h1 w hw)
    · exact .inl (hr3 z hz)
theorem leP_anti {a b : Int × Int} (h1 : leP a b = true) (h2 : leP b a = true) : a = b := by
  unfold leP at *
  simp only [decide_eq_true_eq] at *
  exact Prod.ext (by omega) (by omega)
theorem sortP_ext {xs ys : List (Int × Int)} (h1 : xs.Nodup) (h2 : ys.Nodup) (h : ∀ p, p ∈ xs ↔ p ∈ ys) : xs.mergeSort leP = ys.mergeSort leP := by
  have tr : ∀ a b c : Int × Int, leP a b = true → leP b c = true → leP a c = true := fun a b c h1 h2 => by unfold leP at *; simp at *; omega
  have to : ∀ a b : Int × Int, (leP a b || leP b a) = true := fun a b => by unfold leP; simp; omega
  exact List.Perm.eq_of_pairwise (le := fun a b => leP a b = true) (fun a b _ _ => leP_anti) (List.pairwise_mergeSort tr to xs) (List.pairwise_mergeSort tr to ys) ((List.mergeSort_perm xs leP).trans (((List.perm_ext_iff_of_nodup h1 h2).mpr h).trans (List.mergeSort_perm ys leP).symm))
theorem pix_of {α : Type} [Inhabited α] {names : List α} {i : Nat} {a : α} (h : names[i]? = some a) : pix names (i : Int) = a := by
  unfold pix
  rw [if_neg (by omega), Int.toNat_natCast]
  simp [List.getD, h]
theorem sortOk_ints (xs : List Int) : sortOk (xs.map en) = true := by
  unfold sortOk allAlike
  simp only [Bool.and_eq_true, Bool.or_eq_true, List.all_eq_true, List.mem_map, decide_eq_true_eq]
  refine ⟨⟨?_, .inr ?_⟩, ?_⟩
  · rintro _ ⟨p, _, rfl⟩ _ ⟨q, _, rfl⟩
    show PySem.W.alike (.int p) (.int q) = true
    simp [PySem.W.alike]
  · rintro _ ⟨p, _, rfl⟩; rfl
  · rintro _ ⟨p, _, rfl⟩
    show (PyData.int p).depth ≤ 60
    rw [depth_int]; omega
theorem q_sortI (xs : List Int) : primD .sorted [en xs] = some (en (xs.mergeSort fun a b => decide (a ≤ b))) := by
  show (if sortOk (xs.map en) = true then some (PyData.list (sortD (xs.map en))) else none) = _
  rw [if_pos (sortOk_ints xs)]
  unfold sortD
  rw [← List.map_mergeSort (r := fun a b => decide (a ≤ b)) (s := PySem.W.dataLe false id) fun a _ b _ => ?_]
  · rfl
  · show decide (a ≤ b) = !PySem.W.dataLt (.int b) (.int a)
    rw [dataLt_int]
    by_cases h : a ≤ b
    · simp [h]
    · simp [h]; omega
theorem pairsD_en2 {κ ν : Type} [Enc κ] [Enc ν] : ∀ ps : List (κ × ν), pairsD (ps.map en) = some (ps.map fun p => (en p.1, en p.2))
  | [] => rfl
  | p :: ps => by
    show (pairsD (ps.map en)).map _ = _
    rw [pairsD_en2 ps]; rfl
theorem q_dictP2 {ν : Type} [Enc ν] (ps : List ((Int × Int) × ν)) : primD .dictOf [en ps] = some (en (putsD ⟨[]⟩ ps)) := by
  show (pairsD (ps.map en)).bind _ = _
  rw [pairsD_en2, Option.bind_some, if_pos, ← dputs_en]
  · rfl
  · rw [Bool.or_eq_true]
    right
    rw [List.all_map, List.all_eq_true]
    intro p _; rfl
theorem keys_puts {κ ν : Type} [DecidableEq κ] : ∀ (qs : List (κ × ν)) (d : Dct κ ν), (∀ y, y ∈ (putsD d qs).keys ↔ y ∈ d.keys ∨ y ∈ qs.map (·.1)) ∧ (d.keys.Nodup → (putsD d qs).keys.Nodup) ∧ (putsD d qs).l.length ≤ d.l.length + qs.length ∧ (d.l ≠ [] → (putsD d qs).l ≠ [])
  | [], d => ⟨by simp [putsD], id, by simp [putsD], id⟩
  | q :: qs, d => by
    obtain ⟨h1, h2, h3, h4⟩ := keys_puts qs (d.put q.1 q.2)
    have hk := Dct.keys_put d q.1 q.2
    have hl := Dct.len_put d q.1 q.2
    have e : putsD d (q :: qs) = putsD (d.put q.1 q.2) qs := rfl
    rw [e]
    refine ⟨fun y => ?_, fun nd => h2 ?_, by rw [List.length_cons]; omega, fun hd => h4 ?_⟩
    · rw [h1, hk, List.map_cons, List.mem_cons]
      by_cases hq : q.1 ∈ d.keys
      · rw [if_pos hq]
        exact ⟨fun z => z.elim .inl fun z => .inr (.inr z), fun z => z.elim .inl fun z => z.elim (fun z => .inl (z ▸ hq)) .inr⟩
      · rw [if_neg hq, List.mem_append, List.mem_singleton, or_assoc]
    · rw [hk]
      split
      · exact nd
      · rename_i hq
        exact List.nodup_append.mpr ⟨nd, by simp, fun a ha b hb e => by rw [List.mem_singleton.mp hb] at e; exact hq (e ▸ ha)⟩
    · unfold Dct.put
      split
      · intro z; exact hd (List.map_eq_nil_iff.mp z)
      · simp
theorem keys_put_nd {κ ν : Type} [DecidableEq κ] {d : Dct κ ν} {k : κ} {v : ν} (nd : d.keys.Nodup) : (d.put k v).keys.Nodup ∧ ∀ y, y ∈ (d.put k v).keys ↔ y ∈ d.keys ∨ y = k := by
  rw [Dct.keys_put]
  split
  · rename_i h
    exact ⟨nd, fun y => ⟨.inl, fun z => z.elim id fun z => z ▸ h⟩⟩
  · rename_i h
    exact ⟨List.nodup_append.mpr ⟨nd, by simp, fun a ha b hb e => by rw [List.mem_singleton.mp hb] at e; exact h (e ▸ ha)⟩, fun y => by rw [List.mem_append, List.mem_singleton]⟩
theorem q_sortDP {ν : Type} [Enc ν] (d : Dct (Int × Int) ν) : primD .sorted [en d] = some (en (d.keys.mergeSort leP)) := by
  have e : (d.l.map fun p => ((en p.1 : D), (en p.2 : D))).map (·.1) = d.keys.map en := by
    unfold Dct.keys
    rw [List.map_map, List.map_map]; rfl
  show (if (nmK (d.l.map fun p => ((en p.1 : D), (en p.2 : D))) && sortOk ((d.l.map fun p => ((en p.1 : D), (en p.2 : D))).map (·.1))) = true then some (PyData.list (sortD ((d.l.map fun p => ((en p.1 : D), (en p.2 : D))).map (·.1)))) else none) = _
  rw [e, nmK_en, Bool.true_and]
  exact q_sortP d.keys
end
set_option maxHeartbeats 4000000
/-! PMd: what repr shows, of small data; slots of the law. -/
section
open PySem L2
/-- small data: repr shows it -/
def Shw (d : D) : Prop := ∃ k m, Pl k m d ∧ k ≤ 60 ∧ m ≤ 600000
theorem rep_ok {d : D} (h : Shw d) : lift (primD .repr [d]) = rt (.str d.shown) := by
  obtain ⟨k, m, p, hk, hm⟩ := h
  rw [prim_repr p hk hm, lift_rt]
theorem rep_ne {d : D} (h : Shw d) : copD .ne (.str d.shown) (.str d.shown) = some (en false) := by
  obtain ⟨k, m, p, hk, hm⟩ := h
  exact ne_self p
theorem pl_en {k m : Nat} {i : Int} (h0 : -(10 ^ 18) ≤ i) (h : i ≤ 10 ^ 18) : Pl k m (en i) := .int (by
  have : i.natAbs ≤ 10 ^ 18 := by omega
  exact Nat.lt_of_le_of_lt this (by decide))
theorem shw_int {i : Int} (h0 : -(10 ^ 18) ≤ i) (h : i ≤ 10 ^ 18) : Shw (en i) := ⟨0, 0, pl_en h0 h, by decide, by decide⟩
theorem shw_nat {m : Nat} (h : m ≤ 1000000000) : Shw (en (m : Int)) := shw_int (by omega) (by omega)
theorem shw_unit : Shw (en ()) := ⟨0, 0, .none, by decide, by decide⟩
theorem shw_bool (b : Bool) : Shw (en b) := ⟨0, 0, .bool, by decide, by decide⟩
theorem pl_ints1 {xs : List Int} {m : Nat} (h : ∀ x ∈ xs, -(10 ^ 18) ≤ x ∧ x ≤ 10 ^ 18) (hl : xs.length ≤ m) : PlA 0 m (xs.map en) := PlA.all' (a := 0) (fun d hd => by
  obtain ⟨i, hi, rfl⟩ := List.mem_map.mp hd
  exact pl_en (h i hi).1 (h i hi).2) (by rw [List.length_map]; omega)
theorem shw_ints {xs : List Int} (h : ∀ x ∈ xs, -(10 ^ 18) ≤ x ∧ x ≤ 10 ^ 18) (hl : xs.length ≤ 600000) : Shw (en (Tu.mk xs)) := ⟨1, xs.length, .tup (pl_ints1 h (Nat.le_refl _)), by decide, hl⟩
theorem pl_od {n : Nat} {ps : List (Int × Int)} (hn : n ≤ 10) (g : GO n ps) : Pl 3 1000 (en (od n ps)) := by
  refine .tup (.cons (a := 0) (b := 999) (pl_en (i := (n : Int)) (by omega) (by omega)) (.cons (a := 998) (b := 0) (.tup (PlA.all' (a := 2) (fun x hx => ?_) ?_)) .nil))
  · obtain ⟨p, hp, rfl⟩ := List.mem_map.mp hx
    obtain ⟨h1, h2, h3, h4⟩ := g.inr p hp
    exact .tup (.cons (a := 0) (b := 1) (pl_en (by omega) (by omega)) (.cons (a := 0) (b := 0) (pl_en (by omega) (by omega)) .nil))
  · have := len_inr10 g.nodup g.inr hn
    rw [List.length_map]
    show 3 * ps.length ≤ 998
    omega
theorem shw_od {n : Nat} {ps : List (Int × Int)} (hn : n ≤ 10) (g : GO n ps) : Shw (en (od n ps)) := ⟨3, 1000, pl_od hn g, by decide, by decide⟩
section
variable {α β : Type} [Enc α] [Enc β]
theorem pl_lst {k a m : Nat} {xs : List α} (h : ∀ x ∈ xs, Pl k a (en x)) (hm : (a + 1) * xs.length ≤ m) : Pl (k + 1) m (en xs) :=
  .lst (PlA.all' (fun d hd => by obtain ⟨x, hx, rfl⟩ := List.mem_map.mp hd; exact h x hx) (by rw [List.length_map]; exact hm))
theorem pl_tu {k a m : Nat} {xs : List α} (h : ∀ x ∈ xs, Pl k a (en x)) (hm : (a + 1) * xs.length ≤ m) : Pl (k + 1) m (en (Tu.mk xs)) :=
  .tup (PlA.all' (fun d hd => by obtain ⟨x, hx, rfl⟩ := List.mem_map.mp hd; exact h x hx) (by rw [List.length_map]; exact hm))
theorem pl_pr {k a b : Nat} {x : α} {y : β} (h1 : Pl k a (en x)) (h2 : Pl k b (en y)) : Pl (k + 1) (a + 1 + (b + 1 + 0)) (en (x, y)) := .tup (.cons h1 (.cons h2 .nil))
theorem pl_l2 {k a b : Nat} {x y : D} (h1 : Pl k a x) (h2 : Pl k b y) : Pl (k + 1) (a + 1 + (b + 1 + 0)) (.list [x, y]) := .lst (.cons h1 (.cons h2 .nil))
theorem pl_t2 {k a b : Nat} {x y : D} (h1 : Pl k a x) (h2 : Pl k b y) : Pl (k + 1) (a + 1 + (b + 1 + 0)) (.tuple [x, y]) := .tup (.cons h1 (.cons h2 .nil))
theorem pl_op {k m : Nat} {x : Option α} (h : ∀ a, x = some a → Pl k m (en a)) : Pl k m (en x) := by
  cases x with
  | none => exact .none
  | some a => exact h a rfl
end
theorem pl_inr {n : Nat} {k : Nat} {p : Int × Int} (h : InR n p) (hn : n ≤ 1000) : Pl (k + 1) 2 (en p) := by
  obtain ⟨h1, h2, h3, h4⟩ := h
  exact pl_pr (a := 0) (b := 0) (pl_en (by omega) (by omega)) (pl_en (by omega) (by omega))
theorem is_none {α : Type} [Enc α] (h : ∀ a : α, copD .is (en a) .none = some (en false)) (o : Option α) : copD .is (en o) .none = some (en o.isNone) := by
  cases o with
  | none => rfl
  | some a => exact h a
end
set_option maxHeartbeats 4000000
/-! PMg: orders that lead on; closing by middles; orders by times. -/
section
open PySem L2
structure PO (n : Nat) (ps : List (Int × Int)) : Prop where
  go : GO n ps
  tr : ∀ a b c, (a, b) ∈ ps → (b, c) ∈ ps → (a, c) ∈ ps
  ir : ∀ a, (a, a) ∉ ps
theorem PO.as {n : Nat} {ps : List (Int × Int)} (h : PO n ps) {a b : Int} (h1 : (a, b) ∈ ps) : (b, a) ∉ ps := fun h2 => h.ir a (h.tr _ _ _ h1 h2)
theorem ltP_nd {ps : List (Int × Int)} (h : ps.Pairwise ltP) : ps.Nodup := h.imp fun {a b} hab e => by
  subst e
  rcases hab with h | h <;> omega
theorem GO.len10 {n : Nat} {ps : List (Int × Int)} (g : GO n ps) (hn : n ≤ 10) : ps.length ≤ 100 := len_inr10 (ltP_nd g.srt) g.inr hn
/-- keys apart, each one right -/
structure Dk2 (T : Int × Int → Prop) (d : Dct (Int × Int) Int) : Prop where
  nd : d.keys.Nodup
  all : ∀ q ∈ d.keys, T q
theorem Dk2.put {T : Int × Int → Prop} {d : Dct (Int × Int) Int} (h : Dk2 T d) {p : Int × Int} {x : Int} (hp : T p) : Dk2 T (d.put p x) := by
  obtain ⟨h1, h2⟩ := keys_put_nd (k := p) (v := x) h.nd
  exact ⟨h1, fun q hq => ((h2 q).mp hq).elim (h.all q) fun e => e ▸ hp⟩
theorem Dk2.has_put {T : Int × Int → Prop} {d : Dct (Int × Int) Int} (h : Dk2 T d) {p : Int × Int} {x : Int} (q : Int × Int) : q ∈ (d.put p x).keys ↔ q ∈ d.keys ∨ q = p := (keys_put_nd (k := p) (v := x) h.nd).2 q
theorem Dk2.len {T : Int × Int → Prop} {n : Nat} {d : Dct (Int × Int) Int} (h : Dk2 T d) (hI : ∀ p, T p → InR n p) (hn : n ≤ 10) : d.l.length ≤ 100 := by
  have hl := len_inr10 h.nd (fun q hq => hI q (h.all q hq)) hn
  unfold Dct.keys at hl; simpa using hl
/-- what holds behind the middles done -/
structure Wa (T : Int × Int → Prop) (ps : List (Int × Int)) (done : List Int) (d : Dct (Int × Int) Int) : Prop where
  dk : Dk2 T d
  on : ∀ p ∈ ps, p ∈ d.keys
  cl : ∀ j ∈ done, ∀ a b, (a, j) ∈ d.keys → (j, b) ∈ d.keys → (a, b) ∈ d.keys
/-- within a middle k: F the keys ahead of it -/
structure Wb (T : Int × Int → Prop) (F : List (Int × Int)) (k : Int) (X : Int × Int → Prop) (d : Dct (Int × Int) Int) : Prop where
  dk : Dk2 T d
  on : ∀ p ∈ F, p ∈ d.keys
  fr : ∀ p ∈ d.keys, p ∈ F ∨ ((p.1, k) ∈ F ∧ (k, p.2) ∈ F)
  dn : ∀ a b, X (a, b) → (a, k) ∈ F → (k, b) ∈ F → (a, b) ∈ d.keys
theorem Wb.l {T : Int × Int → Prop} {F : List (Int × Int)} {k : Int} {X : Int × Int → Prop} {d : Dct (Int × Int) Int} (h : Wb T F k X d) (a : Int) : (a, k) ∈ d.keys ↔ (a, k) ∈ F := ⟨fun z => (h.fr _ z).elim id fun z => z.1, h.on _⟩
theorem Wb.r {T : Int × Int → Prop} {F : List (Int × Int)} {k : Int} {X : Int × Int → Prop} {d : Dct (Int × Int) Int} (h : Wb T F k X d) (a : Int) : (k, a) ∈ d.keys ↔ (k, a) ∈ F := ⟨fun z => (h.fr _ z).elim id fun z => z.2, h.on _⟩
theorem Wb.put {T : Int × Int → Prop} (hT : ∀ a k b, T (a, k) → T (k, b) → T (a, b)) {F : List (Int × Int)} {k : Int} {X X' : Int × Int → Prop} {d : Dct (Int × Int) Int} (h : Wb T F k X d) {a b : Int} (h1 : (a, k) ∈ d.keys) (h2 : (k, b) ∈ d.keys) (hX : ∀ p, X' p → X p ∨ p = (a, b)) : Wb T F k X' (d.put (a, b) 0) := by
  have t := hT _ _ _ (h.dk.all _ h1) (h.dk.all _ h2)
  refine ⟨h.dk.put t, fun p hp => (h.dk.has_put p).mpr (.inl (h.on p hp)), fun p hp => ?_, fun x y hx e1 e2 => (h.dk.has_put _).mpr ?_⟩
  · rcases (h.dk.has_put p).mp hp with z | rfl
    · exact h.fr p z
    · exact .inr ⟨(h.l a).mp h1, (h.r b).mp h2⟩
  · exact (hX _ hx).elim (fun z => .inl (h.dn _ _ z e1 e2)) .inr
theorem Wb.keep {T : Int × Int → Prop} {F : List (Int × Int)} {k : Int} {X X' : Int × Int → Prop} {d : Dct (Int × Int) Int} (h : Wb T F k X d) {a b : Int} (h1 : ¬ ((a, k) ∈ d.keys ∧ (k, b) ∈ d.keys)) (hX : ∀ p, X' p → X p ∨ p = (a, b)) : Wb T F k X' d :=
  ⟨h.dk, h.on, h.fr, fun x y hx e1 e2 => (hX _ hx).elim (fun z => h.dn _ _ z e1 e2) fun z => by
    cases z
    exact absurd ⟨(h.l _).mpr e1, (h.r _).mpr e2⟩ h1⟩
theorem Wb.mono {T : Int × Int → Prop} {F : List (Int × Int)} {k : Int} {X X' : Int × Int → Prop} {d : Dct (Int × Int) Int} (h : Wb T F k X d) (hX : ∀ p, X' p → X p) : Wb T F k X' d := ⟨h.dk, h.on, h.fr, fun x y hx => h.dn x y (hX _ hx)⟩
theorem Wa.start {T : Int × Int → Prop} {ps : List (Int × Int)} {done : List Int} {d : Dct (Int × Int) Int} (h : Wa T ps done d) (k : Int) : Wb T d.keys k (fun _ => False) d := ⟨h.dk, fun _ h => h, fun _ h => .inl h, fun _ _ h => h.elim⟩
theorem Wa.turn {T : Int × Int → Prop} {ps : List (Int × Int)} {done : List Int} {n : Nat} {d d' : Dct (Int × Int) Int} {k : Int} (hI : ∀ p, T p → InR n p) (h : Wa T ps done d) (w : Wb T d.keys k (fun p => p.1 ∈ rg n ∧ p.2 ∈ rg n) d') : Wa T ps (done ++ [k]) d' := by
  have ful : ∀ a b, (a, k) ∈ d.keys → (k, b) ∈ d.keys → (a, b) ∈ d'.keys := fun a b h1 h2 => by
    have i1 := hI _ (h.dk.all _ h1)
    have i2 := hI _ (h.dk.all _ h2)
    exact w.dn a b ⟨mem_rg.mpr ⟨i1.1, i1.2.1⟩, mem_rg.mpr ⟨i2.2.2.1, i2.2.2.2⟩⟩ h1 h2
  refine ⟨w.dk, fun p hp => w.on p (h.on p hp), fun j hj a b h1 h2 => ?_⟩
  rcases List.mem_append.mp hj with hj | hj
  · rcases w.fr _ h1 with z1 | ⟨z1, z2⟩
    · rcases w.fr _ h2 with y1 | ⟨y1, y2⟩
      · exact w.on _ (h.cl j hj a b z1 y1)
      · exact ful a b (h.cl j hj _ _ z1 y1) y2
    · rcases w.fr _ h2 with y1 | ⟨y1, y2⟩
      · exact ful a b z1 (h.cl j hj _ _ z2 y1)
      · exact ful a b z1 y2
  · rw [List.mem_singleton.mp hj] at h1 h2
    exact ful a b ((w.l a).mp h1) ((w.r b).mp h2)
theorem Wa.done {T : Int × Int → Prop} {ps : List (Int × Int)} {n : Nat} {d : Dct (Int × Int) Int} (hI : ∀ p, T p → InR n p) (h : Wa T ps (rg n) d) : ∀ a b c, (a, b) ∈ d.keys → (b, c) ∈ d.keys → (a, c) ∈ d.keys := fun a b c h1 h2 => by
  have i1 := hI _ (h.dk.all _ h1)
  exact h.cl b (mem_rg.mpr ⟨i1.2.2.1, i1.2.2.2⟩) a c h1 h2
/-- an order by times -/
def btL (ts : List (Int × Int)) : List (Int × Int) := (rg ts.length).flatMap fun a => ((rg ts.length).filter fun b => decide ((pix ts a).2 < (pix ts b).1)).map fun b => (a, b)
theorem mem_btL {ts : List (Int × Int)} {a b : Int} : (a, b) ∈ btL ts ↔ (a ∈ rg ts.length ∧ b ∈ rg ts.length) ∧ (pix ts a).2 < (pix ts b).1 := by
  unfold btL
  simp only [List.mem_flatMap, List.mem_map, List.mem_filter, decide_eq_true_iff, Prod.mk.injEq]
  constructor
  · rintro ⟨x, hx, y, ⟨hy, h⟩, rfl, rfl⟩
    exact ⟨⟨hx, hy⟩, h⟩
  · rintro ⟨⟨hx, hy⟩, h⟩
    exact ⟨a, hx, b, ⟨hy, h⟩, rfl, rfl⟩
theorem btL_go (ts : List (Int × Int)) : GO ts.length (btL ts) := by
  constructor
  · rintro ⟨a, b⟩ hp
    have h := (mem_btL.mp hp).1
    have h1 := mem_rg.mp h.1
    have h2 := mem_rg.mp h.2
    exact ⟨h1.1, h1.2, h2.1, h2.2⟩
  · have srt := rg_srt ts.length
    unfold btL
    rw [List.flatMap_def, List.pairwise_flatten]
    constructor
    · intro l hl
      obtain ⟨a, ha, rfl⟩ := List.mem_map.mp hl
      rw [List.pairwise_map]
      exact (srt.filter _).imp fun h => .inr ⟨rfl, h⟩
    · rw [List.pairwise_map]
      refine srt.imp fun {a b} h => ?_
      intro x hx y hy
      obtain ⟨x2, _, rfl⟩ := List.mem_map.mp hx
      obtain ⟨y2, _, rfl⟩ := List.mem_map.mp hy
      exact .inl h
theorem pix_memA {α : Type} [Inhabited α] {xs : List α} {a : Int} (h : a ∈ rg xs.length) : pix xs a ∈ xs := by
  obtain ⟨h0, h1⟩ := mem_rg.mp h
  obtain ⟨i, rfl⟩ := Int.eq_ofNat_of_zero_le h0
  have hi : i < xs.length := by omega
  rw [pix_of (List.getElem?_eq_getElem hi)]
  exact List.getElem_mem hi
theorem btL_po {ts : List (Int × Int)} (h : ∀ t ∈ ts, t.1 ≤ t.2) : PO ts.length (btL ts) := by
  refine ⟨btL_go ts, fun a b c h1 h2 => ?_, fun a h1 => ?_⟩
  · have i1 := mem_btL.mp h1
    have i2 := mem_btL.mp h2
    have hb := h _ (pix_memA i1.1.2)
    exact mem_btL.mpr ⟨⟨i1.1.1, i2.1.2⟩, by omega⟩
  · have i1 := mem_btL.mp h1
    have hb := h _ (pix_memA i1.1.2)
    omega
/-- an order with one pair more -/
def Plus (ps : List (Int × Int)) (a b : Int) (p : Int × Int) : Prop := p ∈ ps ∨ ((p.1 = a ∨ (p.1, a) ∈ ps) ∧ (p.2 = b ∨ (b, p.2) ∈ ps))
theorem plus_tr {n : Nat} {ps : List (Int × Int)} (h : PO n ps) {a b : Int} (hab : a ≠ b) (hba : (b, a) ∉ ps) (x k y : Int) (h1 : Plus ps a b (x, k)) (h2 : Plus ps a b (k, y)) : Plus ps a b (x, y) := by
  rcases h1 with h1 | ⟨p1, p2⟩
  · rcases h2 with h2 | ⟨q1, q2⟩
    · exact .inl (h.tr _ _ _ h1 h2)
    · refine .inr ⟨.inr ?_, q2⟩
      rcases q1 with q1 | q1
      · simp only at q1; rw [← q1]; exact h1
      · exact h.tr _ _ _ h1 q1
  · rcases h2 with h2 | ⟨q1, q2⟩
    · refine .inr ⟨p1, .inr ?_⟩
      rcases p2 with p2 | p2
      · simp only at p2; rw [← p2]; exact h2
      · exact h.tr _ _ _ p2 h2
    · exact .inr ⟨p1, q2⟩
theorem plus_ir {n : Nat} {ps : List (Int × Int)} (h : PO n ps) {a b : Int} (hab : a ≠ b) (hba : (b, a) ∉ ps) (x : Int) : ¬ Plus ps a b (x, x) := by
  rintro (h1 | ⟨p1, p2⟩)
  · exact h.ir x h1
  · rcases p1 with p1 | p1 <;> rcases p2 with p2 | p2 <;> simp only at p1 p2
    · exact hab (p1 ▸ p2)
    · exact hba (p1 ▸ p2)
    · exact hba (p2 ▸ p1)
    · exact hba (h.tr _ _ _ p2 p1)
theorem plus_in {n : Nat} {ps : List (Int × Int)} (h : PO n ps) {a b : Int} (ha : 0 ≤ a ∧ a < n) (hb : 0 ≤ b ∧ b < n) (p : Int × Int) (hp : Plus ps a b p) : InR n p := by
  rcases hp with h1 | ⟨p1, p2⟩
  · exact h.go.inr p h1
  · have e1 : 0 ≤ p.1 ∧ p.1 < n := by
      rcases p1 with p1 | p1
      · rw [p1]; exact ha
      · have := h.go.inr _ p1; exact ⟨this.1, this.2.1⟩
    have e2 : 0 ≤ p.2 ∧ p.2 < n := by
      rcases p2 with p2 | p2
      · rw [p2]; exact hb
      · have := h.go.inr _ p2; exact ⟨this.2.2.1, this.2.2.2⟩
    exact ⟨e1.1, e1.2, e2.1, e2.2⟩
end
set_option maxHeartbeats 4000000
/-! K14e: drawn orders (variant A). -/
section
open PySem L2
abbrev CG (k : Nat) : Calls := callF (progOf rows) k
theorem rng_ok {n : Nat} (hn : n ≤ 1000) : RgOk 0 (n : Int) := rgOk_small (by decide) (by decide) (by omega) (by omega)
theorem ixOk {n : Nat} {i : Int} (h0 : 0 ≤ i) (h : i < n) : IxOk n i := ⟨by omega, h⟩
def zsl (n : Nat) (x1 : Option B) (d : Dct (Int × Int) Int) (x3 x4 x5 : Option B) : Nv := [some (.sh (en (n : Int))), x1, some (.own (en d)), x3, x4, x5, none]
section
variable {k n : Nat} {Q : D → Prop}
theorem s_pick {m : Int} (hm : m < 1073741824) (q : ∀ j : Int, 0 ≤ j → j < max 1 m → Q (en j)) : CG (k + 2) 9 [.src, .sh (en m)] Q := ⟨rfl, by omega, m, rfl, hm, q⟩
theorem s_mixed {α : Type} [Enc α] {xs : List α} (hl : xs.length ≤ 1000) (q : ∀ ys : List α, ys.Perm xs → Q (en ys)) : CG (k + 2) 10 [.src, .sh (en xs)] Q :=
  ⟨rfl, by omega, _, rfl, by rw [List.length_map]; exact hl, fun es pe => by
    obtain ⟨ys, rfl, p⟩ := perm_of_map pe rfl
    exact q ys p⟩
theorem c_1 {ps : List (Int × Int)} {T : Int × Int → Prop} {x1 : Option B} (hn : n ≤ 10) (hT : ∀ a k b, T (a, k) → T (k, b) → T (a, b)) (hI : ∀ p, T p → InR n p) (hi : ∀ p ∈ ps, T p) (q : ∀ qs, GO n qs → (∀ p ∈ qs, T p) → (∀ p ∈ ps, p ∈ qs) → (∀ a b c, (a, b) ∈ qs → (b, c) ∈ qs → (a, c) ∈ qs) → Q (en (Tu.mk qs))) :
    execs (CG k) (.cons (.for_ (.v 3) (.rng .no (.var 0)) b11_2) b11_3) (zsl n x1 (putsD ⟨[]⟩ (ps.map fun a => (a, (0 : Int)))) none none none) (koF Q) := by
  obtain ⟨k1, k2, _, _⟩ := keys_puts (ps.map fun a => (a, (0 : Int))) ⟨[]⟩
  have hd : Wa T ps [] (putsD (⟨[]⟩ : Dct (Int × Int) Int) (ps.map fun a => (a, (0 : Int)))) := by
    refine ⟨⟨k2 List.nodup_nil, fun y hy => ?_⟩, fun p hp => (k1 p).mpr (.inr ?_), fun j hj => nomatch hj⟩
    · rcases (k1 y).mp hy with h | h
      · cases h
      · rw [List.map_map] at h
        obtain ⟨p, hp, rfl⟩ := List.mem_map.mp h
        exact hi p hp
    · rw [List.map_map]
      exact List.mem_map.mpr ⟨p, hp, rfl⟩
  generalize putsD (⟨[]⟩ : Dct (Int × Int) Int) (ps.map fun a => (a, (0 : Int))) = d0 at hd
  clear k1 k2
  unfold zsl
  sizeOf_list_dec
  refine ⟨rng_ok (by omega), ?_⟩
  rw [rgI_rg]
  refine forL_inv (fun done ρ => ∃ d x3 x4 x5, ρ = zsl n x1 d x3 x4 x5 ∧ Wa T ps done d) (done := []) ⟨d0, none, none, none, rfl, hd⟩ ?_ ?_
  · rintro done k0 _ ρ e ⟨F, x3, x4, x5, rfl, hF⟩ K hK
    unfold zsl b11_2
    sizeOf_list_dec
    refine ⟨rng_ok (by omega), ?_⟩
    rw [rgI_rg]
    refine forL_inv (fun da ρ => ∃ d x4 x5, ρ = zsl n x1 d (some (.sh (en k0))) x4 x5 ∧ Wb T F.keys k0 (fun p => p.1 ∈ da ∧ p.2 ∈ rg n) d) (done := []) ⟨F, x4, x5, rfl, (hF.start k0).mono fun p h => nomatch h.1⟩ ?_ ?_
    · rintro da a _ ρ ea ⟨d, x4, x5, rfl, hd⟩ K2 hK2
      unfold zsl
      sizeOf_list_dec
      refine ⟨rng_ok (by omega), ?_⟩
      rw [rgI_rg]
      refine forL_inv (fun db ρ => ∃ d x5, ρ = zsl n x1 d (some (.sh (en k0))) (some (.sh (en a))) x5 ∧ Wb T F.keys k0 (fun p => (p.1 ∈ da ∧ p.2 ∈ rg n) ∨ (p.1 = a ∧ p.2 ∈ db)) d) (done := []) ⟨d, x5, rfl, hd.mono fun p h => h.elim id fun h => nomatch h.2⟩ ?_ ?_
      · rintro db b _ ρ eb ⟨d, x5, rfl, hd⟩ K3 hK3
        have hl := hd.dk.len hI hn
        have hX : ∀ p : Int × Int, ((p.1 ∈ da ∧ p.2 ∈ rg n) ∨ (p.1 = a ∧ p.2 ∈ db ++ [b])) → ((p.1 ∈ da ∧ p.2 ∈ rg n) ∨ (p.1 = a ∧ p.2 ∈ db)) ∨ p = (a, b) := fun p hp => by
          rcases hp with hp | ⟨h1, h2⟩
          · exact .inl (.inl hp)
          · rcases List.mem_append.mp h2 with h2 | h2
            · exact .inl (.inr ⟨h1, h2⟩)
            · exact .inr (Prod.ext h1 (List.mem_singleton.mp h2))
        unfold zsl b11_1 b11_0
        sizeOf_list_dec
        split
        · rename_i h
          rw [Bool.and_eq_true, Dct.has_iff, Dct.has_iff] at h
          exact ⟨szl (by omega), hK3 _ ⟨_, _, rfl, hd.put hT h.1 h.2 hX⟩⟩
        · rename_i h
          rw [Bool.and_eq_true, Dct.has_iff, Dct.has_iff] at h
          exact hK3 _ ⟨_, _, rfl, hd.keep h hX⟩
      · rintro ρ ⟨d, x5, rfl, hd⟩
        refine hK2 _ ⟨_, _, _, rfl, hd.mono fun p h => ?_⟩
        rcases List.mem_append.mp h.1 with h1 | h1
        · exact .inl ⟨h1, h.2⟩
        · exact .inr ⟨List.mem_singleton.mp h1, h.2⟩
    · rintro ρ ⟨d, x4, x5, rfl, hd⟩
      exact hK _ ⟨_, _, _, _, rfl, hF.turn (n := n) hI (hd.mono fun p h => h)⟩
  · rintro ρ ⟨d, x3, x4, x5, rfl, hd⟩
    unfold zsl b11_3
    sizeOf_list_dec
    rw [q_sortDP]
    sizeOf_list_dec
    have pm := fun p => (List.mergeSort_perm d.keys leP).mem_iff (a := p)
    have tr := hd.done (n := n) hI
    refine q _ (sorted_go hd.dk.nd fun q hq => hI q (hd.dk.all q hq)) (fun p hp => hd.dk.all p ((pm p).mp hp)) (fun p hp => (pm p).mpr (hd.on p hp)) fun a b c h1 h2 => ?_
    rw [pm] at h1 h2 ⊢
    exact tr a b c h1 h2
theorem s_closedL {ps : List (Int × Int)} {T : Int × Int → Prop} (hn : n ≤ 10) (hT : ∀ a k b, T (a, k) → T (k, b) → T (a, b)) (hI : ∀ p, T p → InR n p) (hi : ∀ p ∈ ps, T p) (hr : ∀ a, ¬ T (a, a)) (q : ∀ qs, PO n qs → Q (en (Tu.mk qs))) : CG (k + 1) 11 [.sh (en (n : Int)), .sh (en ps)] Q := by
  unfold CG; rw [hd11 rfl rfl]
  unfold b11
  sizeOf_list_dec
  rw [q_dictP2]
  sizeOf_list_dec
  have := c_1 (k := k) (n := n) (x1 := some (.sh (en ps))) (Q := Q) hn hT hI hi fun qs h1 h2 _ h4 => q qs ⟨h1, h4, fun a h => hr a (h2 _ h)⟩
  unfold zsl at this
  refine Eq.mp ?_ this
  sizeOf_list_dec
theorem s_closedT {ps : List (Int × Int)} {T : Int × Int → Prop} (hn : n ≤ 10) (hT : ∀ a k b, T (a, k) → T (k, b) → T (a, b)) (hI : ∀ p, T p → InR n p) (hi : ∀ p ∈ ps, T p) (hr : ∀ a, ¬ T (a, a)) (q : ∀ qs, PO n qs → Q (en (Tu.mk qs))) : CG (k + 1) 11 [.sh (en (n : Int)), .sh (en (Tu.mk ps))] Q := by
  unfold CG; rw [hd11 rfl rfl]
  unfold b11
  sizeOf_list_dec
  rw [q_dictP2]
  sizeOf_list_dec
  have := c_1 (k := k) (n := n) (x1 := some (.sh (en (Tu.mk ps)))) (Q := Q) hn hT hI hi fun qs h1 h2 _ h4 => q qs ⟨h1, h4, fun a h => hr a (h2 _ h)⟩
  unfold zsl at this
  refine Eq.mp ?_ this
  sizeOf_list_dec
theorem s_lbt {ts : List (Int × Int)} (h : ts.length ≤ 64) (q : Q (en (od ts.length (btL ts)))) : CG (k + 1) 12 [.sh (en ts)] Q := by
  unfold CG; rw [hd12 rfl]
  unfold b12
  sizeOf_list_dec
  refine ⟨rng_ok (by omega), ?_⟩
  rw [rgI_rg]
  refine forL_inv (fun done ρ => ∃ (acc : List (Int × Int)) (x2 x3 : Option B), ρ = [some (.sh (en ts)), some (.sh (en acc)), x2, x3] ∧ nOwn (some x3) = true ∧ acc = (done.flatMap fun a => ((rg ts.length).filter fun b => decide ((pix ts a).2 < (pix ts b).1)).map fun b => (a, b)) ∧ acc.length ≤ 64 * done.length) (done := []) ⟨[], none, none, rfl, rfl, rfl, by simp⟩ ?_ ?_
  · rintro done a r ρ e ⟨acc, x2, x3, rfl, hx, ea, hl⟩ K hK
    have ha : a ∈ rg ts.length := by rw [show rg ts.length = done ++ a :: r from e]; simp
    have har := mem_rg.mp ha
    have hdl : done.length + 1 ≤ 64 := by
      have := congrArg List.length (show rg ts.length = done ++ a :: r from e)
      rw [rg_len, List.length_append, List.length_cons] at this; omega
    have hfl := List.length_filter_le (fun b => decide ((pix ts a).2 < (pix ts b).1)) (rg ts.length)
    rw [rg_len] at hfl
    unfold b12_0
    sizeOf_list_dec
    rw [rgI_rg]
    refine ⟨⟨hx, rng_ok (by omega), fun b hb => ⟨ixOk har.1 har.2, ixOk (mem_rg.mp hb).1 (mem_rg.mp hb).2⟩⟩, szl (by omega), hK _ ⟨_, _, _, rfl, hx, ?_, ?_⟩⟩
    · rw [ea, List.flatMap_append, List.flatMap_cons, List.flatMap_nil, List.append_nil]
    · rw [List.length_append, List.length_map, List.length_append, List.length_cons, List.length_nil]; omega
  · rintro ρ ⟨acc, x2, x3, rfl, hx, ea, hl⟩
    unfold b12_1
    sizeOf_list_dec
    rw [ea]
    exact q
end
end
set_option maxHeartbeats 4000000
/-! PMi: begins raised until nothing rises, or a ring. -/
section
open PySem L2
section
variable {α : Type}
def Chn (R : α → α → Prop) : α → List α → Prop
  | _, [] => True
  | a, b :: l => R a b ∧ Chn R b l
def lst : α → List α → α
  | a, [] => a
  | _, b :: l => lst b l
theorem lst_app (a : α) (l : List α) (b : α) (m : List α) : lst a (l ++ b :: m) = lst b m := by
  induction l generalizing a with
  | nil => rfl
  | cons c l ih => exact ih c
theorem chn_app {R : α → α → Prop} (a : α) (l : List α) (b : α) (m : List α) : Chn R a (l ++ b :: m) ↔ Chn R a l ∧ R (lst a l) b ∧ Chn R b m := by
  induction l generalizing a with
  | nil => exact ⟨fun h => ⟨trivial, h⟩, fun h => h.2⟩
  | cons c l ih =>
    show (R a c ∧ Chn R c (l ++ b :: m)) ↔ (R a c ∧ Chn R c l) ∧ R (lst c l) b ∧ Chn R b m
    rw [ih c]
    exact ⟨fun h => ⟨⟨h.1, h.2.1⟩, h.2.2⟩, fun h => ⟨h.1.1, h.1.2, h.2⟩⟩
theorem lst_mem (a : α) (l : List α) : lst a l ∈ a :: l := by
  induction l generalizing a with
  | nil => exact List.mem_cons_self ..
  | cons c l ih => exact List.mem_cons_of_mem _ (ih c)
theorem chn_rev {R : α → α → Prop} (a : α) (l : List α) (h : Chn R a l) : ∃ l', (a :: l).reverse = lst a l :: l' ∧ Chn (fun x y => R y x) (lst a l) l' ∧ lst (lst a l) l' = a := by
  induction l generalizing a with
  | nil => exact ⟨[], rfl, trivial, rfl⟩
  | cons b m ih =>
    obtain ⟨l', e, c, t⟩ := ih b h.2
    refine ⟨l' ++ [a], ?_, ?_, ?_⟩
    · rw [List.reverse_cons, e]; rfl
    · exact (chn_app (lst b m) l' a []).mpr ⟨c, by rw [t]; exact h.1, trivial⟩
    · exact lst_app _ l' a []
theorem chn_imp {R S : α → α → Prop} {a : α} {l : List α} (h : Chn R a l) (hi : ∀ x y, R x y → S x y) : Chn S a l := by
  induction l generalizing a with
  | nil => trivial
  | cons b m ih => exact ⟨hi _ _ h.1, ih h.2⟩
theorem chn_map {f : α → Option α} (a : α) (l : List α) (z : α) (h : Chn (fun x y => f x = some y) a l) (hz : f (lst a l) = some z) : (a :: l).map f = (l ++ [z]).map some := by
  induction l generalizing a with
  | nil => rw [List.map_cons, List.map_nil]; exact congrArg (fun x => [x]) hz
  | cons b m ih =>
    rw [List.map_cons, ih b h.2 hz, h.1]; rfl
/-- pairs that a chain steps -/
theorem chn_zip {R : α → α → Prop} (a : α) (l : List α) (h : Chn R a l) : ∀ p ∈ List.zip (a :: l) l, R p.1 p.2 := by
  induction l generalizing a with
  | nil => intro p hp; simp at hp
  | cons b m ih =>
    intro p hp
    rw [List.zip_cons_cons] at hp
    rcases List.mem_cons.mp hp with rfl | hp
    · exact h.1
    · exact ih b h.2 p hp
end
theorem perm_sum {l m : List Int} (h : l.Perm m) : l.sum = m.sum := by
  induction h with
  | nil => rfl
  | cons x _ ih => rw [List.sum_cons, List.sum_cons, ih]
  | swap x y l => rw [List.sum_cons, List.sum_cons, List.sum_cons, List.sum_cons]; omega
  | trans _ _ h1 h2 => exact h1.trans h2
theorem sum3 {α : Type} {l : List α} {A B C : α → Int} (h : ∀ x ∈ l, A x ≤ B x + C x) : (l.map A).sum ≤ (l.map B).sum + (l.map C).sum := by
  induction l with
  | nil => simp
  | cons x l ih =>
    have h1 := h x (List.mem_cons_self ..)
    have h2 := ih fun y hy => h y (List.mem_cons_of_mem _ hy)
    simp only [List.map_cons, List.sum_cons]; omega
theorem tel (S : Int → Int) (a : Int) (l : List Int) : ((List.zip (a :: l) l).map fun p => S p.2 - S p.1).sum = S (lst a l) - S a := by
  induction l generalizing a with
  | nil => simp [lst]
  | cons b m ih =>
    rw [List.zip_cons_cons, List.map_cons, List.sum_cons, ih b]
    show S b - S a + (S (lst b m) - S b) = S (lst b m) - S a
    omega
abbrev Rn (n : Nat) (x : Int) : Prop := 0 ≤ x ∧ x < n
def rise (ps : List (Int × Int)) (L a b : Int) : Int := if mb (a, b) ps = true then L + 1 else 0 - L
structure Edg (n : Nat) (ps : List (Int × Int)) (a b : Int) : Prop where
  ra : Rn n a
  rb : Rn n b
  ne : a ≠ b
  no : (b, a) ∉ ps
def Sol (n : Nat) (ps : List (Int × Int)) (L : Int) (S : Int → Int) : Prop := ∀ a b, Edg n ps a b → S a + rise ps L a b ≤ S b
def Feas (n : Nat) (ps : List (Int × Int)) (L : Int) : Prop := ∃ S, Sol n ps L S
inductive Wq (n : Nat) (ps : List (Int × Int)) (L : Int) : Nat → Int → Int → Prop
  | z {v} : Rn n v → Wq n ps L 0 v 0
  | s {j u v c} : Wq n ps L j u c → Edg n ps u v → Wq n ps L (j + 1) v (c + rise ps L u v)
theorem Wq.rn {n : Nat} {ps : List (Int × Int)} {L : Int} {j : Nat} {v c : Int} (h : Wq n ps L j v c) : Rn n v := by
  cases h with
  | z h => exact h
  | s _ e => exact e.rb
def rs (ps : List (Int × Int)) (L : Int) (ah : Int → Option Int) (x : Int) : Int := match ah x with
  | some u => rise ps L u x
  | none => 0
structure BF (n : Nat) (ps : List (Int × Int)) (L : Int) (j : Nat) (g : Int → Int) (ah : Int → Option Int) : Prop where
  nn : ∀ x, Rn n x → 0 ≤ g x
  ed : ∀ x u, Rn n x → ah x = some u → Edg n ps u x ∧ g x ≤ g u + rise ps L u x
  rt : ∀ x, Rn n x → ah x = none → g x = 0
  ls : ∀ S, Sol n ps L S → (∀ x, Rn n x → 0 ≤ S x) → ∀ x, Rn n x → g x ≤ S x
  cy : ∀ l : List Int, l ≠ [] → l.Nodup → (∀ x ∈ l, Rn n x) → (l.map ah).Perm (l.map some) → 0 < (l.map (rs ps L ah)).sum
  lo : ∀ i, i ≤ j → ∀ v c, Wq n ps L i v c → c ≤ g v
def updF {β : Type} (f : Int → β) (b : Int) (v : β) : Int → β := fun x => if x = b then v else f x
theorem updF_s {β : Type} (f : Int → β) (b : Int) (v : β) : updF f b v b = v := if_pos rfl
theorem updF_n {β : Type} (f : Int → β) {b x : Int} (v : β) (h : x ≠ b) : updF f b v x = f x := if_neg h
section
variable {n : Nat} {ps : List (Int × Int)} {L : Int} {j : Nat} {g : Int → Int} {ah : Int → Option Int}
theorem BF.start : BF n ps L 0 (fun _ => 0) (fun _ => none) where
  nn := fun _ _ => Int.le_refl 0
  ed := fun _ _ _ h => nomatch h
  rt := fun _ _ _ => rfl
  ls := fun _ _ h x hx => h x hx
  cy := fun l hl _ _ hp => by
    cases l with
    | nil => exact absurd rfl hl
    | cons x l =>
      have := hp.mem_iff.mp (List.mem_map.mpr ⟨x, List.mem_cons_self .., rfl⟩)
      obtain ⟨y, _, hy⟩ := List.mem_map.mp this
      cases hy
  lo := fun i hi v c h => by
    have : i = 0 := by omega
    subst this
    cases h; exact Int.le_refl 0
/-- a ring of ahs -/
theorem ring_some {l : List Int} {f : Int → Option Int} {m : List Int} (hp : (l.map f).Perm (m.map some)) {x : Int} (hx : x ∈ l) : ∃ u, f x = some u ∧ u ∈ m := by
  have := hp.mem_iff.mp (List.mem_map.mpr ⟨x, hx, rfl⟩)
  obtain ⟨y, hy, e⟩ := List.mem_map.mp this
  exact ⟨y, e.symm, hy⟩
theorem sum_opt {l m : List Int} {f : Int → Option Int} (G : Int → Int) (hp : (l.map f).Perm (m.map some)) : (l.map fun x => ((f x).map G).getD 0).sum = (m.map G).sum := by
  have h := perm_sum (hp.map fun o : Option Int => (o.map G).getD 0)
  rw [List.map_map, List.map_map] at h
  exact h
theorem BF.step (h : BF n ps L j g ah) {a b : Int} (e : Edg n ps a b) (hg : g a + rise ps L a b > g b) : BF n ps L j (updF g b (g a + rise ps L a b)) (updF ah b (some a)) := by
  have ge : ∀ x, g x ≤ updF g b (g a + rise ps L a b) x := fun x => by
    by_cases hx : x = b
    · rw [hx, updF_s]; omega
    · rw [updF_n _ _ hx]; exact Int.le_refl _
  refine ⟨fun x hx => Int.le_trans (h.nn x hx) (ge x), fun x u hx hu => ?_, fun x hx hu => ?_, fun S hS h0 x hx => ?_, fun l hl nd hr hp => ?_, fun i hi v c hw => Int.le_trans (h.lo i hi v c hw) (ge v)⟩
  · by_cases hb : x = b
    · subst hb
      rw [updF_s] at hu
      cases hu
      rw [updF_s, updF_n _ _ e.ne]
      exact ⟨e, Int.le_refl _⟩
    · rw [updF_n _ _ hb] at hu
      obtain ⟨e1, e2⟩ := h.ed x u hx hu
      rw [updF_n _ _ hb]
      have := ge u
      exact ⟨e1, by omega⟩
  · by_cases hb : x = b
    · subst hb; rw [updF_s] at hu; cases hu
    · rw [updF_n _ _ hb] at hu ⊢
      exact h.rt x hx hu
  · by_cases hb : x = b
    · subst hb
      rw [updF_s]
      have := h.ls S hS h0 a e.ra
      have := hS a x e
      omega
    · rw [updF_n _ _ hb]; exact h.ls S hS h0 x hx
  · by_cases hb : b ∈ l
    · have pe := List.perm_cons_erase hb
      generalize hl' : l.erase b = l' at pe
      have nd' := pe.nodup_iff.mp nd
      have nb : b ∉ l' := (List.nodup_cons.mp nd').1
      have hne : ∀ x ∈ l', x ≠ b := fun x hx e => nb (e ▸ hx)
      have em : l'.map (updF ah b (some a)) = l'.map ah := List.map_congr_left fun x hx => updF_n _ _ (hne x hx)
      have p1 : (some a :: l'.map ah).Perm (some b :: l'.map some) := by
        have := ((pe.map (updF ah b (some a))).symm.trans hp).trans (pe.map some)
        rw [List.map_cons, List.map_cons, updF_s, em] at this
        exact this
      have so : ∀ x ∈ l', ∃ u, ah x = some u := fun x hx => by
        have := p1.mem_iff.mp (List.mem_cons_of_mem _ (List.mem_map.mpr ⟨x, hx, rfl⟩))
        rcases List.mem_cons.mp this with z | z
        · exact ⟨b, z⟩
        · obtain ⟨y, _, e⟩ := List.mem_map.mp z
          exact ⟨y, e.symm⟩
      have s1 := perm_sum (p1.map fun o : Option Int => (o.map g).getD 0)
      rw [List.map_cons, List.map_cons, List.sum_cons, List.sum_cons, List.map_map, List.map_map] at s1
      have s2 : (l'.map g).sum ≤ (l'.map ((fun o : Option Int => (o.map g).getD 0) ∘ ah)).sum + (l'.map (rs ps L ah)).sum := sum3 fun x hx => by
        obtain ⟨u, hu⟩ := so x hx
        have hxr : Rn n x := hr x (pe.mem_iff.mpr (List.mem_cons_of_mem _ hx))
        have := (h.ed x u hxr hu).2
        simp only [Function.comp, hu, rs, Option.map_some, Option.getD_some]
        exact this
      have s3 := perm_sum (pe.map (rs ps L (updF ah b (some a))))
      rw [List.map_cons, List.sum_cons] at s3
      have s4 : l'.map (rs ps L (updF ah b (some a))) = l'.map (rs ps L ah) := List.map_congr_left fun x hx => by unfold rs; rw [updF_n _ _ (hne x hx)]
      have s5 : rs ps L (updF ah b (some a)) b = rise ps L a b := by unfold rs; rw [updF_s]
      rw [s4, s5] at s3
      rw [s3]
      have s6 : (l'.map ((fun o : Option Int => (o.map g).getD 0) ∘ some)).sum = (l'.map g).sum := rfl
      rw [s6] at s1
      simp only [Option.map_some, Option.getD_some] at s1
      omega
    · have hne : ∀ x ∈ l, x ≠ b := fun x hx e => hb (e ▸ hx)
      have em : l.map (updF ah b (some a)) = l.map ah := List.map_congr_left fun x hx => updF_n _ _ (hne x hx)
      have s4 : l.map (rs ps L (updF ah b (some a))) = l.map (rs ps L ah) := List.map_congr_left fun x hx => by unfold rs; rw [updF_n _ _ (hne x hx)]
      rw [s4]
      rw [em] at hp
      exact h.cy l hl nd hr hp
/-- within a lap -/
structure Lp (n : Nat) (ps : List (Int × Int)) (L : Int) (j : Nat) (g0 : Int → Int) (X : Int → Int → Prop) (g : Int → Int) (ah : Int → Option Int) : Prop where
  bf : BF n ps L j g ah
  ge : ∀ x, Rn n x → g0 x ≤ g x
  dn : ∀ a b, X a b → Edg n ps a b → g0 a + rise ps L a b ≤ g b
variable {g0 : Int → Int} {X X' : Int → Int → Prop}
theorem BF.lap (h : BF n ps L j g ah) : Lp n ps L j g (fun _ _ => False) g ah := ⟨h, fun _ _ => Int.le_refl _, fun _ _ h => h.elim⟩
theorem Lp.keep (h : Lp n ps L j g0 X g ah) {a b : Int} (hk : Edg n ps a b → g a + rise ps L a b ≤ g b) (hX : ∀ x y, X' x y → X x y ∨ (x = a ∧ y = b)) : Lp n ps L j g0 X' g ah :=
  ⟨h.bf, h.ge, fun x y hx e => (hX x y hx).elim (fun z => h.dn x y z e) fun ⟨h1, h2⟩ => by
    subst h1; subst h2
    have := h.ge x e.ra
    have := hk e
    omega⟩
theorem Lp.step (h : Lp n ps L j g0 X g ah) {a b : Int} (e : Edg n ps a b) (hg : g a + rise ps L a b > g b) (hX : ∀ x y, X' x y → X x y ∨ (x = a ∧ y = b)) : Lp n ps L j g0 X' (updF g b (g a + rise ps L a b)) (updF ah b (some a)) := by
  have ge : ∀ x, g x ≤ updF g b (g a + rise ps L a b) x := fun x => by
    by_cases hx : x = b
    · rw [hx, updF_s]; omega
    · rw [updF_n _ _ hx]; exact Int.le_refl _
  refine ⟨h.bf.step e hg, fun x hx => Int.le_trans (h.ge x hx) (ge x), fun x y hx e2 => (hX x y hx).elim (fun z => Int.le_trans (h.dn x y z e2) (ge y)) fun ⟨h1, h2⟩ => ?_⟩
  subst h1; subst h2
  rw [updF_s]
  have := h.ge x e.ra
  omega
theorem Lp.mono (h : Lp n ps L j g0 X g ah) (hX : ∀ x y, X' x y → X x y) : Lp n ps L j g0 X' g ah := ⟨h.bf, h.ge, fun x y hx => h.dn x y (hX x y hx)⟩
theorem Lp.mono2 (h : Lp n ps L j g0 X g ah) (hX : ∀ x y, X' x y → Edg n ps x y → X x y) : Lp n ps L j g0 X' g ah := ⟨h.bf, h.ge, fun x y hx e => h.dn x y (hX x y hx e) e⟩
theorem Lp.turn {ah0 : Int → Option Int} (h0 : BF n ps L j g0 ah0) (h : Lp n ps L j g0 (fun a b => Rn n a ∧ Rn n b) g ah) : BF n ps L (j + 1) g ah := by
  refine ⟨h.bf.nn, h.bf.ed, h.bf.rt, h.bf.ls, h.bf.cy, fun i hi v c hw => ?_⟩
  cases hw with
  | z hv => exact h.bf.nn v hv
  | @s i u _ c hw e =>
    have := h0.lo i (by omega) u c hw
    have := h.dn u v ⟨e.ra, e.rb⟩ e
    omega
/-- nothing rises: it does -/
theorem Lp.still (h : Lp n ps L j g0 (fun a b => Rn n a ∧ Rn n b) g ah) (hs : ∀ x, Rn n x → g x = g0 x) : Sol n ps L g := fun a b e => by
  have := h.dn a b ⟨e.ra, e.rb⟩ e
  rw [hs a e.ra]; omega
theorem chain_w (h : BF n ps L j g ah) : ∀ (l : List Int) (v : Int), Rn n v → Chn (fun x y => ah x = some y) v l → ah (lst v l) = none → ∃ c, Wq n ps L l.length v c ∧ g v ≤ c
  | [], v, hv, _, hz => ⟨0, .z hv, by rw [h.rt v hv hz]; exact Int.le_refl _⟩
  | u :: l, v, hv, hc, hz => by
    obtain ⟨e, hle⟩ := h.ed v u hv hc.1
    obtain ⟨c, w, hw⟩ := chain_w h l u e.ra hc.2 hz
    exact ⟨_, .s w e, by omega⟩
theorem chain_rn (h : BF n ps L j g ah) : ∀ (l : List Int) (v : Int), Rn n v → Chn (fun x y => ah x = some y) v l → ∀ x ∈ v :: l, Rn n x
  | [], v, hv, _ => fun x hx => by rw [List.mem_singleton.mp hx]; exact hv
  | u :: l, v, hv, hc => fun x hx => by
    rcases List.mem_cons.mp hx with rfl | hx
    · exact hv
    · exact chain_rn h l u (h.ed v u hv hc.1).1.ra hc.2 x hx
theorem len_rn {l : List Int} (nd : l.Nodup) (h : ∀ x ∈ l, Rn n x) : l.length ≤ n := by
  have := len_of_sub l (rg n) nd fun x hx => mem_rg.mpr (h x hx)
  rw [rg_len] at this
  exact this
/-- a lap too many: what is ahead never ends -/
theorem Lp.stuck {ah0 : Int → Option Int} (h0 : BF n ps L j g0 ah0) (h : Lp n ps L j g0 X g ah) (hj : n ≤ j) {v : Int} (hv : Rn n v) (hr : g0 v < g v) {l : List Int} (hc : Chn (fun x y => ah x = some y) v l) (nd : (v :: l).Nodup) : ∃ u, ah (lst v l) = some u ∧ Rn n u := by
  cases hz : ah (lst v l) with
  | some u => exact ⟨u, rfl, (h.bf.ed _ u (chain_rn h.bf l v hv hc _ (lst_mem v l)) hz).1.ra⟩
  | none =>
    exfalso
    obtain ⟨c, w, hw⟩ := chain_w h.bf l v hv hc hz
    have hl := len_rn nd (chain_rn h.bf l v hv hc)
    rw [List.length_cons] at hl
    have := h0.lo l.length (by omega) v c w
    omega
/-- a ring by what is ahead -/
structure Rg (n : Nat) (ah : Int → Option Int) (w : Int) (B : List Int) : Prop where
  rn : ∀ x ∈ w :: B, Rn n x
  nd : (w :: B).Nodup
  ch : Chn (fun x y => ah x = some y) w B
  cl : ah (lst w B) = some w
theorem ring_of (h : BF n ps L j g ah) {v : Int} (hv : Rn n v) {l : List Int} (hc : Chn (fun x y => ah x = some y) v l) (nd : (v :: l).Nodup) {w : Int} (hz : ah (lst v l) = some w) (hw : w ∈ v :: l) : ∃ B, Rg n ah w B := by
  obtain ⟨A, B, e⟩ := List.append_of_mem hw
  have rn := chain_rn h l v hv hc
  refine ⟨B, fun x hx => rn x (by rw [e]; exact List.mem_append_right _ hx), ?_, ?_, ?_⟩
  · rw [e] at nd; exact (List.nodup_append.mp nd).2.1
  · cases A with
    | nil => simp only [List.nil_append, List.cons.injEq] at e; obtain ⟨rfl, rfl⟩ := e; exact hc
    | cons a A =>
      simp only [List.cons_append, List.cons.injEq] at e
      obtain ⟨rfl, rfl⟩ := e
      exact ((chn_app _ _ _ _).mp hc).2.2
  · cases A with
    | nil => simp only [List.nil_append, List.cons.injEq] at e; obtain ⟨rfl, rfl⟩ := e; exact hz
    | cons a A =>
      simp only [List.cons_append, List.cons.injEq] at e
      obtain ⟨rfl, rfl⟩ := e
      rw [lst_app] at hz; exact hz
theorem ring_ex (h : BF n ps L j g ah) {v : Int} (hv : Rn n v) (hs : ∀ l, Chn (fun x y => ah x = some y) v l → (v :: l).Nodup → ∃ u, ah (lst v l) = some u ∧ Rn n u) : ∀ (m : Nat) (l : List Int), n ≤ m + l.length → Chn (fun x y => ah x = some y) v l → (v :: l).Nodup → ∃ w B, Rg n ah w B
  | m, l, hm, hc, nd => by
    obtain ⟨u, hu, ur⟩ := hs l hc nd
    by_cases hmem : u ∈ v :: l
    · obtain ⟨B, r⟩ := ring_of h hv hc nd hu hmem
      exact ⟨u, B, r⟩
    · have hl := len_rn nd (chain_rn h l v hv hc)
      rw [List.length_cons] at hl
      match m with
      | 0 => omega
      | m + 1 =>
        refine ring_ex h hv hs m (l ++ [u]) (by rw [List.length_append, List.length_cons, List.length_nil]; omega) ((chn_app v l u []).mpr ⟨hc, hu, trivial⟩) ?_
        rw [← List.cons_append]
        exact List.nodup_append.mpr ⟨nd, by simp, fun a ha b hb => by rw [List.mem_singleton.mp hb]; exact fun e => hmem (e ▸ ha)⟩
theorem Rg.perm {w : Int} {B : List Int} (r : Rg n ah w B) : ((w :: B).map ah).Perm ((w :: B).map some) := by
  rw [chn_map w B w r.ch r.cl]
  exact List.Perm.map some (by simpa using (List.perm_append_comm (l₁ := B) (l₂ := [w])))
theorem Rg.pos (h : BF n ps L j g ah) {w : Int} {B : List Int} (r : Rg n ah w B) : 0 < ((w :: B).map (rs ps L ah)).sum := h.cy _ (by simp) r.nd r.rn r.perm
theorem Rg.not (h : BF n ps L j g ah) {w : Int} {B : List Int} (r : Rg n ah w B) : ¬ Feas n ps L := by
  rintro ⟨S, hS⟩
  have h1 := r.pos h
  have h2 := sum_opt S r.perm
  have h3 : ((w :: B).map fun x => ((ah x).map S).getD 0).sum + ((w :: B).map (rs ps L ah)).sum ≤ ((w :: B).map S).sum := by
    have : ((w :: B).map fun x => ((ah x).map S).getD 0 + rs ps L ah x).sum ≤ ((w :: B).map S).sum + ((w :: B).map fun _ => (0 : Int)).sum := sum3 fun x hx => by
      obtain ⟨u, hu, _⟩ := ring_some r.perm hx
      have e := (h.ed x u (r.rn x hx) hu).1
      have := hS u x e
      simp only [hu, rs, Option.map_some, Option.getD_some]
      omega
    have z : ((w :: B).map fun _ => (0 : Int)).sum = 0 := by
      generalize w :: B = l
      induction l with
      | nil => rfl
      | cons x l ih => rw [List.map_cons, List.sum_cons, ih]; rfl
    have a : ((w :: B).map fun x => ((ah x).map S).getD 0 + rs ps L ah x).sum = ((w :: B).map fun x => ((ah x).map S).getD 0).sum + ((w :: B).map (rs ps L ah)).sum := by
      generalize w :: B = l
      induction l with
      | nil => rfl
      | cons x l ih => simp only [List.map_cons, List.sum_cons, ih]; omega
    omega
  omega
end
end
set_option maxHeartbeats 4000000
/-! PMj: the least begins; rings and lengths. -/
section
open PySem L2
section
variable {n : Nat} {ps : List (Int × Int)} {L : Int}
theorem Sol.congr {S T : Int → Int} (h : Sol n ps L S) (e : ∀ x, Rn n x → T x = S x) : Sol n ps L T := fun a b hd => by
  rw [e a hd.ra, e b hd.rb]; exact h a b hd
/-- a list tells values -/
structure Tls (n : Nat) {β : Type} [Inhabited β] (bl : List β) (g : Int → β) : Prop where
  len : bl.length = n
  eq : ∀ x, Rn n x → pix bl x = g x
theorem pix_pset {β : Type} [Inhabited β] {xs : List β} {i x : Int} {v : β} (hi : 0 ≤ i ∧ i < xs.length) (hx : 0 ≤ x ∧ x < xs.length) : pix (pset xs i v) x = if x = i then v else pix xs x := by
  obtain ⟨i, rfl⟩ := Int.eq_ofNat_of_zero_le hi.1
  obtain ⟨x, rfl⟩ := Int.eq_ofNat_of_zero_le hx.1
  have e : pset xs (i : Int) v = xs.set i v := by unfold pset; rw [if_neg (by omega), Int.toNat_natCast]
  rw [e]
  by_cases h : x = i
  · subst h
    rw [if_pos rfl]
    exact pix_of (by rw [List.getElem?_set_self (by omega)])
  · rw [if_neg (by omega)]
    have h1 : (xs.set i v)[x]? = xs[x]? := List.getElem?_set_ne (by omega)
    have h2 : xs[x]? = some (xs[x]'(by omega)) := List.getElem?_eq_getElem (by omega)
    rw [pix_of (h1.trans h2), pix_of h2]
theorem pset_len {β : Type} (xs : List β) (i : Int) (v : β) : (pset xs i v).length = xs.length := by unfold pset; exact List.length_set
theorem Tls.set {β : Type} [Inhabited β] {bl : List β} {g : Int → β} (h : Tls n bl g) {b : Int} (hb : Rn n b) (v : β) : Tls n (pset bl b v) (updF g b v) := by
  refine ⟨by rw [pset_len]; exact h.len, fun x hx => ?_⟩
  rw [pix_pset (by rw [h.len]; exact hb) (by rw [h.len]; exact hx)]
  unfold updF
  by_cases e : x = b
  · rw [if_pos e, if_pos e]
  · rw [if_neg e, if_neg e]; exact h.eq x hx
theorem Tls.uniq {β : Type} [Inhabited β] {bl bm : List β} {g : Int → β} (h : Tls n bl g) (h2 : Tls n bm g) : bl = bm := by
  refine List.ext_getElem (by rw [h.len, h2.len]) fun i h3 h4 => ?_
  have e1 := h.eq i ⟨by omega, by rw [← h.len]; omega⟩
  have e2 := h2.eq i ⟨by omega, by rw [← h.len]; omega⟩
  rw [pix_of (List.getElem?_eq_getElem h3)] at e1
  rw [pix_of (List.getElem?_eq_getElem h4)] at e2
  rw [e1, e2]
theorem Tls.rep {β : Type} [Inhabited β] (n : Nat) (v : β) : Tls n (List.replicate n v) (fun _ => v) := by
  refine ⟨List.length_replicate, fun x hx => ?_⟩
  obtain ⟨x, rfl⟩ := Int.eq_ofNat_of_zero_le hx.1
  exact pix_of (List.getElem?_replicate_of_lt (by omega))
/-- the least begins -/
structure Lst (n : Nat) (ps : List (Int × Int)) (L : Int) (bl : List Int) : Prop where
  len : bl.length = n
  sol : Sol n ps L (pix bl)
  nn : ∀ x, Rn n x → 0 ≤ pix bl x
  ls : ∀ S, Sol n ps L S → (∀ x, Rn n x → 0 ≤ S x) → ∀ x, Rn n x → pix bl x ≤ S x
theorem Lst.uniq {bl bm : List Int} (h : Lst n ps L bl) (h2 : Lst n ps L bm) : bl = bm :=
  Tls.uniq (n := n) (g := pix bm) ⟨h.len, fun x hx => Int.le_antisymm (h.ls _ h2.sol h2.nn x hx) (h2.ls _ h.sol h.nn x hx)⟩ ⟨h2.len, fun _ _ => rfl⟩
theorem Lst.zero {bl : List Int} (h : Lst n ps L bl) (hn : 1 ≤ n) : ∃ x, Rn n x ∧ pix bl x = 0 := by
  by_cases hz : ∃ x, Rn n x ∧ pix bl x = 0
  · exact hz
  · exfalso
    have pos : ∀ x, Rn n x → 1 ≤ pix bl x := fun x hx => by
      have h1 := h.nn x hx
      have h2 : pix bl x ≠ 0 := fun e => hz ⟨x, hx, e⟩
      omega
    have h1 := h.ls (fun x => pix bl x - 1) (fun a b e => by have := h.sol a b e; show pix bl a - 1 + _ ≤ pix bl b - 1; omega) (fun x hx => by have := pos x hx; show 0 ≤ pix bl x - 1; omega) 0 ⟨Int.le_refl _, by omega⟩
    have : pix bl 0 ≤ pix bl 0 - 1 := h1
    omega
theorem Lst.feas {bl : List Int} (h : Lst n ps L bl) : Feas n ps L := ⟨_, h.sol⟩
theorem Lp.lst {j : Nat} {g0 g : Int → Int} {ah : Int → Option Int} {bl : List Int} (h : Lp n ps L j g0 (fun a b => Rn n a ∧ Rn n b) g ah) (hs : ∀ x, Rn n x → g x = g0 x) (r : Tls n bl g) : Lst n ps L bl :=
  ⟨r.len, (h.still hs).congr r.eq, fun x hx => by rw [r.eq x hx]; exact h.bf.nn x hx, fun S hS h0 x hx => by rw [r.eq x hx]; exact h.bf.ls S hS h0 x hx⟩
theorem lap_run {j : Nat} {g0 : Int → Int} : ∀ (prs : List (Int × Int)) (X : Int → Int → Prop) (g : Int → Int) (ah : Int → Option Int), Lp n ps L j g0 X g ah → ∃ g' ah', Lp n ps L j g0 (fun a b => X a b ∨ (a, b) ∈ prs) g' ah'
  | [], X, g, ah, h => ⟨g, ah, h.mono fun _ _ z => z.elim id fun z => nomatch z⟩
  | p :: prs, X, g, ah, h => by
    have hX : ∀ x y, (X x y ∨ (x = p.1 ∧ y = p.2)) → X x y ∨ (x = p.1 ∧ y = p.2) := fun _ _ z => z
    have fin : ∀ g ah, Lp n ps L j g0 (fun x y => X x y ∨ (x = p.1 ∧ y = p.2)) g ah → ∃ g' ah', Lp n ps L j g0 (fun a b => X a b ∨ (a, b) ∈ p :: prs) g' ah' := fun g ah h => by
      obtain ⟨g', ah', h'⟩ := lap_run prs _ g ah h
      refine ⟨g', ah', h'.mono fun a b z => ?_⟩
      rcases z with z | z
      · exact .inl (.inl z)
      · rcases List.mem_cons.mp z with z | z
        · exact .inl (.inr ⟨congrArg Prod.fst z, congrArg Prod.snd z⟩)
        · exact .inr z
    by_cases hc : Edg n ps p.1 p.2 ∧ g p.1 + rise ps L p.1 p.2 > g p.2
    · exact fin _ _ (h.step hc.1 hc.2 hX)
    · exact fin _ _ (h.keep (fun e => by have : ¬ _ := fun z => hc ⟨e, z⟩; omega) hX)
theorem lap_all {j : Nat} {g : Int → Int} {ah : Int → Option Int} (h : BF n ps L j g ah) : ∃ g' ah', Lp n ps L j g (fun a b => Rn n a ∧ Rn n b) g' ah' := by
  obtain ⟨g', ah', h'⟩ := lap_run (grid n) _ g ah h.lap
  exact ⟨g', ah', h'.mono fun a b z => .inr (in_grid ⟨z.1.1, z.1.2, z.2.1, z.2.2⟩)⟩
theorem laps : ∀ j : Nat, ∃ g ah, BF n ps L j g ah
  | 0 => ⟨_, _, BF.start⟩
  | j + 1 => by
    obtain ⟨g, ah, h⟩ := laps j
    obtain ⟨g', ah', h'⟩ := lap_all h
    exact ⟨g', ah', h'.turn h⟩
theorem Lp.rose {j : Nat} {X : Int → Int → Prop} {g0 g : Int → Int} {ah ah0 : Int → Option Int} (h0 : BF n ps L j g0 ah0) (h : Lp n ps L j g0 X g ah) (hj : n ≤ j) {v : Int} (hv : Rn n v) (hr : g0 v < g v) : ∃ w B, Rg n ah w B :=
  ring_ex h.bf hv (fun l hc nd => h.stuck h0 hj hv hr hc nd) n [] (by simp) trivial (by simp)
theorem dich : (∃ bl, Lst n ps L bl) ∨ ∃ j g ah w B, BF n ps L j g ah ∧ Rg n ah w B := by
  obtain ⟨g0, ah0, h0⟩ := laps (n := n) (ps := ps) (L := L) n
  obtain ⟨g, ah, h⟩ := lap_all h0
  by_cases hs : ∀ x, Rn n x → g x = g0 x
  · refine .inl ⟨(rg n).map g, h.lst hs ⟨by rw [List.length_map, rg_len], fun x hx => pix_mapR hx.1 hx.2⟩⟩
  · right
    simp only [Classical.not_forall] at hs
    obtain ⟨v, hv, hne⟩ := hs
    have := h.ge v hv
    obtain ⟨w, B, r⟩ := h.rose h0 (Nat.le_refl _) hv (by omega)
    exact ⟨n, g, ah, w, B, h.bf, r⟩
theorem feas_lst (h : Feas n ps L) : ∃ bl, Lst n ps L bl := by
  rcases dich (n := n) (ps := ps) (L := L) with z | ⟨j, g, ah, w, B, b, r⟩
  · exact z
  · exact absurd h (r.not b)
open Classical in
noncomputable def evT (n : Nat) (ps : List (Int × Int)) (L : Int) : Option (Tu Int) := if h : ∃ bl, Lst n ps L bl then some ⟨h.choose⟩ else none
theorem evT_of {bl : List Int} (h : Lst n ps L bl) : evT n ps L = some ⟨bl⟩ := by
  unfold evT
  have e : ∃ bl, Lst n ps L bl := ⟨bl, h⟩
  rw [dif_pos e, e.choose_spec.uniq h]
theorem evT_no (h : ¬ Feas n ps L) : evT n ps L = none := by
  unfold evT
  rw [dif_neg fun ⟨bl, z⟩ => h z.feas]
theorem evT_some {t : Tu Int} (h : evT n ps L = some t) : Lst n ps L t.l := by
  by_cases hf : Feas n ps L
  · obtain ⟨bl, hb⟩ := feas_lst hf
    rw [evT_of hb] at h
    cases h; exact hb
  · rw [evT_no hf] at h; cases h
theorem evT_none : (evT n ps L).isNone = true ↔ ¬ Feas n ps L := by
  by_cases hf : Feas n ps L
  · obtain ⟨bl, hb⟩ := feas_lst hf
    rw [evT_of hb]; simp [hf]
  · rw [evT_no hf]; simp [hf]
/-- steps of a ring -/
def stp : List Int → List (Int × Int)
  | [] => []
  | a :: l => List.zip (PD.lst a l :: a :: l) (a :: l)
structure Ring (n : Nat) (ps : List (Int × Int)) (r : List Int) : Prop where
  nd : r.Nodup
  rn : ∀ x ∈ r, Rn n x
  cy : ∃ a l, r = a :: l ∧ Chn (Edg n ps) a l ∧ Edg n ps (PD.lst a l) a
theorem Ring.steps {r : List Int} (h : Ring n ps r) : ∀ p ∈ stp r, Edg n ps p.1 p.2 := by
  obtain ⟨a, l, rfl, c, e⟩ := h.cy
  exact chn_zip (R := Edg n ps) (PD.lst a l) (a :: l) ⟨e, c⟩
def ups (ps : List (Int × Int)) (r : List Int) : Nat := ((stp r).filter fun p => mb p ps).length
theorem stp_len (r : List Int) : (stp r).length = r.length := by
  cases r with
  | nil => rfl
  | cons a l => unfold stp; rw [List.length_zip]; simp
theorem sum_rise (ps : List (Int × Int)) (L : Int) : ∀ q : List (Int × Int), (q.map fun p => rise ps L p.1 p.2).sum = ((q.filter fun p => mb p ps).length : Int) + L * (2 * ((q.filter fun p => mb p ps).length : Int) - q.length)
  | [] => by simp
  | p :: q => by
    rw [List.map_cons, List.sum_cons, sum_rise ps L q, List.filter_cons, List.length_cons]
    unfold rise
    by_cases h : mb p ps = true
    · rw [if_pos (show mb (p.1, p.2) ps = true from h), if_pos h, List.length_cons]
      generalize (q.filter fun p => mb p ps).length = u
      have e : 2 * ((u + 1 : Nat) : Int) - ((q.length + 1 : Nat) : Int) = (2 * (u : Int) - q.length) + 1 := by omega
      rw [e, Int.mul_add]; omega
    · rw [if_neg (show ¬ mb (p.1, p.2) ps = true from h), if_neg h]
      generalize (q.filter fun p => mb p ps).length = u
      have e : 2 * (u : Int) - ((q.length + 1 : Nat) : Int) = (2 * (u : Int) - q.length) - 1 := by omega
      rw [e]
      generalize 2 * (u : Int) - q.length = w
      rw [Int.mul_sub]; omega
theorem Ring.le {r : List Int} (h : Ring n ps r) (hf : Feas n ps L) : (ups ps r : Int) + L * (2 * (ups ps r : Int) - r.length) ≤ 0 := by
  obtain ⟨S, hS⟩ := hf
  have h1 := sum_rise ps L (stp r)
  rw [stp_len] at h1
  unfold ups
  rw [← h1]
  have h2 : ((stp r).map fun p => rise ps L p.1 p.2).sum ≤ ((stp r).map fun p => S p.2 - S p.1).sum + ((stp r).map fun _ => (0 : Int)).sum := sum3 fun p hp => by
    have := hS p.1 p.2 (h.steps p hp)
    show rise ps L p.1 p.2 ≤ S p.2 - S p.1 + 0
    omega
  have z : ((stp r).map fun _ => (0 : Int)).sum = 0 := by
    generalize stp r = l
    induction l with
    | nil => rfl
    | cons x l ih => rw [List.map_cons, List.sum_cons, ih]; rfl
  have t : ((stp r).map fun p => S p.2 - S p.1).sum = 0 := by
    obtain ⟨a, l, rfl, _, _⟩ := h.cy
    show ((List.zip (PD.lst a l :: a :: l) (a :: l)).map _).sum = 0
    rw [tel S (PD.lst a l) (a :: l)]
    show S (PD.lst a l) - S (PD.lst a l) = 0
    omega
  omega
theorem Rg.rot {ah : Int → Option Int} {w : Int} {B : List Int} (r : Rg n ah w B) {m : Int} (hm : m ∈ w :: B) : ∃ w' B', Rg n ah w' B' ∧ PD.lst w' B' = m ∧ (w' :: B').Perm (w :: B) := by
  rcases List.mem_cons.mp hm with rfl | hm
  · cases B with
    | nil => exact ⟨m, [], r, rfl, .refl _⟩
    | cons d D =>
      have pe : (d :: (D ++ [m])).Perm (m :: d :: D) := by
        rw [← List.cons_append]
        exact List.perm_append_comm (l₁ := d :: D) (l₂ := [m])
      refine ⟨d, D ++ [m], ⟨fun x hx => r.rn x (pe.mem_iff.mp hx), pe.nodup_iff.mpr r.nd, (chn_app d D m []).mpr ⟨r.ch.2, r.cl, trivial⟩, ?_⟩, lst_app d D m [], pe⟩
      rw [lst_app d D m []]
      exact r.ch.1
  · obtain ⟨A, D', rfl⟩ := List.append_of_mem hm
    cases D' with
    | nil => exact ⟨w, _, r, lst_app w A m [], .refl _⟩
    | cons d D =>
      have c := (chn_app w A m (d :: D)).mp r.ch
      have cl := r.cl
      rw [lst_app] at cl
      have pe : (d :: (D ++ w :: (A ++ [m]))).Perm (w :: (A ++ m :: d :: D)) := by
        have e1 : d :: (D ++ w :: (A ++ [m])) = (d :: D) ++ (w :: (A ++ [m])) := rfl
        have e2 : w :: (A ++ m :: d :: D) = (w :: (A ++ [m])) ++ (d :: D) := by simp
        rw [e1, e2]
        exact List.perm_append_comm
      refine ⟨d, D ++ w :: (A ++ [m]), ⟨fun x hx => r.rn x (pe.mem_iff.mp hx), pe.nodup_iff.mpr r.nd, (chn_app d D w _).mpr ⟨c.2.2.2, cl, (chn_app w A m []).mpr ⟨c.1, c.2.1, trivial⟩⟩, ?_⟩, ?_, pe⟩
      · rw [lst_app d D w _, lst_app w A m []]
        exact c.2.2.1
      · rw [lst_app d D w _, lst_app w A m []]; rfl
theorem chn_and {α : Type} {R : α → α → Prop} {P : α → Prop} {a : α} {l : List α} (h : Chn R a l) (hp : ∀ x ∈ a :: l, P x) : Chn (fun x y => R x y ∧ P x ∧ P y) a l := by
  induction l generalizing a with
  | nil => trivial
  | cons b m ih => exact ⟨⟨h.1, hp a (List.mem_cons_self ..), hp b (by simp)⟩, ih h.2 fun x hx => hp x (List.mem_cons_of_mem _ hx)⟩
theorem Rg.ring {j : Nat} {g : Int → Int} {ah : Int → Option Int} (h : BF n ps L j g ah) {w : Int} {B : List Int} (r : Rg n ah w B) : ∃ l', Ring n ps (PD.lst w B :: l') ∧ (PD.lst w B :: l').Perm (w :: B) ∧ 0 < (ups ps (PD.lst w B :: l') : Int) + L * (2 * (ups ps (PD.lst w B :: l') : Int) - (PD.lst w B :: l').length) := by
  obtain ⟨l', e, c, t⟩ := chn_rev w B (chn_and r.ch r.rn)
  have pe : (PD.lst w B :: l').Perm (w :: B) := by rw [← e]; exact List.reverse_perm _
  have rn : ∀ x ∈ PD.lst w B :: l', Rn n x := fun x hx => r.rn x (pe.mem_iff.mp hx)
  have ch : Chn (fun x y => ah y = some x ∧ Rn n y) (PD.lst w B) l' := chn_imp c fun x y z => ⟨z.1, z.2.1⟩
  have cl : ah (PD.lst w B) = some (PD.lst (PD.lst w B) l') ∧ Rn n (PD.lst w B) := ⟨by rw [t]; exact r.cl, rn _ (List.mem_cons_self ..)⟩
  have st : ∀ p ∈ stp (PD.lst w B :: l'), ah p.2 = some p.1 ∧ Rn n p.2 := chn_zip (R := fun x y => ah y = some x ∧ Rn n y) (PD.lst (PD.lst w B) l') (PD.lst w B :: l') ⟨cl, ch⟩
  refine ⟨l', ⟨pe.nodup_iff.mpr r.nd, rn, _, _, rfl, chn_imp ch fun x y z => (h.ed y x z.2 z.1).1, (h.ed _ _ cl.2 cl.1).1⟩, pe, ?_⟩
  have h1 := sum_rise ps L (stp (PD.lst w B :: l'))
  rw [stp_len] at h1
  unfold ups
  rw [← h1]
  have h2 : (stp (PD.lst w B :: l')).map (fun p => rise ps L p.1 p.2) = ((stp (PD.lst w B :: l')).map (·.2)).map (rs ps L ah) := by
    rw [List.map_map]
    refine List.map_congr_left fun p hp => ?_
    have := (st p hp).1
    simp only [Function.comp, rs, this]
  have h3 : (stp (PD.lst w B :: l')).map (·.2) = PD.lst w B :: l' := by
    unfold stp
    exact List.map_snd_zip (by simp)
  rw [h2, h3, perm_sum (pe.map (rs ps L ah))]
  exact r.pos h
theorem ex_min : ∀ {l : List Int}, l ≠ [] → ∃ m ∈ l, ∀ x ∈ l, m ≤ x
  | [a], _ => ⟨a, List.mem_cons_self .., fun x hx => by rw [List.mem_singleton.mp hx]; exact Int.le_refl _⟩
  | a :: b :: l, _ => by
    obtain ⟨m, hm, h⟩ := ex_min (l := b :: l) (by simp)
    by_cases e : a ≤ m
    · exact ⟨a, List.mem_cons_self .., fun x hx => (List.mem_cons.mp hx).elim (fun z => by rw [z]; exact Int.le_refl _) fun z => Int.le_trans e (h x z)⟩
    · exact ⟨m, List.mem_cons_of_mem _ hm, fun x hx => (List.mem_cons.mp hx).elim (fun z => by rw [z]; omega) fun z => h x z⟩
/-- no begins: a ring that rises, from its least work on -/
theorem not_feas (h : ¬ Feas n ps L) : ∃ m l, Ring n ps (m :: l) ∧ (∀ x ∈ l, m < x) ∧ 0 < (ups ps (m :: l) : Int) + L * (2 * (ups ps (m :: l) : Int) - (m :: l).length) := by
  rcases dich (n := n) (ps := ps) (L := L) with ⟨bl, z⟩ | ⟨j, g, ah, w, B, b, r⟩
  · exact absurd z.feas h
  · obtain ⟨m, hm, hle⟩ := ex_min (l := w :: B) (by simp)
    obtain ⟨w', B', r', e, pe⟩ := r.rot hm
    obtain ⟨l', ri, pe2, hpos⟩ := r'.ring b
    rw [e] at ri pe2 hpos
    refine ⟨m, l', ri, fun x hx => ?_, hpos⟩
    have h1 := hle x (pe.mem_iff.mp (pe2.mem_iff.mp (List.mem_cons_of_mem _ hx)))
    have h2 := (List.nodup_cons.mp ri.nd).1
    have : m ≠ x := fun e => h2 (e ▸ hx)
    omega
theorem feas_iff : Feas n ps L ↔ ∀ r, Ring n ps r → (ups ps r : Int) + L * (2 * (ups ps r : Int) - r.length) ≤ 0 := by
  constructor
  · exact fun h r hr => hr.le h
  · intro h
    by_cases hf : Feas n ps L
    · exact hf
    · obtain ⟨m, l, r, _, hp⟩ := not_feas hf
      have := h _ r
      omega
theorem ups_le (ps : List (Int × Int)) (r : List Int) : ups ps r ≤ r.length := by
  have := List.length_filter_le (fun p => mb p ps) (stp r)
  rw [stp_len] at this; exact this
/-- up steps need more back steps -/
theorem Ring.less {r : List Int} (h : Ring n ps r) (hL : 0 ≤ L) (hf : Feas n ps L) (hu : 0 < ups ps r) : 0 < (r.length : Int) - 2 * ups ps r := by
  have h1 := h.le hf
  by_cases hc : 0 < (r.length : Int) - 2 * ups ps r
  · exact hc
  · exfalso
    have : 0 ≤ L * (2 * (ups ps r : Int) - r.length) := Int.mul_nonneg hL (by omega)
    omega
theorem Ring.len {r : List Int} (h : Ring n ps r) : r.length ≤ n := len_rn h.nd h.rn
theorem feas_half (hL : 0 ≤ L) (hf : Feas n ps L) : Feas n ps (((n - 1) / 2 : Nat) : Int) := by
  rw [feas_iff]
  intro r hr
  by_cases hu : 0 < ups ps r
  · have h1 := hr.less hL hf hu
    have h2 := hr.len
    have h3 : (ups ps r : Int) ≤ (((n - 1) / 2 : Nat) : Int) := by omega
    have h4 : (ups ps r : Int) * 1 ≤ (((n - 1) / 2 : Nat) : Int) * ((r.length : Int) - 2 * ups ps r) := Int.mul_le_mul h3 (by omega) (by omega) (by omega)
    have e : (2 * (ups ps r : Int) - r.length) = -((r.length : Int) - 2 * ups ps r) := by omega
    rw [e, Int.mul_neg]; omega
  · have : ups ps r = 0 := by omega
    rw [this]
    have : 0 ≤ (((n - 1) / 2 : Nat) : Int) * (r.length : Int) := Int.mul_nonneg (by omega) (by omega)
    have e : (2 * ((0 : Nat) : Int) - r.length) = -(r.length : Int) := by omega
    rw [e, Int.mul_neg]; omega
theorem feas_mono {M : Int} (hL : 0 ≤ L) (hf : Feas n ps L) (hM : L ≤ M) : Feas n ps M := by
  rw [feas_iff]
  intro r hr
  by_cases hu : 0 < ups ps r
  · have h1 := hr.less hL hf hu
    have h2 := hr.le hf
    have h3 : L * ((r.length : Int) - 2 * ups ps r) ≤ M * ((r.length : Int) - 2 * ups ps r) := Int.mul_le_mul_of_nonneg_right hM (by omega)
    have e : (2 * (ups ps r : Int) - r.length) = -((r.length : Int) - 2 * ups ps r) := by omega
    rw [e, Int.mul_neg] at h2 ⊢; omega
  · have : ups ps r = 0 := by omega
    rw [this]
    have : 0 ≤ M * (r.length : Int) := Int.mul_nonneg (by omega) (by omega)
    have e : (2 * ((0 : Nat) : Int) - r.length) = -(r.length : Int) := by omega
    rw [e, Int.mul_neg]; omega
end
end
set_option maxHeartbeats 4000000
/-! PMk: no two pairs side by side and no three beside one: begins of some length. -/
section
open PySem L2
section
variable {n : Nat} {ps : List (Int × Int)}
/-- neither two pairs side by side nor three beside one -/
structure Semi (n : Nat) (ps : List (Int × Int)) : Prop where
  side : ∀ a b c d, (a, b) ∈ ps → (c, d) ∈ ps → (a, d) ∈ ps ∨ (c, b) ∈ ps
  three : ∀ a b c d, (a, b) ∈ ps → (b, c) ∈ ps → Rn n d → d ≠ a → d ≠ c → (a, d) ∈ ps ∨ (d, a) ∈ ps ∨ (c, d) ∈ ps ∨ (d, c) ∈ ps
/-- a step that is no up step -/
structure Dn (n : Nat) (ps : List (Int × Int)) (a b : Int) : Prop where
  ra : Rn n a
  rb : Rn n b
  l : (a, b) ∉ ps
  r : (b, a) ∉ ps
/-- a walk of up steps and others -/
def Wlkk (n : Nat) (ps : List (Int × Int)) : Int → List (Bool × Int) → Prop
  | _, [] => True
  | a, (true, b) :: w => (a, b) ∈ ps ∧ Wlkk n ps b w
  | a, (false, b) :: w => Dn n ps a b ∧ Wlkk n ps b w
def wend : Int → List (Bool × Int) → Int
  | a, [] => a
  | _, (_, b) :: w => wend b w
def wup (w : List (Bool × Int)) : Nat := (w.filter fun p => p.1).length
def wdn (w : List (Bool × Int)) : Nat := (w.filter fun p => !p.1).length
theorem wup_t (b : Int) (w : List (Bool × Int)) : wup ((true, b) :: w) = wup w + 1 := rfl
theorem wup_f (b : Int) (w : List (Bool × Int)) : wup ((false, b) :: w) = wup w := rfl
theorem wdn_t (b : Int) (w : List (Bool × Int)) : wdn ((true, b) :: w) = wdn w := rfl
theorem wdn_f (b : Int) (w : List (Bool × Int)) : wdn ((false, b) :: w) = wdn w + 1 := rfl
theorem w_len (w : List (Bool × Int)) : w.length = wup w + wdn w := by
  induction w with
  | nil => rfl
  | cons p w ih =>
    obtain ⟨b, x⟩ := p
    cases b
    · rw [wup_f, wdn_f, List.length_cons]; omega
    · rw [wup_t, wdn_t, List.length_cons]; omega
theorem uud (g : PO n ps) (s : Semi n ps) {a b c d : Int} (h1 : (a, b) ∈ ps) (h2 : (b, c) ∈ ps) (h3 : Dn n ps c d) : (a, d) ∈ ps := by
  have hac := g.tr _ _ _ h1 h2
  by_cases e1 : d = c
  · rw [e1]; exact hac
  by_cases e2 : d = a
  · exact absurd (e2 ▸ hac) h3.r
  rcases s.three a b c d h1 h2 h3.rb e2 e1 with z | z | z | z
  · exact z
  · exact absurd (g.tr _ _ _ z hac) h3.r
  · exact absurd z h3.l
  · exact absurd z h3.r
theorem duu (g : PO n ps) (s : Semi n ps) {a b c d : Int} (h3 : Dn n ps a b) (h1 : (b, c) ∈ ps) (h2 : (c, d) ∈ ps) : (a, d) ∈ ps := by
  have hbd := g.tr _ _ _ h1 h2
  by_cases e1 : a = b
  · rw [e1]; exact hbd
  by_cases e2 : a = d
  · exact absurd (e2 ▸ hbd) h3.r
  rcases s.three b c d a h1 h2 h3.ra e1 e2 with z | z | z | z
  · exact absurd z h3.r
  · exact absurd z h3.l
  · exact absurd (g.tr _ _ _ hbd z) h3.r
  · exact z
theorem udu (s : Semi n ps) {a b c d : Int} (h1 : (a, b) ∈ ps) (h3 : Dn n ps b c) (h2 : (c, d) ∈ ps) : (a, d) ∈ ps := (s.side a b c d h1 h2).elim id fun z => absurd z h3.r
/-- a shorter walk, as far up -/
def Less (n : Nat) (ps : List (Int × Int)) (a : Int) (w : List (Bool × Int)) : Prop := ∃ w', Wlkk n ps a w' ∧ wend a w' = wend a w ∧ wup w' + 1 = wup w ∧ wdn w' + 1 = wdn w
theorem less_c {a b : Int} {t : Bool} {w : List (Bool × Int)} (h : Less n ps b w) (hs : ∀ w', Wlkk n ps b w' → Wlkk n ps a ((t, b) :: w')) : Less n ps a ((t, b) :: w) := by
  obtain ⟨w', h1, h2, h3, h4⟩ := h
  refine ⟨(t, b) :: w', hs w' h1, h2, ?_, ?_⟩
  · cases t
    · rw [wup_f, wup_f]; exact h3
    · rw [wup_t, wup_t]; omega
  · cases t
    · rw [wdn_f, wdn_f]; omega
    · rw [wdn_t, wdn_t]; exact h4
theorem less_uu (g : PO n ps) (s : Semi n ps) : ∀ (w : List (Bool × Int)) (a b c : Int), Wlkk n ps a ((true, b) :: (true, c) :: w) → 0 < wdn w → Less n ps a ((true, b) :: (true, c) :: w)
  | [], _, _, _, _, h => by cases h
  | (false, d) :: w, a, b, c, h, _ => ⟨(true, d) :: w, ⟨uud g s h.1 h.2.1 h.2.2.1, h.2.2.2⟩, rfl, by simp only [wup_t, wup_f], by simp only [wdn_t, wdn_f]⟩
  | (true, d) :: w, a, b, c, h, hd => less_c (less_uu g s w b c d h.2 (by rw [wdn_t] at hd; exact hd)) fun w' hw' => ⟨h.1, hw'⟩
theorem less_of (g : PO n ps) (s : Semi n ps) : ∀ (m : Nat) (w : List (Bool × Int)) (a : Int), w.length ≤ m → Wlkk n ps a w → wdn w < wup w → 0 < wdn w → Less n ps a w
  | 0, w, a, hm, _, _, hd => by
    have : w = [] := List.length_eq_zero_iff.mp (by omega)
    subst this; cases hd
  | m + 1, [], a, _, _, _, hd => by cases hd
  | m + 1, (false, b) :: w, a, hm, h, hu, hd => by
    rw [wup_f, wdn_f] at hu
    by_cases h0 : 0 < wdn w
    · exact less_c (less_of g s m w b (by simp at hm; omega) h.2 (by omega) h0) fun w' hw' => ⟨h.1, hw'⟩
    · match w, h, hu, h0 with
      | [], _, hu, _ => simp [wup] at hu
      | [(true, c)], _, hu, _ => simp [wup, wdn] at hu
      | (true, c) :: (true, d) :: w, h, hu, h0 => exact ⟨(true, d) :: w, ⟨duu g s h.1 h.2.1 h.2.2.1, h.2.2.2⟩, rfl, by simp only [wup_t, wup_f], by simp only [wdn_t, wdn_f]⟩
      | (false, c) :: w, _, _, h0 => rw [wdn_f] at h0; omega
      | (true, c) :: (false, d) :: w, _, _, h0 => rw [wdn_t, wdn_f] at h0; omega
  | m + 1, (true, b) :: w, a, hm, h, hu, hd => by
    rw [wup_t, wdn_t] at hu
    rw [wdn_t] at hd
    match w, h, hu, hd, hm with
    | [], _, _, hd, _ => cases hd
    | (true, c) :: w, h, hu, hd, _ => exact less_uu g s w a b c h (by rw [wdn_t] at hd; exact hd)
    | [(false, c)], _, hu, _, _ => simp [wup, wdn] at hu
    | (false, c) :: (true, d) :: w, h, hu, hd, _ => exact ⟨(true, d) :: w, ⟨udu s h.1 h.2.1 h.2.2.1, h.2.2.2⟩, rfl, by simp only [wup_t, wup_f], by simp only [wdn_t, wdn_f]⟩
    | (false, c) :: (false, d) :: w, h, hu, hd, hm =>
      have l1 := less_of g s m ((false, d) :: w) c (by simp at hm ⊢; omega) h.2.2 (by rw [wup_f, wdn_f] at *; rw [wup_f, wdn_f] at hu; omega) (by rw [wdn_f]; omega)
      exact less_c (less_c l1 fun w' hw' => ⟨h.2.1, hw'⟩) fun w' hw' => ⟨h.1, hw'⟩
theorem all_up (g : PO n ps) : ∀ (w : List (Bool × Int)) (a : Int), Wlkk n ps a w → wdn w = 0 → 0 < wup w → (a, wend a w) ∈ ps
  | [], _, _, _, h => by cases h
  | (false, b) :: w, _, _, h, _ => by rw [wdn_f] at h; omega
  | [(true, b)], a, h, _, _ => h.1
  | (true, b) :: p :: w, a, h, hd, _ => by
    rw [wdn_t] at hd
    have hu : 0 < wup (p :: w) := by
      have := w_len (p :: w)
      rw [List.length_cons] at this; omega
    exact g.tr _ _ _ h.1 (all_up g (p :: w) b h.2 hd hu)
/-- more up steps than others: ahead -/
theorem up_of (g : PO n ps) (s : Semi n ps) : ∀ (m : Nat) (w : List (Bool × Int)) (a : Int), w.length ≤ m → Wlkk n ps a w → wdn w < wup w → (a, wend a w) ∈ ps
  | m, w, a, hm, h, hu => by
    by_cases h0 : 0 < wdn w
    · obtain ⟨w', h1, h2, h3, h4⟩ := less_of g s m w a hm h hu h0
      have e1 := w_len w
      have e2 := w_len w'
      match m with
      | 0 => omega
      | m + 1 =>
        rw [← h2]
        exact up_of g s m w' a (by omega) h1 (by omega)
    · exact all_up g w a h (by omega) (by omega)
theorem wlkk_app : ∀ (w v : List (Bool × Int)) (a : Int), Wlkk n ps a (w ++ v) ↔ Wlkk n ps a w ∧ Wlkk n ps (wend a w) v
  | [], _, _ => ⟨fun h => ⟨trivial, h⟩, fun h => h.2⟩
  | (true, b) :: w, v, a => by
    show ((a, b) ∈ ps ∧ Wlkk n ps b (w ++ v)) ↔ ((a, b) ∈ ps ∧ Wlkk n ps b w) ∧ _
    rw [wlkk_app w v b]
    exact ⟨fun h => ⟨⟨h.1, h.2.1⟩, h.2.2⟩, fun h => ⟨h.1.1, h.1.2, h.2⟩⟩
  | (false, b) :: w, v, a => by
    show (Dn n ps a b ∧ Wlkk n ps b (w ++ v)) ↔ (Dn n ps a b ∧ Wlkk n ps b w) ∧ _
    rw [wlkk_app w v b]
    exact ⟨fun h => ⟨⟨h.1, h.2.1⟩, h.2.2⟩, fun h => ⟨h.1.1, h.1.2, h.2⟩⟩
theorem wend_app : ∀ (w v : List (Bool × Int)) (a : Int), wend a (w ++ v) = wend (wend a w) v
  | [], _, _ => rfl
  | (_, b) :: w, v, a => wend_app w v b
theorem wup_app (w v : List (Bool × Int)) : wup (w ++ v) = wup w + wup v := by unfold wup; rw [List.filter_append, List.length_append]
theorem wdn_app (w v : List (Bool × Int)) : wdn (w ++ v) = wdn w + wdn v := by unfold wdn; rw [List.filter_append, List.length_append]
theorem has_dn : ∀ (w : List (Bool × Int)), 0 < wdn w → ∃ p b q, w = p ++ (false, b) :: q
  | [], h => by cases h
  | (false, b) :: w, _ => ⟨[], b, w, rfl⟩
  | (true, b) :: w, h => by
    obtain ⟨p, c, q, e⟩ := has_dn w (by rw [wdn_t] at h; exact h)
    exact ⟨(true, b) :: p, c, q, by rw [e]; rfl⟩
/-- no closed walk goes up as often as not -/
theorem no_closed (g : PO n ps) (s : Semi n ps) {w : List (Bool × Int)} {a : Int} (h : Wlkk n ps a w) (he : wend a w = a) (hu : 0 < wup w) : wup w < wdn w := by
  apply Classical.byContradiction
  intro hc
  by_cases h0 : 0 < wdn w
  · obtain ⟨p, y, q, rfl⟩ := has_dn w h0
    obtain ⟨h1, h2⟩ := (wlkk_app p ((false, y) :: q) a).mp h
    have e1 : wend y q = a := by
      rw [wend_app] at he; exact he
    have hw : Wlkk n ps y (q ++ p) := (wlkk_app q p y).mpr ⟨h2.2, by rw [e1]; exact h1⟩
    have := up_of g s _ (q ++ p) y (Nat.le_refl _) hw (by
      rw [wup_app, wdn_app, wup_f, wdn_f] at hc
      rw [wup_app, wdn_app]; omega)
    rw [wend_app, e1] at this
    exact h2.1.r this
  · have := all_up g w a h (by omega) hu
    rw [he] at this
    exact g.ir a this
def wof (ps : List (Int × Int)) : Int → List Int → List (Bool × Int)
  | _, [] => []
  | a, b :: l => (mb (a, b) ps, b) :: wof ps b l
theorem wof_wlk : ∀ (l : List Int) (a : Int), Chn (Edg n ps) a l → Wlkk n ps a (wof ps a l)
  | [], _, _ => trivial
  | b :: l, a, h => by
    unfold wof
    by_cases hm : mb (a, b) ps = true
    · rw [hm]; exact ⟨mb_iff.mp hm, wof_wlk l b h.2⟩
    · rw [Bool.not_eq_true] at hm
      rw [hm]
      exact ⟨⟨h.1.ra, h.1.rb, mb_not.mp hm, h.1.no⟩, wof_wlk l b h.2⟩
theorem wof_end : ∀ (l : List Int) (a : Int), wend a (wof ps a l) = PD.lst a l
  | [], _ => rfl
  | b :: l, a => wof_end l b
theorem wof_up : ∀ (l : List Int) (a : Int), wup (wof ps a l) = ((List.zip (a :: l) l).filter fun p => mb p ps).length
  | [], _ => rfl
  | b :: l, a => by
    unfold wof
    rw [List.zip_cons_cons, List.filter_cons]
    by_cases hm : mb (a, b) ps = true
    · rw [hm, wup_t, wof_up l b, if_pos rfl, List.length_cons]
    · rw [Bool.not_eq_true] at hm
      rw [hm, wup_f, wof_up l b, if_neg (by simp)]
theorem wof_len : ∀ (l : List Int) (a : Int), (wof ps a l).length = l.length
  | [], _ => rfl
  | b :: l, a => by unfold wof; rw [List.length_cons, List.length_cons, wof_len l b]
theorem semi_less (g : PO n ps) (s : Semi n ps) {r : List Int} (hr : Ring n ps r) (hu : 0 < ups ps r) : 0 < (r.length : Int) - 2 * ups ps r := by
  obtain ⟨a, l, rfl, c, e⟩ := hr.cy
  have e1 : ups ps (a :: l) = wup (wof ps (PD.lst a l) (a :: l)) := (wof_up (a :: l) (PD.lst a l)).symm
  have h := no_closed g s (wof_wlk (a :: l) (PD.lst a l) ⟨e, c⟩) (wof_end (a :: l) (PD.lst a l)) (by rw [← e1]; exact hu)
  have h2 := w_len (wof ps (PD.lst a l) (a :: l))
  rw [wof_len] at h2
  rw [e1]; omega
theorem semi_feas (g : PO n ps) (s : Semi n ps) : Feas n ps n := by
  rw [feas_iff]
  intro r hr
  by_cases hu : 0 < ups ps r
  · have h1 := semi_less g s hr hu
    have h2 := hr.len
    have h4 : (ups ps r : Int) * 1 ≤ (n : Int) * ((r.length : Int) - 2 * ups ps r) := Int.mul_le_mul (by have := ups_le ps r; omega) (by omega) (by omega) (by omega)
    have e : (2 * (ups ps r : Int) - r.length) = -((r.length : Int) - 2 * ups ps r) := by omega
    rw [e, Int.mul_neg]; omega
  · have : ups ps r = 0 := by omega
    rw [this]
    have : 0 ≤ (n : Int) * (r.length : Int) := Int.mul_nonneg (by omega) (by omega)
    have e : (2 * ((0 : Nat) : Int) - r.length) = -(r.length : Int) := by omega
    rw [e, Int.mul_neg]; omega
/-- and back -/
theorem feas_semi (g : PO n ps) {L : Int} (hL : 0 ≤ L) (hf : Feas n ps L) : Semi n ps := by
  obtain ⟨S, hS⟩ := hf
  have up : ∀ a b, (a, b) ∈ ps → S a + L < S b := fun a b h => by
    have hr := g.go.inr _ h
    have := hS a b ⟨⟨hr.1, hr.2.1⟩, ⟨hr.2.2.1, hr.2.2.2⟩, fun e => g.ir a (by rw [e] at h ⊢; exact h), g.as h⟩
    unfold rise at this
    rw [mb_iff.mpr h, if_pos rfl] at this
    omega
  have of : ∀ a b, Rn n a → Rn n b → S a + L < S b → (a, b) ∈ ps := fun a b ha hb h => by
    apply Classical.byContradiction
    intro hno
    have hne : b ≠ a := fun e => by rw [e] at h; omega
    have := hS b a ⟨hb, ha, hne, hno⟩
    unfold rise at this
    split at this <;> omega
  refine ⟨fun a b c d h1 h2 => ?_, fun a b c d h1 h2 hd n1 n2 => ?_⟩
  · have r1 := g.go.inr _ h1
    have r2 := g.go.inr _ h2
    have u1 := up _ _ h1
    have u2 := up _ _ h2
    by_cases hc : S a + L < S d
    · exact .inl (of a d ⟨r1.1, r1.2.1⟩ ⟨r2.2.2.1, r2.2.2.2⟩ hc)
    · exact .inr (of c b ⟨r2.1, r2.2.1⟩ ⟨r1.2.2.1, r1.2.2.2⟩ (by omega))
  · have r1 := g.go.inr _ h1
    have r2 := g.go.inr _ h2
    have u1 := up _ _ h1
    have u2 := up _ _ h2
    by_cases hc : S a + L < S d
    · exact .inl (of a d ⟨r1.1, r1.2.1⟩ hd hc)
    · exact .inr (.inr (.inr (of d c hd ⟨r2.2.2.1, r2.2.2.2⟩ (by omega))))
end
end
set_option maxHeartbeats 4000000
/-! PMl: earlier and later lots; traces. -/
section
open PySem L2
def ear (n : Nat) (ps : List (Int × Int)) (w : Int) : List Int := (rg n).filter fun a => mb (a, w) ps
def lat (n : Nat) (ps : List (Int × Int)) (w : Int) : List Int := (rg n).filter fun b => mb (w, b) ps
theorem srt_ext : ∀ {xs ys : List Int}, xs.Pairwise (· < ·) → ys.Pairwise (· < ·) → (∀ a, a ∈ xs ↔ a ∈ ys) → xs = ys
  | [], [], _, _, _ => rfl
  | [], y :: ys, _, _, h => by have := (h y).mpr (List.mem_cons_self ..); simp at this
  | x :: xs, [], _, _, h => by have := (h x).mp (List.mem_cons_self ..); simp at this
  | x :: xs, y :: ys, hx, hy, h => by
    have hx := List.pairwise_cons.mp hx
    have hy := List.pairwise_cons.mp hy
    have e : x = y := by
      have h1 := (h x).mp (List.mem_cons_self ..)
      have h2 := (h y).mpr (List.mem_cons_self ..)
      rcases List.mem_cons.mp h1 with h1 | h1
      · exact h1
      · rcases List.mem_cons.mp h2 with h2 | h2
        · exact h2.symm
        · have a1 := hy.1 x h1
          have a2 := hx.1 y h2
          omega
    subst e
    rw [srt_ext hx.2 hy.2 fun a => ?_]
    constructor
    · intro ha
      have := (h a).mp (List.mem_cons_of_mem _ ha)
      rcases List.mem_cons.mp this with e | e
      · have := hx.1 a ha; omega
      · exact e
    · intro ha
      have := (h a).mpr (List.mem_cons_of_mem _ ha)
      rcases List.mem_cons.mp this with e | e
      · have := hy.1 a ha; omega
      · exact e
theorem ear_eq {n : Nat} {ps : List (Int × Int)} (g : GO n ps) (w : Int) : ((ps.filter fun p => decide (p.2 = w)).map fun p => p.1) = ear n ps w := by
  refine srt_ext ?_ ((rg_srt n).filter _) fun a => ?_
  · rw [List.pairwise_map]
    have h1 := g.srt.filter (fun p => decide (p.2 = w))
    have h2 : (ps.filter fun p => decide (p.2 = w)).Pairwise fun p q => p.2 = w ∧ q.2 = w := by
      refine List.pairwise_of_forall_mem_list fun p hp q hq => ?_
      exact ⟨of_decide_eq_true (List.mem_filter.mp hp).2, of_decide_eq_true (List.mem_filter.mp hq).2⟩
    refine (List.pairwise_and_iff.mpr ⟨h1, h2⟩).imp fun {p q} h => ?_
    obtain ⟨h1, h2, h3⟩ := h
    rcases h1 with h1 | ⟨_, h1⟩
    · exact h1
    · omega
  · unfold ear
    simp only [List.mem_map, List.mem_filter, decide_eq_true_eq]
    constructor
    · rintro ⟨p, ⟨hp, rfl⟩, rfl⟩
      have := g.inr p hp
      exact ⟨mem_rg.mpr ⟨this.1, this.2.1⟩, mb_iff.mpr hp⟩
    · rintro ⟨_, hp⟩
      exact ⟨(a, w), ⟨mb_iff.mp hp, rfl⟩, rfl⟩
theorem lat_eq {n : Nat} {ps : List (Int × Int)} (g : GO n ps) (w : Int) : ((ps.filter fun p => decide (p.1 = w)).map fun p => p.2) = lat n ps w := by
  refine srt_ext ?_ ((rg_srt n).filter _) fun a => ?_
  · rw [List.pairwise_map]
    have h1 := g.srt.filter (fun p => decide (p.1 = w))
    have h2 : (ps.filter fun p => decide (p.1 = w)).Pairwise fun p q => p.1 = w ∧ q.1 = w := by
      refine List.pairwise_of_forall_mem_list fun p hp q hq => ?_
      exact ⟨of_decide_eq_true (List.mem_filter.mp hp).2, of_decide_eq_true (List.mem_filter.mp hq).2⟩
    refine (List.pairwise_and_iff.mpr ⟨h1, h2⟩).imp fun {p q} h => ?_
    obtain ⟨h1, h2, h3⟩ := h
    rcases h1 with h1 | ⟨_, h1⟩
    · omega
    · exact h1
  · unfold lat
    simp only [List.mem_map, List.mem_filter, decide_eq_true_eq]
    constructor
    · rintro ⟨p, ⟨hp, rfl⟩, rfl⟩
      have := g.inr p hp
      exact ⟨mem_rg.mpr ⟨this.2.2.1, this.2.2.2⟩, mb_iff.mpr hp⟩
    · rintro ⟨_, hp⟩
      exact ⟨(w, a), ⟨mb_iff.mp hp, rfl⟩, rfl⟩
section
variable {n : Nat} {ps : List (Int × Int)}
theorem mem_ear (g : GO n ps) {w a : Int} : a ∈ ear n ps w ↔ (a, w) ∈ ps := by
  unfold ear
  rw [List.mem_filter, mb_iff, mem_rg]
  exact ⟨fun h => h.2, fun h => ⟨⟨(g.inr _ h).1, (g.inr _ h).2.1⟩, h⟩⟩
theorem mem_lat (g : GO n ps) {w b : Int} : b ∈ lat n ps w ↔ (w, b) ∈ ps := by
  unfold lat
  rw [List.mem_filter, mb_iff, mem_rg]
  exact ⟨fun h => h.2, fun h => ⟨⟨(g.inr _ h).2.2.1, (g.inr _ h).2.2.2⟩, h⟩⟩
/-- no later -/
structure Nl (ps : List (Int × Int)) (a b : Int) : Prop where
  e : ∀ x, (x, a) ∈ ps → (x, b) ∈ ps
  l : ∀ x, (b, x) ∈ ps → (a, x) ∈ ps
def nlB (n : Nat) (ps : List (Int × Int)) (a b : Int) : Bool := (ear n ps a).all (fun x => mb x (ear n ps b)) && (lat n ps b).all fun x => mb x (lat n ps a)
theorem nl_iff (g : GO n ps) {a b : Int} : nlB n ps a b = true ↔ Nl ps a b := by
  unfold nlB
  rw [Bool.and_eq_true, List.all_eq_true, List.all_eq_true]
  constructor
  · rintro ⟨h1, h2⟩
    exact ⟨fun x hx => (mem_ear g).mp (mb_iff.mp (h1 x ((mem_ear g).mpr hx))), fun x hx => (mem_lat g).mp (mb_iff.mp (h2 x ((mem_lat g).mpr hx)))⟩
  · rintro ⟨h1, h2⟩
    exact ⟨fun x hx => mb_iff.mpr ((mem_ear g).mpr (h1 x ((mem_ear g).mp hx))), fun x hx => mb_iff.mpr ((mem_lat g).mpr (h2 x ((mem_lat g).mp hx)))⟩
theorem Nl.refl (a : Int) : Nl ps a a := ⟨fun _ h => h, fun _ h => h⟩
theorem Nl.trans {a b c : Int} (h1 : Nl ps a b) (h2 : Nl ps b c) : Nl ps a c := ⟨fun x h => h2.e x (h1.e x h), fun x h => h1.l x (h2.l x h)⟩
theorem total_semi (g : PO n ps) (h : ∀ a b, Rn n a → Rn n b → Nl ps a b ∨ Nl ps b a) : Semi n ps := by
  refine ⟨fun a b c d h1 h2 => ?_, fun a b c d h1 h2 hd _ _ => ?_⟩
  · have r1 := g.go.inr _ h1
    have r2 := g.go.inr _ h2
    rcases h a c ⟨r1.1, r1.2.1⟩ ⟨r2.1, r2.2.1⟩ with z | z
    · exact .inl (z.l d h2)
    · exact .inr (z.l b h1)
  · have r1 := g.go.inr _ h1
    rcases h b d ⟨r1.2.2.1, r1.2.2.2⟩ hd with z | z
    · exact .inl (z.e a h1)
    · exact .inr (.inr (.inr (z.l c h2)))
theorem semi_total (g : PO n ps) (s : Semi n ps) {x y : Int} (hx : Rn n x) (hy : Rn n y) : Nl ps x y ∨ Nl ps y x := by
  -- u x v with y beside cannot be
  have key : ∀ x y, Rn n y → ∀ u v, (u, x) ∈ ps → (x, v) ∈ ps → (u, y) ∉ ps → (y, v) ∉ ps → False := fun x y hy u v h1 h2 h3 h4 => by
    by_cases e1 : y = u
    · exact h4 (e1 ▸ g.tr _ _ _ h1 h2)
    by_cases e2 : y = v
    · exact h3 (e2 ▸ g.tr _ _ _ h1 h2)
    rcases s.three u x v y h1 h2 hy e1 e2 with z | z | z | z
    · exact h3 z
    · exact h4 (g.tr _ _ _ z (g.tr _ _ _ h1 h2))
    · exact h3 (g.tr _ _ _ (g.tr _ _ _ h1 h2) z)
    · exact h4 z
  apply Classical.byContradiction
  intro hc
  rw [not_or] at hc
  have n1 : (∃ u, (u, x) ∈ ps ∧ (u, y) ∉ ps) ∨ ∃ v, (y, v) ∈ ps ∧ (x, v) ∉ ps := by
    apply Classical.byContradiction
    intro h
    rw [not_or] at h
    exact hc.1 ⟨fun u hu => Classical.byContradiction fun z => h.1 ⟨u, hu, z⟩, fun v hv => Classical.byContradiction fun z => h.2 ⟨v, hv, z⟩⟩
  have n2 : (∃ u, (u, y) ∈ ps ∧ (u, x) ∉ ps) ∨ ∃ v, (x, v) ∈ ps ∧ (y, v) ∉ ps := by
    apply Classical.byContradiction
    intro h
    rw [not_or] at h
    exact hc.2 ⟨fun u hu => Classical.byContradiction fun z => h.1 ⟨u, hu, z⟩, fun v hv => Classical.byContradiction fun z => h.2 ⟨v, hv, z⟩⟩
  rcases n1 with ⟨u, u1, u2⟩ | ⟨v, v1, v2⟩ <;> rcases n2 with ⟨u', u1', u2'⟩ | ⟨v', v1', v2'⟩
  · exact (s.side u x u' y u1 u1').elim u2 u2'
  · exact key x y hy u v' u1 v1' u2 v2'
  · exact key y x hx u' v u1' v1 u2' v2
  · exact (s.side y v x v' v1 v1').elim v2' v2
/-- a row of no laters -/
def Trc (ps : List (Int × Int)) : List Int → Prop
  | [] => True
  | a :: l => Chn (Nl ps) a l
theorem chn_nl : ∀ {l : List Int} {a : Int}, Chn (Nl ps) a l → ∀ x ∈ a :: l, Nl ps a x
  | [], a, _, x, hx => by rw [List.mem_singleton.mp hx]; exact .refl a
  | b :: l, a, h, x, hx => by
    rcases List.mem_cons.mp hx with rfl | hx
    · exact .refl _
    · exact h.1.trans (chn_nl h.2 x hx)
theorem trc_total : ∀ {r : List Int}, Trc ps r → ∀ x ∈ r, ∀ y ∈ r, Nl ps x y ∨ Nl ps y x
  | [], _, x, hx, _, _ => nomatch hx
  | a :: l, h, x, hx, y, hy => by
    rcases List.mem_cons.mp hx with rfl | hx'
    · exact .inl (chn_nl h y hy)
    · rcases List.mem_cons.mp hy with rfl | hy'
      · exact .inr (chn_nl h x hx)
      · refine trc_total (r := l) ?_ x hx' y hy'
        cases l with
        | nil => cases hx'
        | cons b m => exact h.2
theorem trc_semi (g : PO n ps) {r : List Int} (hp : r.Perm (rg n)) (h : Trc ps r) : Semi n ps :=
  total_semi g fun a b ha hb => trc_total h a (hp.mem_iff.mpr (mem_rg.mpr ha)) b (hp.mem_iff.mpr (mem_rg.mpr hb))
/-- by sizes of the lots -/
theorem nl_size (g : PO n ps) (s : Semi n ps) {x y : Int} (hx : Rn n x) (hy : Rn n y) (h : (ear n ps x).length < (ear n ps y).length ∨ (ear n ps x).length = (ear n ps y).length ∧ (lat n ps y).length ≤ (lat n ps x).length) : Nl ps x y := by
  have nd1 : ∀ w, (ear n ps w).Nodup := fun w => (rg_nodup n).filter _
  have nd2 : ∀ w, (lat n ps w).Nodup := fun w => (rg_nodup n).filter _
  rcases semi_total g s hx hy with z | z
  · exact z
  · have l1 := len_of_sub (ear n ps y) (ear n ps x) (nd1 y) fun u hu => (mem_ear g.go).mpr (z.e u ((mem_ear g.go).mp hu))
    have l2 := len_of_sub (lat n ps x) (lat n ps y) (nd2 x) fun u hu => (mem_lat g.go).mpr (z.l u ((mem_lat g.go).mp hu))
    have full : ∀ {A B : List Int}, A.Nodup → B.Nodup → (∀ u ∈ A, u ∈ B) → B.length ≤ A.length → ∀ u ∈ B, u ∈ A := fun {A B} hA hB hs hl u hu => by
      apply Classical.byContradiction
      intro hn
      have := len_of_sub (u :: A) B (List.nodup_cons.mpr ⟨hn, hA⟩) fun v hv => (List.mem_cons.mp hv).elim (fun e => e ▸ hu) (hs v)
      rw [List.length_cons] at this; omega
    have e1 := full (nd1 y) (nd1 x) (fun u hu => (mem_ear g.go).mpr (z.e u ((mem_ear g.go).mp hu))) (by omega)
    have e2 := full (nd2 x) (nd2 y) (fun u hu => (mem_lat g.go).mpr (z.l u ((mem_lat g.go).mp hu))) (by omega)
    exact ⟨fun u hu => (mem_ear g.go).mp (e1 u ((mem_ear g.go).mpr hu)), fun u hu => (mem_lat g.go).mp (e2 u ((mem_lat g.go).mpr hu))⟩
end
end
set_option maxHeartbeats 4000000
/-! PMe: lots sorted by size, then by their works; rising lots of the first numbers. -/
section
open PySem L2
section
variable {κ ν : Type} [Enc κ] [Enc ν] {C : Calls} {ρ : Nv}
theorem e_lckD (d : Dct κ ν) {i : Nat} (h : ρ[i]? = some (some (.own (en d)))) (vs : List Nat) (g : G) (c : To) (e : E) : ev C (.lck vs g i c e) ρ = gd (d.l.length ≤ sizeLine ∧ free (ρ.set i none) vs = true) (bd (lcW (d.keys.map en) fun x => bd (lift (asg g x (wipeN (ρ.set i none) vs))) fun ρ' => bd (evc C c ρ') fun t => if t = true then bd (ev C e ρ') fun y => rt (some y) else rt none) fun r => rt (.list r)) := by
  have ek : (d.l.map fun p => ((en p.1 : D), (en p.2 : D))).map (·.1) = d.keys.map en := by
    unfold Dct.keys
    rw [List.map_map, List.map_map]; rfl
  have e0 : ev C (.lck vs g i c e) ρ = fun Q => ∃ kvs, ρ[i]? = some (some (.own (.dict kvs))) ∧ kvs.length ≤ sizeLine ∧ free (ρ.set i none) vs = true ∧ (bd (lcW (kvs.map (·.1)) fun x => bd (lift (asg g x (wipeN (ρ.set i none) vs))) fun ρ' => bd (evc C c ρ') fun t => if t = true then bd (ev C e ρ') fun y => rt (some y) else rt none) fun r => rt (.list r)) Q := by
    funext Q
    show (∃ kvs, _ ∧ _ ∧ _ ∧ lcW _ _ _) = _
    refine congrArg Exists (funext fun kvs => ?_)
    congr 1
    congr 1
    congr 1
    show _ = lcW (kvs.map (·.1)) _ fun r => Q (.list r)
    congr 1
    funext x K
    show lift _ _ = lift _ fun ρ' => evc C c ρ' fun t => _
    congr 1
    funext ρ'
    congr 1
    funext t
    cases t <;> rfl
  rw [e0]
  funext Q
  refine propext ⟨?_, ?_⟩
  · rintro ⟨kvs, hk, hz, hf, hl⟩
    rw [h] at hk
    have := PyData.dict.inj (B.own.inj (Option.some.inj (Option.some.inj hk)))
    subst this
    rw [ek] at hl
    exact ⟨⟨by simpa using hz, hf⟩, hl⟩
  · rintro ⟨⟨hz, hf⟩, hl⟩
    exact ⟨_, h, by simpa using hz, hf, by rw [ek]; exact hl⟩
theorem bo_lck (vs : List Nat) (g : G) (i : Nat) (c : To) (e : E) : bo C (.lck vs g i c e) ρ = ev C (.lck vs g i c e) ρ := rfl
theorem ar_lck (vs : List Nat) (g : G) (i : Nat) (c : To) (e : E) : ar C (.lck vs g i c e) ρ = shW (ev C (.lck vs g i c e) ρ) := rfl
end
abbrev Szd := Int × Tu Int
def leS (a b : Szd) : Bool := decide (a.1 < b.1 ∨ (a.1 = b.1 ∧ a.2.l ≤ b.2.l))
theorem alike_ints : ∀ xs ys : List Int, PySem.W.alikeAll (xs.map .int) (ys.map .int) = true
  | [], _ => by simp [PySem.W.alikeAll]
  | _ :: _, [] => by simp [PySem.W.alikeAll]
  | x :: xs, y :: ys => by simp only [List.map_cons, PySem.W.alikeAll, PySem.W.alike, Bool.true_and]; exact alike_ints xs ys
theorem en_szd (a : Szd) : (en a : D) = .tuple [.int a.1, .tuple (a.2.l.map .int)] := rfl
theorem alike_szd (a b : Szd) : PySem.W.alike (en a) (en b) = true := by
  rw [en_szd, en_szd]
  simp only [PySem.W.alike, PySem.W.alikeAll, Bool.true_and, Bool.and_true]
  exact alike_ints _ _
theorem eqv_tu (a b : List Int) : PyData.eqv (.tuple (a.map .int)) (.tuple (b.map .int)) = decide (a = b) := by
  have := LEnc.eqv (Tu.mk a) (Tu.mk b)
  refine (show _ = _ from this).trans ?_
  rw [Bool.eq_iff_iff, decide_eq_true_iff, decide_eq_true_iff, Tu.mk.injEq]
theorem lt_szd (a b : Szd) : PySem.W.dataLt (en a) (en b) = decide (a.1 < b.1 ∨ (a.1 = b.1 ∧ a.2.l < b.2.l)) := by
  rw [en_szd, en_szd, PySem.W.dataLt_pair (by simp [PySem.W.alike]) (by simp only [PySem.W.alike]; exact alike_ints _ _), PySem.W.dataLt_int, eqv_tu, PySem.W.dataLt_tuple]
  rw [show PyProof.Rows.lexLt PyProof.Rows.itemOrd (PySem.W.keyToksAll (a.2.l.map .int)) (PySem.W.keyToksAll (b.2.l.map .int)) = decide (a.2.l < b.2.l) from PySem.W.dataLt_ints a.2.l b.2.l]
  simp only [PyData.eqv, beq_iff_eq]
  by_cases h1 : a.1 = b.1
  · by_cases h2 : a.2.l = b.2.l
    · have : ¬ b.2.l < b.2.l := List.lt_irrefl _
      simp [h1, h2, this]
    · simp [h1, h2]
  · simp [h1]
theorem le_szd (a b : Szd) : PySem.W.dataLe false id (en a) (en b) = leS a b := by
  show (!PySem.W.dataLt (en b) (en a)) = _
  rw [lt_szd]
  unfold leS
  rw [Bool.eq_iff_iff, Bool.not_eq_true', decide_eq_false_iff_not, decide_eq_true_iff]
  constructor
  · intro h
    by_cases h1 : a.1 < b.1
    · exact .inl h1
    · by_cases h2 : a.1 = b.1
      · exact .inr ⟨h2, List.not_lt.mp fun z => h (.inr ⟨h2.symm, z⟩)⟩
      · exact absurd (.inl (by omega)) h
  · rintro (h | ⟨h1, h2⟩) (h3 | ⟨h3, h4⟩)
    · omega
    · omega
    · omega
    · exact List.not_lt.mpr h2 h4
theorem q_sortS (xs : List Szd) (h : ∀ x ∈ xs, (en x : D).depth ≤ 60) : primD .sorted [en xs] = some (en (xs.mergeSort leS)) := by
  have ok : sortOk (xs.map en) = true := by
    unfold sortOk allAlike
    simp only [Bool.and_eq_true, Bool.or_eq_true, List.all_eq_true, List.mem_map, decide_eq_true_eq]
    refine ⟨⟨?_, .inl ?_⟩, ?_⟩
    · rintro _ ⟨p, _, rfl⟩ _ ⟨q, _, rfl⟩; exact alike_szd p q
    · rintro _ ⟨p, _, rfl⟩; rfl
    · rintro _ ⟨p, hp, rfl⟩; exact h p hp
  show (if sortOk (xs.map en) = true then some (PyData.list (sortD (xs.map en))) else none) = _
  rw [if_pos ok]
  have : sortD (xs.map en) = (xs.mergeSort leS).map en := by
    unfold sortD
    rw [List.map_mergeSort (r := leS) (s := PySem.W.dataLe false id) fun a _ b _ => (le_szd a b).symm]
  rw [this]; rfl
theorem dep_szd (x : Szd) : (en x : D).depth ≤ 60 := by
  have := LEnc.dep x
  refine Nat.le_trans this ?_
  decide
theorem leS_trans (a b c : Szd) (h1 : leS a b = true) (h2 : leS b c = true) : leS a c = true := by
  unfold leS at *
  simp only [decide_eq_true_iff] at *
  rcases h1 with h1 | ⟨h1, h1'⟩
  · rcases h2 with h2 | ⟨h2, _⟩
    · exact .inl (by omega)
    · exact .inl (by omega)
  · rcases h2 with h2 | ⟨h2, h2'⟩
    · exact .inl (by omega)
    · exact .inr ⟨h1.trans h2, List.le_trans h1' h2'⟩
theorem leS_total (a b : Szd) : (leS a b || leS b a) = true := by
  unfold leS
  simp only [Bool.or_eq_true, decide_eq_true_iff]
  by_cases h1 : a.1 < b.1
  · exact .inl (.inl h1)
  · by_cases h2 : a.1 = b.1
    · rcases List.le_total a.2.l b.2.l with h | h
      · exact .inl (.inr ⟨h2, h⟩)
      · exact .inr (.inr ⟨h2.symm, h⟩)
    · exact .inr (.inl (by omega))
theorem leS_anti (a b : Szd) (h1 : leS a b = true) (h2 : leS b a = true) : a = b := by
  unfold leS at *
  simp only [decide_eq_true_iff] at *
  obtain ⟨x, ⟨l⟩⟩ := a
  obtain ⟨y, ⟨m⟩⟩ := b
  simp only at *
  rcases h1 with h1 | ⟨h1, h1'⟩
  · rcases h2 with h2 | ⟨h2, _⟩ <;> omega
  · rcases h2 with h2 | ⟨h2, h2'⟩
    · omega
    · rw [h1, List.le_antisymm h1' h2']
theorem sort_perm {xs ys : List Szd} (h : xs.Perm ys) : xs.mergeSort leS = ys.mergeSort leS :=
  List.Perm.eq_of_pairwise (le := fun a b => leS a b = true) (fun a b _ _ => leS_anti a b) (List.pairwise_mergeSort leS_trans leS_total xs) (List.pairwise_mergeSort leS_trans leS_total ys) ((List.mergeSort_perm xs leS).trans (h.trans (List.mergeSort_perm ys leS).symm))
/-- a lot with its size -/
def szd (l : Tu Int) : Szd := ((l.l.length : Int), l)
def srtL (ls : List (Tu Int)) : List (Tu Int) := ((ls.map szd).mergeSort leS).map Prod.snd
theorem srtL_mem {ls : List (Tu Int)} {l : Tu Int} : l ∈ srtL ls ↔ l ∈ ls := by
  unfold srtL
  rw [List.mem_map]
  constructor
  · rintro ⟨p, hp, rfl⟩
    rw [(List.mergeSort_perm _ _).mem_iff, List.mem_map] at hp
    obtain ⟨m, hm, rfl⟩ := hp
    exact hm
  · intro h
    exact ⟨szd l, (List.mergeSort_perm _ _).mem_iff.mpr (List.mem_map.mpr ⟨l, h, rfl⟩), rfl⟩
theorem srtL_len (ls : List (Tu Int)) : (srtL ls).length = ls.length := by
  unfold srtL; rw [List.length_map, List.length_mergeSort, List.length_map]
theorem srtL_nodup {ls : List (Tu Int)} (h : ls.Nodup) : (srtL ls).Nodup := by
  have p : (srtL ls).Perm ls := by
    unfold srtL
    refine ((List.mergeSort_perm (ls.map szd) leS).map Prod.snd).trans ?_
    rw [List.map_map, show Prod.snd ∘ szd = id from rfl, List.map_id]
  exact p.nodup_iff.mpr h
theorem srtL_eq {ls ms : List (Tu Int)} (h1 : ls.Nodup) (h2 : ms.Nodup) (h : ∀ l, l ∈ ls ↔ l ∈ ms) : srtL ls = srtL ms := by
  unfold srtL
  rw [sort_perm ((List.perm_ext_iff_of_nodup h1 h2).mpr h |>.map szd)]
/-- all rising lots of some works -/
def lotsL (cs : List Int) : List (Tu Int) := cs.foldl (fun f c => f ++ f.map fun l => ⟨l.l ++ [c]⟩) [⟨[]⟩]
theorem lotsL_snoc (cs : List Int) (c : Int) : lotsL (cs ++ [c]) = lotsL cs ++ (lotsL cs).map fun l => ⟨l.l ++ [c]⟩ := by
  unfold lotsL; rw [List.foldl_append]; rfl
theorem snoc_rec {α : Type} {P : List α → Prop} (h0 : P []) (hs : ∀ xs x, P xs → P (xs ++ [x])) : ∀ xs, P xs := fun xs => by
  have : ∀ n, ∀ xs : List α, xs.length = n → P xs := fun n => by
    induction n with
    | zero => intro xs h; rw [List.eq_nil_of_length_eq_zero h]; exact h0
    | succ n ih =>
      intro xs h
      have hne : xs ≠ [] := fun e => by rw [e] at h; cases h
      rw [← List.dropLast_concat_getLast hne]
      exact hs _ _ (ih _ (by rw [List.length_dropLast]; omega))
  exact this _ xs rfl
theorem lotsL_len (cs : List Int) : (lotsL cs).length = 2 ^ cs.length := by
  induction cs using snoc_rec with
  | h0 => rfl
  | hs xs x ih => rw [lotsL_snoc, List.length_append, List.length_map, ih, List.length_append, List.length_cons, List.length_nil, Nat.pow_succ]; omega
theorem lotsL_sub (cs : List Int) : ∀ l ∈ lotsL cs, l.l.Sublist cs := by
  induction cs using snoc_rec with
  | h0 => intro l hl; have : l = ⟨[]⟩ := by simpa [lotsL] using hl
          rw [this]; exact List.Sublist.refl _
  | hs xs x ih =>
    intro l hl
    rw [lotsL_snoc] at hl
    rcases List.mem_append.mp hl with hl | hl
    · exact (ih l hl).trans (List.sublist_append_left _ _)
    · obtain ⟨m, hm, rfl⟩ := List.mem_map.mp hl
      exact List.Sublist.append (ih m hm) (List.Sublist.refl _)
theorem lotsL_filter (cs : List Int) (p : Int → Bool) : Tu.mk (cs.filter p) ∈ lotsL cs := by
  induction cs using snoc_rec with
  | h0 => simp [lotsL]
  | hs xs x ih =>
    rw [lotsL_snoc, List.filter_append]
    by_cases h : p x = true
    · refine List.mem_append_right _ (List.mem_map.mpr ⟨_, ih, ?_⟩)
      simp [h]
    · refine List.mem_append_left _ ?_
      simpa [h] using ih
theorem lotsL_nodup (cs : List Int) (h : cs.Nodup) : (lotsL cs).Nodup := by
  induction cs using snoc_rec with
  | h0 => simp [lotsL]
  | hs xs x ih =>
    have hx : x ∉ xs := fun z => (List.nodup_append.mp h).2.2 x z x (List.mem_singleton.mpr rfl) rfl
    have h1 := ih (List.nodup_append.mp h).1
    rw [lotsL_snoc]
    refine List.nodup_append.mpr ⟨h1, ?_, fun a ha b hb e => ?_⟩
    · refine List.Pairwise.map _ (fun a b hab e => hab ?_) h1
      have := (Tu.mk.inj e)
      obtain ⟨a⟩ := a
      obtain ⟨b⟩ := b
      exact congrArg Tu.mk (List.append_cancel_right this)
    · subst e
      obtain ⟨m, _, rfl⟩ := List.mem_map.mp hb
      exact hx ((lotsL_sub xs _ ha).subset (by simp))
end
set_option maxHeartbeats 4000000
/-! PMm: sorted tuples of ints. -/
section
open PySem L2
def leU (a b : Tu Int) : Bool := decide (¬ b.l < a.l)
theorem en_tu (a : Tu Int) : (en a : D) = .tuple (a.l.map .int) := rfl
theorem lt_tu (a b : Tu Int) : PySem.W.dataLt (en a) (en b) = decide (a.l < b.l) := by
  rw [en_tu, en_tu, PySem.W.dataLt_tuple]
  exact PySem.W.dataLt_ints a.l b.l
theorem le_tu (a b : Tu Int) : PySem.W.dataLe false id (en a) (en b) = leU a b := by
  show (!PySem.W.dataLt (en b) (en a)) = _
  rw [lt_tu]
  unfold leU
  rw [decide_not]
/-- also where some are empty -/
theorem q_sortT0 (xs : List (Tu Int)) : primD .sorted [en xs] = some (en (xs.mergeSort leU)) := by
  have ok : sortOk (xs.map en) = true := by
    unfold sortOk allAlike
    simp only [Bool.and_eq_true, Bool.or_eq_true, List.all_eq_true, List.mem_map, decide_eq_true_eq]
    refine ⟨⟨?_, .inl ?_⟩, ?_⟩
    · rintro _ ⟨p, _, rfl⟩ _ ⟨q, _, rfl⟩
      rw [en_tu, en_tu]
      simp only [PySem.W.alike]
      exact alike_ints _ _
    · rintro _ ⟨p, hp, rfl⟩
      rfl
    · rintro _ ⟨p, hp, rfl⟩
      refine Nat.le_trans (LEnc.dep p) ?_
      decide
  show (if sortOk (xs.map en) = true then some (PyData.list (sortD (xs.map en))) else none) = _
  rw [if_pos ok]
  have : sortD (xs.map en) = (xs.mergeSort leU).map en := by
    unfold sortD
    rw [List.map_mergeSort (r := leU) (s := PySem.W.dataLe false id) fun a _ b _ => (le_tu a b).symm]
  rw [this]; rfl
theorem q_sortT {xs : List (Tu Int)} (_ : ∀ x ∈ xs, x.l ≠ []) : primD .sorted [en xs] = some (en (xs.mergeSort leU)) := q_sortT0 xs
theorem leU_le {a b : Tu Int} : leU a b = true ↔ a.l ≤ b.l := by
  unfold leU
  rw [decide_eq_true_iff, List.not_lt]
theorem leU_trans (a b c : Tu Int) (h1 : leU a b = true) (h2 : leU b c = true) : leU a c = true := leU_le.mpr (List.le_trans (leU_le.mp h1) (leU_le.mp h2))
theorem leU_total (a b : Tu Int) : (leU a b || leU b a) = true := by
  rw [Bool.or_eq_true, leU_le, leU_le]
  exact List.le_total _ _
theorem sortU_pw (xs : List (Tu Int)) : (xs.mergeSort leU).Pairwise fun a b => leU a b = true := List.pairwise_mergeSort leU_trans leU_total xs
/-- triples in order -/
theorem le3 {a b c x y z : Int} (h : leU ⟨[a, b, c]⟩ ⟨[x, y, z]⟩ = true) : a < x ∨ (a = x ∧ (b < y ∨ (b = y ∧ c ≤ z))) := by
  have := leU_le.mp h
  simp only at this
  apply Classical.byContradiction
  intro hc
  refine List.not_lt.mpr this ?_
  by_cases h1 : x < a
  · exact List.Lex.rel h1
  · have : a = x := by omega
    subst this
    refine List.Lex.cons ?_
    by_cases h2 : y < b
    · exact List.Lex.rel h2
    · have : b = y := by omega
      subst this
      refine List.Lex.cons ?_
      exact List.Lex.rel (by omega)
end
set_option maxHeartbeats 4000000
/-! PMo: tuples of several kinds; words. -/
section
open PySem L2
theorem cutT {α : Type} {xs : List α} {k : Nat} (h : k ≤ xs.length) : cutL xs none (some (k : Int)) = xs.take k := by
  unfold cutL
  rw [show HT.sIx xs.length 0 none = 0 from rfl, HT.sIx_nat, Nat.sub_zero, List.drop_zero, Nat.min_eq_left h]
theorem cutD {α : Type} {xs : List α} {k : Nat} (h : k ≤ xs.length) : cutL xs (some (k : Int)) none = xs.drop k := by
  unfold cutL
  rw [show HT.sIx xs.length xs.length none = xs.length from rfl, HT.sIx_nat, Nat.min_eq_left h]
  exact List.take_of_length_le (by rw [List.length_drop]; exact Nat.le_refl _)
theorem is_Ty (xs : List D) : isiD (.tuple xs) [.tuple] = true := rfl
theorem is_St (s : Str) : isiD (.str s) [.str] = true := rfl
theorem is_Iy (i : Int) : isiD (en i) [.int] = true := rfl
theorem is_By (i : Int) : isiD (en i) [.bool] = false := rfl
theorem is_Tu {α : Type} [Enc α] (xs : Tu α) : isiD (en xs) [.tuple] = true := rfl
theorem is_Pr {α β : Type} [Enc α] [Enc β] (p : α × β) : isiD (en p) [.tuple] = true := rfl
theorem raw_len (xs : List D) : primD .len [.tuple xs] = some (en (xs.length : Int)) := rfl
theorem pr_len2 {α β : Type} [Enc α] [Enc β] (p : α × β) : primD .len [en p] = some (en (2 : Int)) := rfl
theorem raw_x0 (a : D) (xs : List D) : idxD (.tuple (a :: xs)) (en (0 : Int)) = some a := idx0 a xs
theorem raw_x1 (a b : D) (xs : List D) : idxD (.tuple (a :: b :: xs)) (en (1 : Int)) = some b := idx1 a b xs
theorem atI_nat {α : Type} {xs : List α} {i : Nat} {a : α} (h : xs[i]? = some a) : atI xs (i : Int) = some a := by
  have hi : i < xs.length := by
    apply Classical.byContradiction
    intro hc
    rw [List.getElem?_eq_none (by omega)] at h; cases h
  unfold atI ixN
  rw [List.getElem?_eq_getElem hi] at h
  simp [hi, Option.some.inj h]
theorem raw_x2 (a b c : D) (xs : List D) : idxD (.tuple (a :: b :: c :: xs)) (en (2 : Int)) = some c := atI_nat (i := 2) rfl
theorem raw_s1 (a : D) (xs : List D) : slcD (.tuple (a :: xs)) (some 1) none = some (.tuple xs) := by
  show some (PyData.tuple (cutL (a :: xs) (some ((1 : Nat) : Int)) none)) = _
  rw [cutD (k := 1) (by rw [List.length_cons]; omega)]; rfl
/-- words -/
inductive Wd where
  | even | pairs | three | ring | times | form | before | rise | work
  deriving DecidableEq, Inhabited
def Wd.s : Wd → Str
  | .even => "even" | .pairs => "pairs" | .three => "three" | .ring => "ring" | .times => "times" | .form => "form" | .before => "before" | .rise => "rise" | .work => "work"
instance : Enc Wd := ⟨fun w => .str w.s⟩
theorem eqvS (s t : Str) : PyData.eqv (.str s) (.str t) = decide (s = t) := by rw [eqv_str]
theorem wd_en (w : Wd) : (en w : D) = .str w.s := rfl
instance : LEnc Wd where
  eqv := fun a b => by
    rw [wd_en, wd_en, eqvS]
    cases a <;> cases b <;> decide
  lay := fun a => by
    rw [wd_en]
    simp only [PyData.canLay0]
    cases a <;> decide +kernel
  dp := 0
  dep := fun a => by rw [wd_en]; simp [PyData.depth]
theorem dp_wd : LEnc.dp Wd = 0 := rfl
theorem wd_even : PyData.str (Str.ofString "even") = en Wd.even := rfl
theorem wd_pairs : PyData.str (Str.ofString "pairs") = en Wd.pairs := rfl
theorem wd_three : PyData.str (Str.ofString "three") = en Wd.three := rfl
theorem wd_ring : PyData.str (Str.ofString "ring") = en Wd.ring := rfl
theorem wd_times : PyData.str (Str.ofString "times") = en Wd.times := rfl
theorem wd_form : PyData.str (Str.ofString "form") = en Wd.form := rfl
theorem wd_before : PyData.str (Str.ofString "before") = en Wd.before := rfl
theorem wd_rise : PyData.str (Str.ofString "rise") = en Wd.rise := rfl
theorem wd_work : PyData.str (Str.ofString "work") = en Wd.work := rfl
theorem is_Wd (w : Wd) : isiD (en w) [.str] = true := rfl
section
variable {α : Type} [Enc α] [DecidableEq α] [LEnc α]
theorem c_inP (h : LEnc.dp α ≤ 60) (a b c : α) : copD .inn (en a) (en (b, c)) = some (en (mb a [b, c])) := c_inT h a ⟨[b, c]⟩
theorem c_ninP (h : LEnc.dp α ≤ 60) (a b c : α) : copD .nin (en a) (en (b, c)) = some (en (!mb a [b, c])) := c_ninT h a ⟨[b, c]⟩
end
theorem add_raw (d : D) (ds es : List D) (h : ds.length + es.length ≤ 1000) : binD .add (.tuple ds) (.tuple es) = some (.tuple (ds ++ es)) := if_pos (szl (by omega))
theorem add_wd (d : D) (t : Tu Int) (h : t.l.length ≤ 1000) : binD .add (.tuple [d]) (en t) = some (.tuple (d :: t.l.map en)) := if_pos (szl (by
  show [d].length + (t.l.map (fun i : Int => (en i : D))).length ≤ 1000000
  rw [List.length_map, List.length_cons, List.length_nil]; omega))
theorem tru_lt (xs : List D) : ltD (.tuple xs) = some xs := rfl
theorem a_t4 {α : Type} [Enc α] {ρ : Nv} (g1 g2 g3 g4 : G) (a b c d : α) : asg (.tup [g1, g2, g3, g4]) (en (Tu.mk [a, b, c, d])) ρ = (asg g1 (en a) ρ).bind fun ρ => (asg g2 (en b) ρ).bind fun ρ => (asg g3 (en c) ρ).bind (asg g4 (en d)) := by
  show asg (.tup [g1, g2, g3, g4]) (.tuple [en a, en b, en c, en d]) ρ = _
  rw [asg_t, asgs_c]
  congr 1; funext r
  rw [asgs_c]
  congr 1; funext r2
  rw [asgs_c]
  congr 1; funext r3
  rw [asgs_c]
  cases asg g4 (en d) r3 with
  | none => rfl
  | some x => exact asgs_n
theorem mb2 {α : Type} [DecidableEq α] (a b c : α) : mb a [b, c] = (decide (a = b) || decide (a = c)) := by
  rw [Bool.eq_iff_iff, mb_iff, Bool.or_eq_true, decide_eq_true_iff, decide_eq_true_iff]; simp
theorem tr4 (a b c d : Int) : PyData.tuple [en a, en b, en c, en d] = en (Tu.mk [a, b, c, d]) := rfl
end
local macro_rules
  | `(tactic| array_get_dec) => `(tactic| simp only [wbo_var, ar_var, bo_cst, bo_bin, bo_neg, bo_not, bo_and, bo_or, bo_cmp, bo_chain, bo_ife, bo_tup, bo_lst, bo_dnew, bo_idx, bo_slc, bo_rev, bo_call, bo_prim, bo_isi, bo_lc, bo_rg, sh_rt, sh_gd, sh_bd, ar_cst, ar_bin, ar_neg, ar_not, ar_and, ar_or, ar_cmp, ar_chain, ar_ife, ar_tup, ar_lst, ar_dnew, ar_idx, ar_slc, ar_rev, ar_call, ar_prim, ar_isi, ar_lc, ar_rg, e_var, e_cst, e_bin, e_neg, e_not, e_and, e_or, e_cmp, e_chain, e_ife, e_tup, e_lst, e_dnew, e_idx, e_slc, e_rev, e_call, e_prim, e_isi, e_lc, e_rg, wt_and, wt_or, wt_not, wt_e, vs_nil, vs_cons, vs_star, vb_nil, vb_cons, va_nil, va_cons, vo_no, vo_yes, vc_no, vc_yes, vi_val, vi_valf, vi_rng, vi_zip, vi_zipf, getD_0, getD_s, a_v, a_p, Option.bind_some, x_nil, x_cons, x_ite, exec, koF, parW, sets_n, sets_c, rt_ap, bd_ap, gd_ap, ite_ap, bd_rt, rt_bd, bd_bd, bd_gd, gd_gd, gd_true, bd_ite, ite_rt, ite_gd1, ite_gd2, lift_rt, b_and, b_and2, b_or, b_or2, ite_en, look_z, look_s, lookB_z, lookB_o, lookB_s, lookA_z, lookA_c, lookA_s, lookO_o, lookO_s, List.getElem?_cons_zero, List.getElem?_cons_succ, List.set_cons_zero, List.set_cons_succ, Bool.false_eq_true, if_false, if_true, wipeN_n, wipeN_c, free_n, free_c, nOwn_n, nOwn_s, nOwn_c, Bool.true_and, true_and, List.length_cons, List.length_nil, Nat.zero_add, Nat.reduceAdd, Nat.reduceLeDiff, sz, i_en, b_en, l_en, t_en, tl_en, p_en, l1_en, t1_en, snoc_en, app_en, isL_l, c_eq, c_ne, c_inL, c_inT, c_ninL, c_ninT, c_eqE, c_neE, c_eqU, c_neU, c_lt, c_gt, c_le, c_ge, dp_int, dp_bool, dp_unit, dp_list, dp_tu, dp_pair, Nat.max_self, tr_b, tr_i, tr_l, tr_t, o_add, o_sub, o_mul, o_div, o_mod, o_shl, o_shr, o_band, o_neg, o_addL, o_addT, mulB1, i01, x_list, x_tup, x_p0, x_p1, s_list, s_tup, r_list, lt_list, lt_tup, ls_list, q_lenL, q_lenT, q_tupL, q_tupT, q_listL, q_listT, q_all, q_any, q_sum, q_max, q_min, q_int, q_abs, g_rng, toI_en, lcW_en, lcM_all, lcM_if, lcM_gd, List.map_id', List.all_map, List.any_map, Bool.not_true, Bool.not_false, List.length_map, ii_and, ii_or, Option.getD_some, List.isEmpty_map, isEmpty_filterB, Function.comp_def, id_eq, bo_sset, ar_sset, e_sset, sset_en, ssetL_en, bo_meth, bo_disp, ar_meth, ar_disp, e_meth, e_disp, vp_nil, vp_cons, vi_enum, vi_enumf, vi_rng3, x_dct, c_inD, c_ninD, s_dct, isL_d, q_lenD, q_listD, d_int, d_tu, d_pair, enum_en, index_en, mOk_l, od_1, od_2, false_implies, Bool.and_true, and_true, implies_true, forall_const, ite_some, s_lst, x_frz, frz_o, frz_h, frz_s, Option.getD_none, Int.one_mul, forW_en, gd_ff, sz_lt, List.append_nil, List.nil_append, Bool.not_not, t0_en, l0_en, e_dc, bo_dc, ar_dc, asgT, r_tup, r_pair, a_t3, bo_rev0, ar_rev0, e_rev0, r0_tup, is_Ty, is_St, is_Iy, is_By, is_Tu, is_Pr, is_Wd, raw_len, pr_len2, raw_x0, raw_x1, raw_x2, raw_s1, wd_even, wd_pairs, wd_three, wd_ring, wd_times, wd_form, wd_before, wd_rise, wd_work, dp_wd, c_inP, c_ninP, mb2, tr4, List.length_cons, List.length_nil, Nat.zero_add, Nat.reduceAdd, Int.cast_ofNat_Int, Int.reduceEq, decide_true, decide_false, reduceCtorEq, Bool.or_false, Bool.false_or, Bool.true_or, Bool.or_true, Bool.not_true, Bool.not_false, Bool.false_eq_true, if_true, if_false])
set_option maxHeartbeats 4000000
/-! K14n: pairs side by side. -/
section
open PySem L2
section
variable {k n : Nat} {ps : List (Int × Int)} {Q : D → Prop} {K : Ko}
def sideR (ps : List (Int × Int)) (p : Int × Int) : List (Tu Int) := (ps.filter fun q => !mb (p.1, q.2) ps && !mb (q.1, p.2) ps).map fun q => ⟨[p.1, p.2, q.1, q.2]⟩
def sideL (ps : List (Int × Int)) : List (Tu Int) := ps.flatMap (sideR ps)
theorem s_side (hl : ps.length ≤ 100) (q : Q (en (Tu.mk (sideL ps)))) : CG (k + 1) 1 [.sh (en (od n ps))] Q := by
  unfold CG; rw [hd1 rfl]
  unfold b1
  sizeOf_list_dec
  rw [mtE (α := Tu Int)]
  refine ⟨rfl, ?_⟩
  refine forL_inv (fun done ρ => ∃ (f : List (Tu Int)) (x4 x5 x6 x7 : Option B), ρ = [some (.sh (en (od n ps))), some (.own (en f)), some (.sh (en (n : Int))), some (.sh (en (Tu.mk ps))), x4, x5, x6, x7] ∧ f = done.flatMap (sideR ps) ∧ f.length ≤ 100 * done.length) (done := []) ⟨[], none, none, none, none, rfl, rfl, by simp⟩ ?_ ?_
  · rintro done p r ρ e ⟨f, x4, x5, x6, x7, rfl, ef, hf⟩ K2 hK2
    have hdl : done.length + 1 ≤ 100 := by
      have := congrArg List.length (show ps = done ++ p :: r from e)
      rw [List.length_append, List.length_cons] at this; omega
    unfold b1_2
    sizeOf_list_dec
    refine forL_inv (fun dq ρ => ∃ (f2 : List (Tu Int)) (x6 x7 : Option B), ρ = [some (.sh (en (od n ps))), some (.own (en f2)), some (.sh (en (n : Int))), some (.sh (en (Tu.mk ps))), some (.sh (en p.1)), some (.sh (en p.2)), x6, x7] ∧ f2 = f ++ (dq.filter fun q => !mb (p.1, q.2) ps && !mb (q.1, p.2) ps).map (fun q => (⟨[p.1, p.2, q.1, q.2]⟩ : Tu Int)) ∧ f2.length ≤ f.length + dq.length) (done := []) ⟨f, x6, x7, rfl, by simp, by simp⟩ ?_ ?_
    · rintro dq q2 r2 ρ e2 ⟨f2, x6, x7, rfl, ef2, hf2⟩ K3 hK3
      have hq2 : dq.length + 1 ≤ 100 := by
        have := congrArg List.length (show ps = dq ++ q2 :: r2 from e2)
        rw [List.length_append, List.length_cons] at this; omega
      unfold b1_1 b1_0
      sizeOf_list_dec
      by_cases hc : (!mb (p.1, q2.2) ps && !mb (q2.1, p.2) ps) = true
      · rw [if_pos hc]
        refine ⟨szt (by omega), ?_⟩
        rw [show PyData.list (List.map en f2 ++ [PyData.tuple [en p.1, en p.2, en q2.1, en q2.2]]) = en (f2 ++ [(⟨[p.1, p.2, q2.1, q2.2]⟩ : Tu Int)]) from by
          show _ = PyData.list (List.map en _)
          rw [List.map_append]; rfl]
        refine hK3 _ ⟨_, _, _, rfl, ?_, ?_⟩
        · rw [ef2, List.filter_append, List.filter_cons, if_pos hc, List.filter_nil, List.map_append, List.append_assoc]; rfl
        · rw [List.length_append, List.length_append, List.length_cons, List.length_nil, List.length_cons, List.length_nil]; omega
      · rw [if_neg hc]
        refine hK3 _ ⟨_, _, _, rfl, ?_, ?_⟩
        · rw [ef2, List.filter_append, List.filter_cons, if_neg hc, List.filter_nil, List.append_nil]
        · rw [List.length_append]; omega
    · rintro ρ ⟨f2, x6, x7, rfl, ef2, hf2⟩
      rw [List.nil_append] at ef2 hf2
      refine hK2 _ ⟨f2, _, _, _, _, rfl, ?_, ?_⟩
      · rw [ef2, ef, List.flatMap_append, List.flatMap_cons, List.flatMap_nil, List.append_nil]; rfl
      · rw [List.length_append, List.length_cons, List.length_nil]; omega
  · rintro ρ ⟨f, x4, x5, x6, x7, rfl, ef, hf⟩
    rw [List.nil_append] at ef
    sizeOf_list_dec
    rw [ef]
    exact q
theorem s_lawSide (hl : ps.length ≤ 100) (q : Q (en (sideL ps))) : CG (k + 1) 14 [.sh (en (od n ps))] Q := by
  unfold CG; rw [hd14 rfl]
  unfold b14
  sizeOf_list_dec
  rw [mtE (α := Tu Int)]
  refine forL_inv (fun done ρ => ∃ (f : List (Tu Int)) (x4 x5 : Option B), ρ = [some (.sh (en (od n ps))), some (.sh (en f)), some (.sh (en (n : Int))), some (.sh (en (Tu.mk ps))), x4, x5, none, none] ∧ f = done.flatMap (sideR ps) ∧ f.length ≤ 100 * done.length) (done := []) ⟨[], none, none, rfl, rfl, by simp⟩ ?_ ?_
  · rintro done p r ρ e ⟨f, x4, x5, rfl, ef, hf⟩ K2 hK2
    have hdl : done.length + 1 ≤ 100 := by
      have := congrArg List.length (show ps = done ++ p :: r from e)
      rw [List.length_append, List.length_cons] at this; omega
    have hfl := List.length_filter_le (fun q : Int × Int => !mb (p.1, q.2) ps && !mb (q.1, p.2) ps) ps
    unfold b14_0
    sizeOf_list_dec
    simp only [tr4]
    sizeOf_list_dec
    refine ⟨szl (by omega), hK2 _ ⟨_, _, _, rfl, ?_, ?_⟩⟩
    · rw [ef, List.flatMap_append, List.flatMap_cons, List.flatMap_nil, List.append_nil]; rfl
    · rw [List.length_append, List.length_map, List.length_append, List.length_cons, List.length_nil]; omega
  · rintro ρ ⟨f, x4, x5, rfl, ef, hf⟩
    rw [List.nil_append] at ef
    sizeOf_list_dec
    rw [ef]
    exact q
end
end
set_option maxHeartbeats 2000000
/-! PMt: sorted by a key (how many; how many, and itself), typed. -/
section
open PySem L2
def srtD (b : Bool) (d : D) : Option D := (seqD d).bind fun ds => if srtOk b ds = true then some (.list (srtBy b ds)) else none
section
variable {C : Calls} {ρ : Nv}
theorem e_srt (a k : E) (w : Nat) : ev C (.srt a w k) ρ = bd (bo C a ρ) fun x => lift (srtD (w == 1) x) := by
  funext Q
  show bor a ρ (ev C a ρ) _ = bor a ρ (ev C a ρ) _
  congr 1
  funext d
  apply propext
  unfold srtD lift
  cases h : seqD d with
  | none => simp [h]
  | some ds =>
    by_cases hs : srtOk (w == 1) ds = true <;> simp [h, hs]
theorem bo_srt (a k : E) (w : Nat) : bo C (.srt a w k) ρ = ev C (.srt a w k) ρ := rfl
theorem ar_srt (a k : E) (w : Nat) : ar C (.srt a w k) ρ = shW (ev C (.srt a w k) ρ) := rfl
end
theorem e_repl {C : Calls} {ρ : Nv} (is : List Nat) : ev C (.repl is) ρ = bd (lift (lookBs ρ is)) fun ds => gd (ds.length ≤ sizeLine) (lift (primD .repr [.list ds])) := by
  funext Q
  apply propext
  constructor
  · rintro ⟨ds, h1, h2, h3⟩; exact ⟨ds, h1, h2, h3⟩
  · rintro ⟨ds, h1, h2, h3⟩; exact ⟨ds, h1, h2, h3⟩
theorem bo_repl {C : Calls} {ρ : Nv} (is : List Nat) : bo C (.repl is) ρ = ev C (.repl is) ρ := rfl
theorem ar_repl {C : Calls} {ρ : Nv} (is : List Nat) : ar C (.repl is) ρ = shW (ev C (.repl is) ρ) := rfl
def leL (a b : Tu Int) : Bool := decide (a.l.length ≤ b.l.length)
theorem keyF_en (t : Tu Int) : keyF false (en t) = en (t.l.length : Int) := by
  show PyData.int _ = PyData.int _
  congr 1
  show (((t.l.map en).length : Nat) : Int) = _
  rw [List.length_map]
theorem all_tupI (xs : List (Tu Int)) : (xs.map en).all isTupI = true := by
  rw [List.all_eq_true]
  intro d hd
  obtain ⟨t, _, rfl⟩ := List.mem_map.mp hd
  show (t.l.map en).all isIntD = true
  rw [List.all_eq_true]
  intro e he
  obtain ⟨i, _, rfl⟩ := List.mem_map.mp he
  rfl
theorem sortOk1_ints (xs : List Int) : sortOk1 (xs.map en) = true := sortOk1_in (sortOk_ints xs) (by
  rw [Bool.or_eq_true]
  refine .inr (List.all_eq_true.mpr fun d hd => ?_)
  obtain ⟨i, _, rfl⟩ := List.mem_map.mp hd
  rfl)
theorem srtOk_sz (xs : List (Tu Int)) : srtOk false (xs.map en) = true := by
  unfold srtOk
  rw [List.map_map, show (keyF false ∘ (en : Tu Int → D)) = (en ∘ fun t : Tu Int => (t.l.length : Int)) from funext keyF_en, ← List.map_map, sortOk1_ints, all_tupI]
  rfl
theorem srtBy_sz (xs : List (Tu Int)) : srtBy false (xs.map en) = (xs.mergeSort leL).map en := by
  unfold srtBy
  rw [← List.map_mergeSort (r := leL) (s := PySem.W.dataLe false (keyF false)) fun a _ b _ => ?_]
  show leL a b = !PySem.W.dataLt (keyF false (en b)) (keyF false (en a))
  rw [keyF_en, keyF_en]
  show decide _ = !PySem.W.dataLt (.int _) (.int _)
  rw [dataLt_int]
  by_cases h : a.l.length ≤ b.l.length
  · simp [h]
  · simp [h]; omega
theorem srt_enL (xs : List (Tu Int)) : lift (srtD false (en xs)) = rt (en (xs.mergeSort leL)) := by
  have : srtD false (en xs) = some (en (xs.mergeSort leL)) := by
    show (if srtOk false (xs.map en) = true then some (PyData.list (srtBy false (xs.map en))) else none) = _
    rw [if_pos (srtOk_sz xs), srtBy_sz]
    rfl
  rw [this]; exact lift_rt _
theorem srt_enD {ν : Type} [Enc ν] (d : Dct (Tu Int) ν) : lift (srtD false (en d)) = rt (en (d.keys.mergeSort leL)) := by
  have e : (d.l.map fun p => ((en p.1 : D), (en p.2 : D))).map (·.1) = d.keys.map en := by
    unfold Dct.keys
    rw [List.map_map, List.map_map]; rfl
  have : srtD false (en d) = some (en (d.keys.mergeSort leL)) := by
    unfold srtD
    rw [show seqD (en d) = (if nmK (d.l.map fun p => ((en p.1 : D), (en p.2 : D))) = true then some ((d.l.map fun p => ((en p.1 : D), (en p.2 : D))).map (·.1)) else unH (d.l.map fun p => ((en p.1 : D), (en p.2 : D)))) from rfl, nmK_en, if_pos rfl, Option.bind_some]
    show (if srtOk false ((d.l.map fun p => ((en p.1 : D), (en p.2 : D))).map (·.1)) = true then some (PyData.list (srtBy false ((d.l.map fun p => ((en p.1 : D), (en p.2 : D))).map (·.1)))) else none) = _
    rw [e, if_pos (srtOk_sz _), srtBy_sz]
    rfl
  rw [this]; exact lift_rt _
theorem isTk_en (t : Tu Int) : isTk (en t) = true := by
  show (t.l.map en).all isKey1 = true
  rw [List.all_eq_true]
  intro d hd
  obtain ⟨i, _, rfl⟩ := List.mem_map.mp hd
  rfl
theorem q_dictT {ν : Type} [Enc ν] (ps : List (Tu Int × ν)) : primD .dictOf [en ps] = some (en (putsD ⟨[]⟩ ps)) := by
  show (pairsD (ps.map en)).bind _ = _
  rw [pairsD_en2, Option.bind_some, if_pos, ← dputs_en]
  · rfl
  · rw [Bool.or_eq_true]
    right
    rw [List.all_map, List.all_eq_true]
    intro p _; exact isTk_en p.1
end
set_option maxHeartbeats 2000000
/-! PMu: least times of orders of which earlier lots are nested. -/
section
open PySem L2
/-- no two pairs side by side -/
def NoSide (ps : List (Int × Int)) : Prop := ∀ a b c d, (a, b) ∈ ps → (c, d) ∈ ps → (a, d) ∈ ps ∨ (c, b) ∈ ps
/-- the earlier lots, each once, by their sizes -/
def lotsT (n : Nat) (ps : List (Int × Int)) : List (Tu Int) := (putsD ⟨[]⟩ ((rg n).map fun w => ((Tu.mk (ear n ps w) : Tu Int), true))).keys.mergeSort leL
/-- the numbers of the lots that have w -/
def lateT (n : Nat) (ps : List (Int × Int)) (w : Int) : List Int := ((enumT (lotsT n ps)).filter fun a => mb w a.2.l).map Prod.fst
/-- the times that are told of w -/
def tmP (n : Nat) (ps : List (Int × Int)) (w : Int) : Int × Int := (((lotsT n ps).idxOf (Tu.mk (ear n ps w)) : Int), if (lateT n ps w).isEmpty then ((lotsT n ps).length : Int) - 1 else pix (lateT n ps w) 0 - 1)
section
variable {n : Nat} {ps : List (Int × Int)}
theorem lotsT_mem {t : Tu Int} : t ∈ lotsT n ps ↔ ∃ w, Rn n w ∧ Tu.mk (ear n ps w) = t := by
  unfold lotsT
  rw [List.mem_mergeSort, (keys_puts _ _).1 t, List.map_map, List.mem_map]
  constructor
  · rintro (h | ⟨w, hw, e⟩)
    · cases h
    · exact ⟨w, mem_rg.mp hw, e⟩
  · rintro ⟨w, hw, e⟩
    exact .inr ⟨w, mem_rg.mpr hw, e⟩
theorem lotsT_nodup : (lotsT n ps).Nodup := by
  unfold lotsT
  exact (List.mergeSort_perm _ _).nodup_iff.mpr ((keys_puts _ _).2.1 List.nodup_nil)
theorem lotsT_sorted : (lotsT n ps).Pairwise fun a b => a.l.length ≤ b.l.length := by
  unfold lotsT
  refine (List.pairwise_mergeSort (le := leL) (fun a b c h1 h2 => ?_) (fun a b => ?_) _).imp fun {a b} h => of_decide_eq_true h
  · unfold leL at *
    rw [decide_eq_true_eq] at *
    omega
  · unfold leL
    rw [Bool.or_eq_true, decide_eq_true_eq, decide_eq_true_eq]
    omega
/-- earlier lots are nested -/
theorem ear_chain (g : GO n ps) (hs : NoSide ps) (x y : Int) : (∀ a ∈ ear n ps x, a ∈ ear n ps y) ∨ (∀ a ∈ ear n ps y, a ∈ ear n ps x) := by
  refine Classical.byContradiction fun h => ?_
  rw [not_or] at h
  obtain ⟨h1, h2⟩ := h
  simp only [Classical.not_forall] at h1 h2
  obtain ⟨a, ha, ha'⟩ := h1
  obtain ⟨c, hc, hc'⟩ := h2
  rw [mem_ear g] at ha ha' hc hc'
  rcases hs a x c y ha hc with z | z
  · exact ha' z
  · exact hc' z
theorem ear_nd (w : Int) : (ear n ps w).Nodup := (rg_nodup n).filter _
theorem ear_same {x y : Int} (h1 : ∀ a ∈ ear n ps y, a ∈ ear n ps x) (h2 : (ear n ps x).length ≤ (ear n ps y).length) : ear n ps x = ear n ps y := by
  refine srt_ext ((rg_srt n).filter _) ((rg_srt n).filter _) fun a => ⟨fun ha => ?_, h1 a⟩
  refine Classical.byContradiction fun hn => ?_
  have : (a :: ear n ps y).length ≤ (ear n ps x).length := len_of_sub _ _ (List.nodup_cons.mpr ⟨hn, ear_nd y⟩) fun z hz => by
    rcases List.mem_cons.mp hz with rfl | hz
    · exact ha
    · exact h1 z hz
  rw [List.length_cons] at this
  omega
/-- a lot further on has all of a lot ahead -/
theorem lots_mono (g : GO n ps) (hs : NoSide ps) {i j : Nat} {s t : Tu Int} (hij : i ≤ j) (hi : (lotsT n ps)[i]? = some s) (hj : (lotsT n ps)[j]? = some t) : ∀ a ∈ s.l, a ∈ t.l := by
  obtain ⟨x, hx, rfl⟩ := lotsT_mem.mp (List.mem_of_getElem? hi)
  obtain ⟨y, hy, rfl⟩ := lotsT_mem.mp (List.mem_of_getElem? hj)
  rcases Nat.lt_or_ge i j with h | h
  · rcases ear_chain g hs x y with z | z
    · exact z
    · have hl := (List.pairwise_iff_getElem.mp lotsT_sorted) i j (List.getElem?_eq_some_iff.mp hi).1 (List.getElem?_eq_some_iff.mp hj).1 h
      rw [(List.getElem?_eq_some_iff.mp hi).2, (List.getElem?_eq_some_iff.mp hj).2] at hl
      have e := ear_same z hl
      intro a ha
      have ha : a ∈ ear n ps x := ha
      rw [e] at ha
      exact ha
  · have e : i = j := by omega
    subst e
    rw [hi] at hj
    intro a ha
    rw [← (Option.some.inj hj)]; exact ha
/-- and one more at least -/
theorem lots_more (g : GO n ps) (hs : NoSide ps) {i j : Nat} {s t : Tu Int} (hij : i < j) (hi : (lotsT n ps)[i]? = some s) (hj : (lotsT n ps)[j]? = some t) : ∃ a ∈ t.l, a ∉ s.l := by
  refine Classical.byContradiction fun h => ?_
  have h1 := lots_mono g hs (Nat.le_of_lt hij) hi hj
  have h2 : ∀ a ∈ t.l, a ∈ s.l := fun a ha => Classical.byContradiction fun hn => h ⟨a, ha, hn⟩
  obtain ⟨x, hx, rfl⟩ := lotsT_mem.mp (List.mem_of_getElem? hi)
  obtain ⟨y, hy, rfl⟩ := lotsT_mem.mp (List.mem_of_getElem? hj)
  have e : ear n ps x = ear n ps y := ear_same h2 (len_of_sub _ _ (ear_nd x) h1)
  have q : i = j := (List.getElem?_inj (List.getElem?_eq_some_iff.mp hi).1 lotsT_nodup).mp (by rw [hi, hj, e])
  omega
theorem enumT_len2 {α : Type} (xs : List α) : (enumT xs).length = xs.length := by unfold enumT; simp
theorem enumT_get {α : Type} {xs : List α} {i : Nat} {a : α} (h : xs[i]? = some a) : (enumT xs)[i]? = some ((i : Int), a) := by
  have h2 := (List.getElem?_eq_some_iff.mp h).1
  unfold enumT
  rw [List.getElem?_map, List.getElem?_zipIdx, h]
  simp
theorem tm_b {w : Int} (hw : Rn n w) : ∃ i : Nat, (tmP n ps w).1 = (i : Int) ∧ (lotsT n ps)[i]? = some (Tu.mk (ear n ps w)) := by
  have h : Tu.mk (ear n ps w) ∈ lotsT n ps := lotsT_mem.mpr ⟨w, hw, rfl⟩
  refine ⟨(lotsT n ps).idxOf (Tu.mk (ear n ps w)), rfl, ?_⟩
  have := List.idxOf_lt_length_of_mem h
  rw [List.getElem?_eq_getElem this, List.getElem_idxOf]
theorem tm_e (g : PO n ps) (hs : NoSide ps) {w : Int} (hw : Rn n w) : ∃ j : Nat, (tmP n ps w).2 = (j : Int) ∧ j < (lotsT n ps).length ∧ ∀ (i : Nat) (s : Tu Int), (lotsT n ps)[i]? = some s → (w ∈ s.l ↔ j < i) := by
  obtain ⟨b, _, hb⟩ := tm_b (ps := ps) hw
  have hpos : 0 < (lotsT n ps).length := Nat.lt_of_le_of_lt (Nat.zero_le _) (List.getElem?_eq_some_iff.mp hb).1
  have hnb : w ∉ ear n ps w := fun z => g.ir w ((mem_ear g.go).mp z)
  have e2 : (tmP n ps w).2 = if (lateT n ps w).isEmpty then ((lotsT n ps).length : Int) - 1 else pix (lateT n ps w) 0 - 1 := rfl
  cases hq : (enumT (lotsT n ps)).filter fun a => mb w a.2.l with
  | nil =>
    have hl : lateT n ps w = [] := by unfold lateT; rw [hq]; rfl
    refine ⟨(lotsT n ps).length - 1, by rw [e2, hl]; show ((lotsT n ps).length : Int) - 1 = _; omega, by omega, fun i s his => ⟨fun hws => ?_, fun h => ?_⟩⟩
    · have hm : ((i : Int), s) ∈ (enumT (lotsT n ps)).filter fun a => mb w a.2.l := List.mem_filter.mpr ⟨List.mem_of_getElem? (enumT_get his), mb_iff.mpr hws⟩
      rw [hq] at hm
      cases hm
    · have := (List.getElem?_eq_some_iff.mp his).1
      omega
  | cons a r =>
    obtain ⟨l1, l2, h1, h2, h3, _⟩ := List.filter_eq_cons_iff.mp hq
    have hl : lateT n ps w = a.1 :: r.map Prod.fst := by unfold lateT; rw [hq]; rfl
    have ha : (enumT (lotsT n ps))[l1.length]? = some a := by rw [h1]; simp
    have hlt := (List.getElem?_eq_some_iff.mp ha).1
    rw [enumT_len2] at hlt
    have hg : (lotsT n ps)[l1.length]? = some (lotsT n ps)[l1.length] := List.getElem?_eq_getElem hlt
    have ea : a = ((l1.length : Int), (lotsT n ps)[l1.length]) := by
      have := enumT_get hg
      rw [ha] at this
      exact Option.some.inj this
    have hwa : w ∈ ((lotsT n ps)[l1.length]).l := by
      rw [ea] at h3
      exact mb_iff.mp h3
    have bef : ∀ (i : Nat) (s : Tu Int), i < l1.length → (lotsT n ps)[i]? = some s → w ∉ s.l := fun i s hi his hws => by
      have := enumT_get his
      rw [h1, List.getElem?_append_left hi] at this
      exact h2 _ (List.mem_of_getElem? this) (mb_iff.mpr hws)
    have h0 : 0 < l1.length := by
      rcases Nat.eq_zero_or_pos l1.length with z | z
      · exfalso
        have hg0 : (lotsT n ps)[0]? = some (lotsT n ps)[l1.length] := by rw [← z]; exact hg
        exact hnb (lots_mono g.go hs (Nat.zero_le b) hg0 hb w hwa)
      · exact z
    refine ⟨l1.length - 1, ?_, by omega, fun i s his => ⟨fun hws => ?_, fun h => ?_⟩⟩
    · rw [e2, hl]
      show (if false = true then _ else (pix (a.1 :: r.map Prod.fst) 0 - 1 : Int)) = _
      rw [if_neg (by decide)]
      have : pix (a.1 :: r.map Prod.fst) 0 = a.1 := rfl
      rw [this, ea]
      show (l1.length : Int) - 1 = _
      omega
    · rcases Nat.lt_or_ge i l1.length with z | z
      · exact absurd hws (bef i s z his)
      · omega
    · exact lots_mono g.go hs (by omega) hg his w hwa
/-- what times of an order must keep -/
structure Tms (n : Nat) (ps : List (Int × Int)) (tb te : Int → Int) : Prop where
  ge : ∀ w, Rn n w → 0 ≤ tb w
  lt : ∀ a b, Rn n a → Rn n b → (a, b) ∈ ps → te a + 1 ≤ tb b
  le : ∀ a b, Rn n a → Rn n b → (a, b) ∉ ps → tb b ≤ te a
theorem tm_ok (g : PO n ps) (hs : NoSide ps) : Tms n ps (fun w => (tmP n ps w).1) (fun w => (tmP n ps w).2) where
  ge := fun w hw => by
    obtain ⟨i, e, _⟩ := tm_b (ps := ps) hw
    show 0 ≤ (tmP n ps w).1
    rw [e]; omega
  lt := fun a b ha hb h => by
    obtain ⟨i, e, hi⟩ := tm_b (ps := ps) hb
    obtain ⟨j, e2, _, hj⟩ := tm_e g hs ha
    show (tmP n ps a).2 + 1 ≤ (tmP n ps b).1
    have := (hj i _ hi).mp ((mem_ear g.go).mpr h)
    rw [e, e2]; omega
  le := fun a b ha hb h => by
    obtain ⟨i, e, hi⟩ := tm_b (ps := ps) hb
    obtain ⟨j, e2, _, hj⟩ := tm_e g hs ha
    show (tmP n ps b).1 ≤ (tmP n ps a).2
    have : ¬ j < i := fun z => h ((mem_ear g.go).mp ((hj i _ hi).mpr z))
    rw [e, e2]; omega
/-- no times are less -/
theorem tm_least_b (g : PO n ps) (hs : NoSide ps) {xb xe : Int → Int} (x : Tms n ps xb xe) : ∀ (i : Nat) (w : Int), Rn n w → (lotsT n ps)[i]? = some (Tu.mk (ear n ps w)) → (i : Int) ≤ xb w
  | 0, w, hw, _ => x.ge w hw
  | i + 1, w, hw, h => by
    have hlt := (List.getElem?_eq_some_iff.mp h).1
    have hg : (lotsT n ps)[i]? = some (lotsT n ps)[i] := List.getElem?_eq_getElem (by omega)
    obtain ⟨u, hu, eu⟩ := lotsT_mem.mp (List.mem_of_getElem? hg)
    rw [← eu] at hg
    obtain ⟨a, ha, hna⟩ := lots_more g.go hs (Nat.lt_succ_self i) hg h
    have h1 := (mem_ear g.go).mp (show a ∈ ear n ps w from ha)
    have hra : Rn n a := ⟨(g.go.inr _ h1).1, (g.go.inr _ h1).2.1⟩
    have h2 := x.lt a w hra hw h1
    have h3 := x.le a u hra hu fun z => hna ((mem_ear g.go).mpr z)
    have h4 := tm_least_b g hs x i u hu hg
    omega
theorem tm_least (g : PO n ps) (hs : NoSide ps) {xb xe : Int → Int} (x : Tms n ps xb xe) {w : Int} (hw : Rn n w) : (tmP n ps w).1 ≤ xb w ∧ (tmP n ps w).2 ≤ xe w := by
  constructor
  · obtain ⟨i, e, hi⟩ := tm_b (ps := ps) hw
    rw [e]
    exact tm_least_b g hs x i w hw hi
  · obtain ⟨j, e, hj, hk⟩ := tm_e g hs hw
    rw [e]
    have hg : (lotsT n ps)[j]? = some (lotsT n ps)[j] := List.getElem?_eq_getElem hj
    obtain ⟨u, hu, eu⟩ := lotsT_mem.mp (List.mem_of_getElem? hg)
    rw [← eu] at hg
    have h1 := tm_least_b g hs x j u hu hg
    have h2 : (w, u) ∉ ps := fun z => by
      have := (hk j _ hg).mp ((mem_ear g.go).mpr z)
      omega
    have := x.le w u hw hu h2
    omega
end
end
set_option maxHeartbeats 4000000
/-! K14g: earlier and later lots; has times. -/
section
open PySem L2
section
variable {k n : Nat} {ps : List (Int × Int)} {Q : D → Prop} {K : Ko}
theorem e_ear (hn : n ≤ 1000) (w : Int) : CG (k + 1) 0 [.sh (en (od n ps)), .sh (en w)] = rt (en (Tu.mk (ear n ps w))) := by
  unfold CG; rw [hd0 rfl rfl]
  unfold b0
  funext Q
  sizeOf_list_dec
  rw [rgI_rg]
  exact propext ⟨fun h => h.2, fun h => ⟨rng_ok hn, h⟩⟩
theorem s_has (hl : ps.length ≤ 100) (q : Q (en (sideL ps).isEmpty)) : CG (k + 2) 2 [.sh (en (od n ps))] Q := by
  unfold CG; rw [hd2 rfl]
  unfold b2
  sizeOf_list_dec
  refine s_side hl ?_
  array_get_dec
  exact q
theorem t_0 (hn : n ≤ 1000) (hl : ps.length ≤ 100) (hs : sideL ps = []) (q : execs (CG (k + 2)) b3_1 [some (.sh (en (od n ps))), none, none, none, none, none, none, none] K) : execs (CG (k + 2)) b3 [some (.sh (en (od n ps))), none, none, none, none, none, none, none] K := by
  unfold b3
  sizeOf_list_dec
  refine s_has hl ?_
  rw [hs]
  sizeOf_list_dec
  exact q
theorem t_1 (hn : n ≤ 1000) (q : forL (rg n) (fun a ρ k_1 => execs (CG (k + 2)) b3_0 (ρ.set 4 (some (.sh (en a)))) { nx := k_1, rt := K.rt, bk := fun ρ' => lift (lookB ρ' 3) fun x => lift (primD .tuple [x]) K.rt, ct := k_1 })
      [some (.sh (en (od n ps))), some (.sh (en ((rg n).map fun a => Tu.mk (ear n ps a)))), some (.sh (en (lotsT n ps))), some (.own (en ([] : List (Int × Int)))), none, none, none, none]
      fun ρ' => lift (lookB ρ' 3) fun x => lift (primD .tuple [x]) K.rt) : execs (CG (k + 2)) b3_1 [some (.sh (en (od n ps))), none, none, none, none, none, none, none] K := by
  unfold b3_1
  have e1 := @e_ear (k + 1) n ps hn
  unfold CG at e1 q ⊢
  sizeOf_list_dec
  simp only [e1]
  sizeOf_list_dec
  simp only [e_srt, bo_srt]
  sizeOf_list_dec
  refine ⟨rng_ok hn, ?_⟩
  rw [rgI_rg, q_dictT, lift_rt, rt]
  rw [show (0 == 1) = false from rfl, srt_enD, rt]
  refine ⟨rfl, rng_ok hn, ?_⟩
  rw [List.map_map]
  exact q
theorem t_2 (hn : n ≤ 10) {w : Int} (hw : Rn n w) {found : List (Int × Int)} {x4 x5 x6 x7 : Option B} (hf : found.length ≤ 10) (hx6 : nOwn (some x6) = true) (hx7 : nOwn (some x7) = true)
    (q : ∀ x5, K.nx [some (.sh (en (od n ps))), some (.sh (en ((rg n).map fun a => Tu.mk (ear n ps a)))), some (.sh (en (lotsT n ps))), some (.own (en (found ++ [tmP n ps w]))), some (.sh (en w)), x5, x6, x7]) :
    execs (CG (k + 2)) b3_0 [some (.sh (en (od n ps))), some (.sh (en ((rg n).map fun a => Tu.mk (ear n ps a)))), some (.sh (en (lotsT n ps))), some (.own (en found)), some (.sh (en w)), x5, x6, x7] K := by
  unfold b3_0
  sizeOf_list_dec
  have e : pix ((rg n).map fun a => Tu.mk (ear n ps a)) w = Tu.mk (ear n ps w) := pix_mapR (f := fun a => Tu.mk (ear n ps a)) hw.1 hw.2
  rw [e]
  have hlen : (lateT n ps w).isEmpty = !((enumT (lotsT n ps)).any fun a => mb w a.2.l) := by
    unfold lateT
    cases h : (enumT (lotsT n ps)).any fun a => mb w a.2.l with
    | true =>
      obtain ⟨a, h1, h2⟩ := List.any_eq_true.mp h
      have : a ∈ (enumT (lotsT n ps)).filter fun a => mb w a.2.l := List.mem_filter.mpr ⟨h1, h2⟩
      cases hq : (enumT (lotsT n ps)).filter fun a => mb w a.2.l with
      | nil => rw [hq] at this; cases this
      | cons _ _ => rfl
    | false =>
      have : ((enumT (lotsT n ps)).filter fun a => mb w a.2.l) = [] := List.filter_eq_nil_iff.mpr fun a ha hm => by
        have := List.any_eq_false.mp h a ha
        exact this hm
      rw [this]; rfl
  refine ⟨by rw [hx6, hx7]; rfl, ⟨ixOk hw.1 (by rw [rg_len]; exact hw.2), lotsT_mem.mpr ⟨w, hw, rfl⟩⟩, ?_⟩
  by_cases h : ((enumT (lotsT n ps)).any fun a => mb w a.2.l) = true
  · rw [if_pos h]
    rw [h] at hlen
    refine ⟨ixOk (by decide) ?_, szt (by omega), ?_⟩
    · obtain ⟨a, h1, h2⟩ := List.any_eq_true.mp h
      have := List.length_pos_of_mem (List.mem_filter.mpr ⟨h1, h2⟩ : a ∈ (enumT (lotsT n ps)).filter fun a => mb w a.2.l)
      omega
    · have := q (some (.sh (en (lateT n ps w))))
      unfold tmP at this
      rw [hlen] at this
      exact this
  · rw [if_neg h]
    have h' : ((enumT (lotsT n ps)).any fun a => mb w a.2.l) = false := by simpa using h
    rw [h'] at hlen
    refine ⟨szt (by omega), ?_⟩
    have := q (some (.sh (en (lateT n ps w))))
    unfold tmP at this
    rw [hlen] at this
    exact this
/-- what least_times tells -/
def timesO (n : Nat) (ps : List (Int × Int)) : Option (Tu (Int × Int)) := if sideL ps = [] then some (Tu.mk ((rg n).map (tmP n ps))) else none
theorem s_times (hn : n ≤ 10) (hl : ps.length ≤ 100) (q : Q (en (timesO n ps))) : CG (k + 3) 3 [.sh (en (od n ps))] Q := by
  unfold CG; rw [hd3 rfl]
  by_cases hs : sideL ps = []
  · refine t_0 (k := k) (by omega) hl hs ?_
    refine t_1 (by omega) ?_
    refine forL_inv (fun done ρ => ∃ (x4 x5 : Option B), ρ = [some (.sh (en (od n ps))), some (.sh (en ((rg n).map fun a => Tu.mk (ear n ps a)))), some (.sh (en (lotsT n ps))), some (.own (en (done.map (tmP n ps)))), x4, x5, none, none]) (done := []) ⟨none, none, rfl⟩ ?_ ?_
    · rintro done w r ρ e ⟨x4, x5, rfl⟩ K2 hK2
      have hm : w ∈ rg n := by rw [show rg n = done ++ w :: r from e]; simp
      have hdl : done.length ≤ 10 := by
        have := congrArg List.length (show rg n = done ++ w :: r from e)
        rw [List.length_append, List.length_cons, rg_len] at this; omega
      refine t_2 (x4 := x4) hn (mem_rg.mp hm) (by rw [List.length_map]; exact hdl) rfl rfl fun x5' => ?_
      exact hK2 _ ⟨_, _, by rw [List.map_append]; rfl⟩
    · rintro ρ ⟨x4, x5, rfl⟩
      have e : timesO n ps = some (Tu.mk ((rg n).map (tmP n ps))) := if_pos hs
      rw [e] at q
      exact ⟨_, rfl, _, rfl, q⟩
  · unfold b3
    sizeOf_list_dec
    refine s_has hl ?_
    have e : (sideL ps).isEmpty = false := by
      cases h : sideL ps with
      | nil => exact absurd h hs
      | cons _ _ => rfl
    rw [e]
    sizeOf_list_dec
    have e2 : timesO n ps = none := if_neg hs
    rw [e2] at q
    exact q
end
end
set_option maxHeartbeats 4000000
/-! PMh: repr tells lists of ints apart. -/
section
open PySem L2
/-- the text behind an item -/
def Jt : List (List Nat) → List Nat
  | [] => [93]
  | t :: ts => 44 :: 32 :: (t ++ Jt ts)
theorem jt_sep (ts : List (List Nat)) : ∃ c r, Jt ts = c :: r ∧ (c = 44 ∨ c = 93) := by
  cases ts with
  | nil => exact ⟨93, [], rfl, .inr rfl⟩
  | cons t ts => exact ⟨44, _, rfl, .inl rfl⟩
def noSep (t : List Nat) : Prop := ∀ c ∈ t, c ≠ 44 ∧ c ≠ 93
theorem split_sep : ∀ {t s : List Nat} {A B : List Nat}, noSep t → noSep s → (∃ c r, A = c :: r ∧ (c = 44 ∨ c = 93)) → (∃ c r, B = c :: r ∧ (c = 44 ∨ c = 93)) → t ++ A = s ++ B → t = s ∧ A = B
  | [], [], _, _, _, _, _, _, e => ⟨rfl, e⟩
  | [], y :: s, _, _, _, hs, ⟨c, r, ea, hc⟩, _, e => by
    subst ea
    simp only [List.nil_append, List.cons_append, List.cons.injEq] at e
    have := hs y (List.mem_cons_self ..)
    omega
  | x :: t, [], _, _, ht, _, _, ⟨c, r, eb, hc⟩, e => by
    subst eb
    simp only [List.nil_append, List.cons_append, List.cons.injEq] at e
    have := ht x (List.mem_cons_self ..)
    omega
  | x :: t, y :: s, A, B, ht, hs, ha, hb, e => by
    simp only [List.cons_append, List.cons.injEq] at e
    obtain ⟨e1, e2⟩ := split_sep (fun c hc => ht c (List.mem_cons_of_mem _ hc)) (fun c hc => hs c (List.mem_cons_of_mem _ hc)) ha hb e.2
    exact ⟨by rw [e.1, e1], e2⟩
theorem jt_inj : ∀ {ts ss : List (List Nat)}, (∀ t ∈ ts, noSep t) → (∀ t ∈ ss, noSep t) → Jt ts = Jt ss → ts = ss
  | [], [], _, _, _ => rfl
  | [], s :: ss, _, _, e => by simp [Jt] at e
  | t :: ts, [], _, _, e => by simp [Jt] at e
  | t :: ts, s :: ss, h1, h2, e => by
    simp only [Jt, List.cons.injEq, true_and] at e
    obtain ⟨e1, e2⟩ := split_sep (h1 t (List.mem_cons_self ..)) (h2 s (List.mem_cons_self ..)) (jt_sep ts) (jt_sep ss) e
    rw [e1, jt_inj (fun c hc => h1 c (List.mem_cons_of_mem _ hc)) (fun c hc => h2 c (List.mem_cons_of_mem _ hc)) e2]
theorem app_cps (a b : Str) : (a ++ b).cps.toList = a.cps.toList ++ b.cps.toList := by
  show (a.cps ++ b.cps).toList = _
  exact Array.toList_append
theorem from_jt : ∀ (ts : List Str) (k : Nat) (acc : Str), 0 < k → (textFrom k acc ts ++ Str.ofString "]").cps.toList = acc.cps.toList ++ Jt (ts.map fun t => t.cps.toList)
  | [], k, acc, _ => by
    rw [textFrom.eq_1, app_cps, PyProof.Rows.signs_rbrack]; rfl
  | t :: ts, k, acc, h => by
    rw [textFrom.eq_2, from_jt ts (k + 1) _ (by omega), if_pos h, app_cps, app_cps, PyProof.Rows.signs_sep]
    simp [Jt]
theorem list_jt (t : Str) (ts : List Str) : (listText (t :: ts)).cps.toList = 91 :: (t.cps.toList ++ Jt (ts.map fun t => t.cps.toList)) := by
  unfold listText
  rw [textFrom.eq_2, from_jt ts 1 _ (by omega), app_cps, app_cps, PyProof.Rows.signs_lbrack, if_neg (by omega)]
  have : (Str.ofString "").cps.toList = [] := by rw [PyProof.Rows.signs_ofString]; rfl
  rw [this]; simp
theorem list_jt0 : (listText []).cps.toList = [91, 93] := by
  unfold listText
  rw [textFrom.eq_1, app_cps, PyProof.Rows.signs_lbrack, PyProof.Rows.signs_rbrack]; rfl
theorem dig_rng {n : Nat} {c : Char} (h : c ∈ Nat.toDigits 10 n) : 48 ≤ c.toNat ∧ c.toNat ≤ 57 := by
  have := Nat.isDigit_of_mem_toDigits (by decide) (by decide) h
  unfold Char.isDigit at this
  rw [Bool.and_eq_true, decide_eq_true_iff, decide_eq_true_iff] at this
  exact ⟨this.1, this.2⟩
theorem int_noSep (i : Int) : noSep (Str.ofString (toString i)).cps.toList := by
  intro c hc
  rw [PyProof.Rows.signs_ofString] at hc
  obtain ⟨x, hx, rfl⟩ := List.mem_map.mp hc
  have e : toString i = i.repr := rfl
  rw [e, Int.repr_eq_if] at hx
  split at hx
  · rw [Nat.repr_eq_ofList_toDigits, String.toList_ofList] at hx
    have := dig_rng hx; omega
  · rw [Nat.repr_eq_ofList_toDigits, String.toList_append, String.toList_ofList] at hx
    rcases List.mem_append.mp hx with h | h
    · have : x = '-' := by simpa using h
      subst this; decide
    · rw [String.toList_ofList] at h
      have := dig_rng h; omega
theorem map_inj {α β : Type} {f : α → β} (hf : ∀ a b, f a = f b → a = b) : ∀ {l m : List α}, l.map f = m.map f → l = m
  | [], [], _ => rfl
  | [], _ :: _, e => by simp at e
  | _ :: _, [], e => by simp at e
  | a :: l, b :: m, e => by
    simp only [List.map_cons, List.cons.injEq] at e
    rw [hf _ _ e.1, map_inj hf e.2]
theorem int_inj {i j : Int} (h : (Str.ofString (toString i)).cps.toList = (Str.ofString (toString j)).cps.toList) : i = j := by
  rw [PyProof.Rows.signs_ofString, PyProof.Rows.signs_ofString] at h
  have h2 : (toString i).toList = (toString j).toList := map_inj (fun a b e => Char.toNat_inj.mp e) h
  have h3 : toString i = toString j := String.toList_inj.mp h2
  exact Int.repr_inj.mp h3
theorem shown_list (xs : List Int) : (en xs : D).shown = listText (xs.map fun n => Str.ofString (toString n)) := by
  show (PyData.list (xs.map fun i => PyData.int i)).shown = _
  unfold PyData.shown
  congr 1
  induction xs with
  | nil => rfl
  | cons x xs ih => rw [List.map_cons, List.map_cons, PyData.shownAll, PyData.shown, ih]
theorem shown_inj {xs ys : List Int} (h : (en xs : D).shown = (en ys).shown) : xs = ys := by
  rw [shown_list, shown_list] at h
  have h := congrArg (fun s : Str => s.cps.toList) h
  cases xs with
  | nil =>
    cases ys with
    | nil => rfl
    | cons y ys =>
      simp only [List.map_nil, List.map_cons, list_jt0, list_jt, List.cons.injEq, true_and] at h
      obtain ⟨e1, e2⟩ := split_sep (t := []) (A := [93]) (fun _ h => nomatch h) (int_noSep y) ⟨93, [], rfl, .inr rfl⟩ (jt_sep _) h
      exfalso
      rw [PyProof.Rows.signs_ofString] at e1
      have e3 : (toString y).toList = [] := by
        have := congrArg List.length e1
        rw [List.length_nil, List.length_map] at this
        exact List.length_eq_zero_iff.mp this.symm
      have e4 : toString y = "" := String.toList_inj.mp (e3.trans rfl)
      have e5 : toString y = y.repr := rfl
      rw [e5, Int.repr_eq_if] at e4
      split at e4
      · exact Nat.repr_ne_empty e4
      · have := congrArg (fun s : String => s.toList.length) e4
        simp at this
  | cons x xs =>
    cases ys with
    | nil =>
      simp only [List.map_nil, List.map_cons, list_jt0, list_jt, List.cons.injEq, true_and] at h
      obtain ⟨e1, e2⟩ := split_sep (s := []) (B := [93]) (int_noSep x) (fun _ h => nomatch h) (jt_sep _) ⟨93, [], rfl, .inr rfl⟩ h
      exfalso
      rw [PyProof.Rows.signs_ofString] at e1
      have e3 : (toString x).toList = [] := by
        have := congrArg List.length e1
        rw [List.length_nil, List.length_map] at this
        exact List.length_eq_zero_iff.mp this
      have e4 : toString x = "" := String.toList_inj.mp (e3.trans rfl)
      have e5 : toString x = x.repr := rfl
      rw [e5, Int.repr_eq_if] at e4
      split at e4
      · exact Nat.repr_ne_empty e4
      · have := congrArg (fun s : String => s.toList.length) e4
        simp at this
    | cons y ys =>
      simp only [List.map_cons, list_jt, List.cons.injEq, true_and] at h
      obtain ⟨e1, e2⟩ := split_sep (int_noSep x) (int_noSep y) (jt_sep _) (jt_sep _) h
      have e3 := jt_inj (fun t ht => by
        obtain ⟨s, hs, rfl⟩ := List.mem_map.mp ht
        obtain ⟨i, _, rfl⟩ := List.mem_map.mp hs
        exact int_noSep i) (fun t ht => by
        obtain ⟨s, hs, rfl⟩ := List.mem_map.mp ht
        obtain ⟨i, _, rfl⟩ := List.mem_map.mp hs
        exact int_noSep i) e2
      rw [List.map_map, List.map_map] at e3
      have e4 : xs = ys := map_inj (f := fun n : Int => (Str.ofString (toString n)).cps.toList) (fun a b e => int_inj e) e3
      rw [int_inj e1, e4]
theorem rep_eqL {xs ys : List Int} (h1 : Shw (en xs)) (h2 : Shw (en ys)) : copD .eq (.str (en xs : D).shown) (.str (en ys : D).shown) = some (en (decide (xs = ys))) := by
  obtain ⟨k, m, p, hk, hm⟩ := h1
  obtain ⟨k2, m2, p2, hk2, hm2⟩ := h2
  show (if eqOk _ _ then _ else _) = _
  have c1 : PyData.canLay0 (.str (en xs : D).shown) = true := by simp only [PyData.canLay0]; exact p.strOk
  have c2 : PyData.canLay0 (.str (en ys : D).shown) = true := by simp only [PyData.canLay0]; exact p2.strOk
  have d1 : PyData.depth (.str (en xs : D).shown) = 0 := by simp only [PyData.depth]
  have d2 : PyData.depth (.str (en ys : D).shown) = 0 := by simp only [PyData.depth]
  have e : eqOk (.str (en xs : D).shown) (.str (en ys : D).shown) = true := by unfold eqOk; rw [c1, c2, d1, d2]; rfl
  rw [if_pos e, eqv_str]
  have : decide ((en xs : D).shown = (en ys : D).shown) = decide (xs = ys) := by
    by_cases h : xs = ys
    · subst h; simp
    · rw [decide_eq_false h, decide_eq_false fun e => h (shown_inj e)]
  rw [this]; rfl
end
set_option maxHeartbeats 2000000
/-! PMv: repr tells two lists of ints apart, shown side by side. -/
section
open PySem L2
/-- a text that ends at its first closing bracket -/
def End93 (t : List Nat) : Prop := ∃ B, t = B ++ [93] ∧ ∀ c ∈ B, c ≠ 93
theorem end93_split : ∀ {B B' A A' : List Nat}, (∀ c ∈ B, c ≠ 93) → (∀ c ∈ B', c ≠ 93) → B ++ 93 :: A = B' ++ 93 :: A' → B = B' ∧ A = A'
  | [], [], _, _, _, _, e => by
    simp only [List.nil_append, List.cons.injEq, true_and] at e
    exact ⟨rfl, e⟩
  | [], y :: s, _, _, _, hs, e => by
    simp only [List.nil_append, List.cons_append, List.cons.injEq] at e
    exact absurd e.1.symm (hs y (List.mem_cons_self ..))
  | x :: t, [], _, _, ht, _, e => by
    simp only [List.nil_append, List.cons_append, List.cons.injEq] at e
    exact absurd e.1 (ht x (List.mem_cons_self ..))
  | x :: t, y :: s, A, A', ht, hs, e => by
    simp only [List.cons_append, List.cons.injEq] at e
    obtain ⟨e1, e2⟩ := end93_split (fun c hc => ht c (List.mem_cons_of_mem _ hc)) (fun c hc => hs c (List.mem_cons_of_mem _ hc)) e.2
    exact ⟨by rw [e.1, e1], e2⟩
theorem End93.split {t t' A A' : List Nat} (h : End93 t) (h' : End93 t') (e : t ++ A = t' ++ A') : t = t' ∧ A = A' := by
  obtain ⟨B, rfl, hB⟩ := h
  obtain ⟨B', rfl, hB'⟩ := h'
  rw [List.append_assoc, List.append_assoc] at e
  obtain ⟨e1, e2⟩ := end93_split hB hB' e
  exact ⟨by rw [e1], e2⟩
theorem jt_end : ∀ {ts : List (List Nat)}, (∀ t ∈ ts, noSep t) → End93 (Jt ts)
  | [], _ => ⟨[], rfl, fun _ h => nomatch h⟩
  | t :: ts, h => by
    obtain ⟨B, e, hB⟩ := jt_end fun s hs => h s (List.mem_cons_of_mem _ hs)
    refine ⟨44 :: 32 :: (t ++ B), by rw [Jt, e]; simp, fun c hc => ?_⟩
    simp only [List.mem_cons, List.mem_append] at hc
    rcases hc with rfl | rfl | hc | hc
    · decide
    · decide
    · exact (h t (List.mem_cons_self ..) c hc).2
    · exact hB c hc
theorem ints_end (xs : List Int) : End93 ((en xs : D).shown).cps.toList := by
  rw [shown_list]
  cases xs with
  | nil => rw [List.map_nil, list_jt0]; exact ⟨[91], rfl, fun c hc => by rw [List.mem_singleton.mp hc]; decide⟩
  | cons x xs =>
    rw [List.map_cons, list_jt]
    obtain ⟨B, e, hB⟩ := jt_end (ts := (xs.map fun n => Str.ofString (toString n)).map fun t => t.cps.toList) fun t ht => by
      obtain ⟨s, hs, rfl⟩ := List.mem_map.mp ht
      obtain ⟨i, _, rfl⟩ := List.mem_map.mp hs
      exact int_noSep i
    refine ⟨91 :: ((Str.ofString (toString x)).cps.toList ++ B), by rw [e]; simp, fun c hc => ?_⟩
    simp only [List.mem_cons, List.mem_append] at hc
    rcases hc with rfl | hc | hc
    · decide
    · exact (int_noSep x c hc).2
    · exact hB c hc
theorem shown_pairL (xs ys : List Int) : (PyData.list [en xs, en ys]).shown = listText [(en xs : D).shown, (en ys : D).shown] := by
  rw [PyData.shown, PyData.shownAll, PyData.shownAll, PyData.shownAll]
theorem str_cps {a b : Str} (h : a.cps.toList = b.cps.toList) : a = b := by
  cases a; cases b
  simp only at h
  congr 1
  exact Array.toList_inj.mp h
theorem shown_inj2 {xs ys xs' ys' : List Int} (h : (PyData.list [en xs, en ys]).shown = (PyData.list [en xs', en ys']).shown) : xs = xs' ∧ ys = ys' := by
  rw [shown_pairL, shown_pairL] at h
  have h := congrArg (fun s : Str => s.cps.toList) h
  simp only [list_jt, List.map_cons, List.map_nil, Jt, List.cons.injEq, true_and] at h
  obtain ⟨e1, e2⟩ := (ints_end xs).split (ints_end xs') h
  simp only [List.cons.injEq, true_and] at e2
  obtain ⟨e3, _⟩ := (ints_end ys).split (ints_end ys') e2
  exact ⟨shown_inj (str_cps e1), shown_inj (str_cps e3)⟩
end
set_option maxHeartbeats 2000000
/-! PMw: begins and ends raised as long as they must be. -/
section
open PySem L2
theorem mul_repN {α : Type} [Enc α] (x : α) {n : Nat} (hn : n ≤ 1000) : lift (binD .mul (en [x]) (en (n : Int))) = rt (en (List.replicate n x)) := by
  rw [o_mulL]
  have e : (List.replicate ((n : Int).toNat) [x]).flatten = List.replicate n x := by
    rw [Int.toNat_natCast]
    clear hn
    induction n with
    | zero => rfl
    | succ n ih => rw [List.replicate_succ, List.replicate_succ, List.flatten_cons, ih]; rfl
  rw [e]
  funext Q
  refine propext ⟨fun h => h.2, fun h => ⟨?_, h⟩⟩
  refine ⟨by omega, by omega, ?_⟩
  exact small_le (by simp; omega)
section
variable {n : Nat} {ps : List (Int × Int)}
/-- how far a lap has come -/
structure Rs (n : Nat) (ps : List (Int × Int)) (b0 e0 : Int → Int) (X : Int → Int → Prop) (b e : Int → Int) : Prop where
  bu : ∀ w, b0 w ≤ b w
  eu : ∀ w, e0 w ≤ e w
  st : (∀ w, Rn n w → b w = b0 w ∧ e w = e0 w) → ∀ x y, X x y → ((x, y) ∈ ps → e0 x + 1 ≤ b0 y) ∧ ((x, y) ∉ ps → b0 y ≤ e0 x)
theorem Rs.start (b e : Int → Int) : Rs n ps b e (fun _ _ => False) b e := ⟨fun _ => Int.le_refl _, fun _ => Int.le_refl _, fun _ _ _ h => nomatch h⟩
theorem Rs.mono {b0 e0 b e : Int → Int} {X Y : Int → Int → Prop} (h : Rs n ps b0 e0 X b e) (hx : ∀ x y, Y x y → X x y) : Rs n ps b0 e0 Y b e := ⟨h.bu, h.eu, fun hw x y hy => h.st hw x y (hx x y hy)⟩
theorem Rs.up1 {b0 e0 b e : Int → Int} {X Y : Int → Int → Prop} {x y : Int} (h : Rs n ps b0 e0 X b e) (hx : Rn n x) (hy : Rn n y) (hm : (x, y) ∈ ps) (hY : ∀ a c, Y a c → X a c ∨ (a = x ∧ c = y)) : Rs n ps b0 e0 Y (updF b y (max (b y) (e x + 1))) e := by
  refine ⟨fun w => ?_, h.eu, fun hw a c hac => ?_⟩
  · have := h.bu w
    unfold updF
    split
    · rename_i e; subst e; omega
    · exact this
  · have hy' := (hw y hy).1
    unfold updF at hy'
    rw [if_pos rfl] at hy'
    have h0 := h.bu y
    have all : ∀ w, Rn n w → b w = b0 w ∧ e w = e0 w := fun w hr => by
      refine ⟨?_, (hw w hr).2⟩
      by_cases z : w = y
      · subst z; omega
      · have := (hw w hr).1
        unfold updF at this
        rw [if_neg z] at this; exact this
    rcases hY a c hac with z | ⟨rfl, rfl⟩
    · exact h.st all a c z
    · have := (all a hx).2
      exact ⟨fun _ => by omega, fun z => absurd hm z⟩
theorem Rs.up2 {b0 e0 b e : Int → Int} {X Y : Int → Int → Prop} {x y : Int} (h : Rs n ps b0 e0 X b e) (hx : Rn n x) (hy : Rn n y) (hm : (x, y) ∉ ps) (hY : ∀ a c, Y a c → X a c ∨ (a = x ∧ c = y)) : Rs n ps b0 e0 Y b (updF e x (max (e x) (b y))) := by
  refine ⟨h.bu, fun w => ?_, fun hw a c hac => ?_⟩
  · have := h.eu w
    unfold updF
    split
    · rename_i e; subst e; omega
    · exact this
  · have hx' := (hw x hx).2
    unfold updF at hx'
    rw [if_pos rfl] at hx'
    have h0 := h.eu x
    have all : ∀ w, Rn n w → b w = b0 w ∧ e w = e0 w := fun w hr => by
      refine ⟨(hw w hr).1, ?_⟩
      by_cases z : w = x
      · subst z; omega
      · have := (hw w hr).2
        unfold updF at this
        rw [if_neg z] at this; exact this
    rcases hY a c hac with z | ⟨rfl, rfl⟩
    · exact h.st all a c z
    · have := (all c hy).1
      exact ⟨fun z => absurd z hm, fun _ => by omega⟩
/-- never more than the least times -/
def Bnd (n : Nat) (tb te b e : Int → Int) : Prop := ∀ w, Rn n w → b w ≤ tb w ∧ e w ≤ te w ∧ 0 ≤ b w ∧ 0 ≤ e w
theorem Bnd.up1 {tb te b e : Int → Int} {x y : Int} (t : Tms n ps tb te) (h : Bnd n tb te b e) (hx : Rn n x) (hy : Rn n y) (hm : (x, y) ∈ ps) : Bnd n tb te (updF b y (max (b y) (e x + 1))) e := fun w hw => by
  obtain ⟨h1, h2, h3, h4⟩ := h w hw
  refine ⟨?_, h2, ?_, h4⟩
  · unfold updF
    split
    · rename_i z; subst z
      have := t.lt x w hx hy hm
      have := (h x hx).2.1
      omega
    · exact h1
  · unfold updF
    split
    · rename_i z; subst z
      omega
    · exact h3
theorem Bnd.up2 {tb te b e : Int → Int} {x y : Int} (t : Tms n ps tb te) (h : Bnd n tb te b e) (hx : Rn n x) (hy : Rn n y) (hm : (x, y) ∉ ps) : Bnd n tb te b (updF e x (max (e x) (b y))) := fun w hw => by
  obtain ⟨h1, h2, h3, h4⟩ := h w hw
  refine ⟨h1, ?_, h3, ?_⟩
  · unfold updF
    split
    · rename_i z; subst z
      have := t.le w y hx hy hm
      have := (h y hy).1
      omega
    · exact h2
  · unfold updF
    split
    · rename_i z; subst z
      omega
    · exact h4
theorem sum_le {α : Type} {f g : α → Int} : ∀ {l : List α}, (∀ x ∈ l, f x ≤ g x) → (l.map f).sum ≤ (l.map g).sum
  | [], _ => Int.le_refl _
  | x :: l, h => by
    have h1 := h x (List.mem_cons_self ..)
    have h2 := sum_le (l := l) fun y hy => h y (List.mem_cons_of_mem _ hy)
    rw [List.map_cons, List.map_cons, List.sum_cons, List.sum_cons]; omega
theorem sum_lt {α : Type} {f g : α → Int} : ∀ {l : List α}, (∀ x ∈ l, f x ≤ g x) → (∃ x ∈ l, f x < g x) → (l.map f).sum < (l.map g).sum
  | [], _, h => by obtain ⟨x, hx, _⟩ := h; cases hx
  | x :: l, h, ⟨y, hy, hl⟩ => by
    have h1 := h x (List.mem_cons_self ..)
    have h2 := sum_le (l := l) fun y hy => h y (List.mem_cons_of_mem _ hy)
    rw [List.map_cons, List.map_cons, List.sum_cons, List.sum_cons]
    rcases List.mem_cons.mp hy with rfl | hy
    · omega
    · have := sum_lt (l := l) (fun y hy => h y (List.mem_cons_of_mem _ hy)) ⟨y, hy, hl⟩
      omega
/-- how much there is to be raised -/
def Mz (n : Nat) (tb te b e : Int → Int) : Int := ((rg n).map fun w => (tb w - b w) + (te w - e w)).sum
theorem Mz.pos {tb te b e : Int → Int} (h : Bnd n tb te b e) : 0 ≤ Mz n tb te b e := by
  have := sum_le (l := rg n) (f := fun _ => (0 : Int)) (g := fun w => (tb w - b w) + (te w - e w)) fun w hw => by
    have := h w (mem_rg.mp hw)
    omega
  have z : ((rg n).map fun _ => (0 : Int)).sum = 0 := by
    induction rg n with
    | nil => rfl
    | cons x l ih => rw [List.map_cons, List.sum_cons, ih]; rfl
  unfold Mz
  omega
theorem Mz.lt {tb te b0 e0 b e : Int → Int} {X : Int → Int → Prop} (h : Rs n ps b0 e0 X b e) (hd : ¬ ∀ w, Rn n w → b w = b0 w ∧ e w = e0 w) : Mz n tb te b e < Mz n tb te b0 e0 := by
  refine sum_lt (fun w hw => ?_) ?_
  · have := h.bu w
    have := h.eu w
    omega
  · refine Classical.byContradiction fun hc => hd fun w hw => ?_
    have h1 := h.bu w
    have h2 := h.eu w
    have : ¬ (tb w - b w) + (te w - e w) < (tb w - b0 w) + (te w - e0 w) := fun z => hc ⟨w, mem_rg.mpr hw, z⟩
    omega
/-- no more to raise: these are the least times -/
theorem Rs.fin (g : PO n ps) (hs : NoSide ps) {b0 e0 b e : Int → Int} (h : Rs n ps b0 e0 (fun x y => Rn n x ∧ Rn n y) b e) (hd : ∀ w, Rn n w → b w = b0 w ∧ e w = e0 w) (hb : Bnd n (fun w => (tmP n ps w).1) (fun w => (tmP n ps w).2) b e) {w : Int} (hw : Rn n w) : (b w, e w) = tmP n ps w := by
  have t : Tms n ps b e := by
    refine ⟨fun w hw => (hb w hw).2.2.1, fun x y hx hy hm => ?_, fun x y hx hy hm => ?_⟩
    · have := (h.st hd x y ⟨hx, hy⟩).1 hm
      have := (hd x hx).2
      have := (hd y hy).1
      omega
    · have := (h.st hd x y ⟨hx, hy⟩).2 hm
      have := (hd x hx).2
      have := (hd y hy).1
      omega
  obtain ⟨h1, h2⟩ := tm_least g hs t hw
  obtain ⟨h3, h4, _, _⟩ := hb w hw
  exact Prod.ext (Int.le_antisymm h3 h1) (Int.le_antisymm h4 h2)
end
end
set_option maxHeartbeats 4000000
/-! K14h: the law's least times. -/
section
open PySem L2
theorem str_ne {s t : Str} (h1 : PyData.strOk s = true) (h2 : PyData.strOk t = true) : copD .ne (.str s) (.str t) = some (en (!decide (s = t))) := by
  have c1 : PyData.canLay0 (.str s) = true := by simp only [PyData.canLay0]; exact h1
  have c2 : PyData.canLay0 (.str t) = true := by simp only [PyData.canLay0]; exact h2
  have d1 : PyData.depth (.str s) = 0 := by simp only [PyData.depth]
  have d2 : PyData.depth (.str t) = 0 := by simp only [PyData.depth]
  have e : eqOk (.str s) (.str t) = true := by unfold eqOk; rw [c1, c2, d1, d2]; rfl
  rw [copD_ne, if_pos e, eqv_str]; rfl
theorem shw_strOk {d : D} (h : Shw d) : PyData.strOk d.shown = true := by
  obtain ⟨k, m, p, _, _⟩ := h
  exact p.strOk
section
variable {k n : Nat} {ps : List (Int × Int)} {Q : D → Prop} {K : Ko}
def lsl (n : Nat) (ps : List (Int × Int)) (bl el : List Int) (x5 x6 x7 x8 : Option B) : Nv := [some (.sh (en (od n ps))), some (.sh (en (n : Int))), some (.sh (en (Tu.mk ps))), some (.own (en bl)), some (.own (en el)), x5, x6, x7, x8, none]
theorem max_if (a b : Int) : (if b > a then b else a) = max a b := by split <;> omega
theorem w_1 {bl el : List Int} {a b : Int} {x5 x6 : Option B} (hbl : bl.length = n) (hel : el.length = n) (ha : Rn n a) (hb : Rn n b)
    (q1 : (a, b) ∈ ps → K.nx (lsl n ps (pset bl b (max (pix bl b) (pix el a + 1))) el x5 x6 (some (.sh (en a))) (some (.sh (en b)))))
    (q2 : (a, b) ∉ ps → K.nx (lsl n ps bl (pset el a (max (pix el a) (pix bl b))) x5 x6 (some (.sh (en a))) (some (.sh (en b))))) :
    execs (CG k) b15_2 (lsl n ps bl el x5 x6 (some (.sh (en a))) (some (.sh (en b)))) K := by
  unfold b15_2 b15_1 b15_0 lsl
  unfold lsl at q1 q2
  sizeOf_list_dec
  have i1 : IxOk bl.length b := by rw [hbl]; exact ixOk hb.1 hb.2
  have i2 : IxOk el.length a := by rw [hel]; exact ixOk ha.1 ha.2
  rw [max_if, max_if]
  split
  · rename_i h
    exact ⟨⟨i1, i2⟩, i1, q1 (mb_iff.mp h)⟩
  · rename_i h
    exact ⟨⟨i2, i1⟩, i2, q2 fun z => h (mb_iff.mpr z)⟩
abbrev tmB (n : Nat) (ps : List (Int × Int)) (w : Int) : Int := (tmP n ps w).1
abbrev tmE (n : Nat) (ps : List (Int × Int)) (w : Int) : Int := (tmP n ps w).2
theorem shw_two {bl el : List Int} (h1 : ∀ x ∈ bl, 0 ≤ x ∧ x ≤ 1000) (h2 : ∀ x ∈ el, 0 ≤ x ∧ x ≤ 1000) (l1 : bl.length ≤ 10) (l2 : el.length ≤ 10) : Shw (.list [en bl, en el]) :=
  ⟨2, 10 + 1 + (10 + 1 + 0), pl_l2 (pl_lst (a := 0) (fun x hx => pl_en (by have := h1 x hx; omega) (by have := h1 x hx; omega)) (by omega)) (pl_lst (a := 0) (fun x hx => pl_en (by have := h2 x hx; omega) (by have := h2 x hx; omega)) (by omega)), by decide, by decide⟩
theorem lotsT_len : (lotsT n ps).length ≤ n := by
  have := len_of_sub (lotsT n ps) ((rg n).map fun w => (Tu.mk (ear n ps w) : Tu Int)) lotsT_nodup fun x hx => by
    obtain ⟨w, hw, rfl⟩ := lotsT_mem.mp hx
    exact List.mem_map.mpr ⟨w, mem_rg.mpr hw, rfl⟩
  rw [List.length_map, rg_len] at this
  exact this
theorem tm_bound (g : PO n ps) (hs : NoSide ps) {w : Int} (hw : Rn n w) : 0 ≤ (tmP n ps w).1 ∧ (tmP n ps w).1 < n ∧ 0 ≤ (tmP n ps w).2 ∧ (tmP n ps w).2 < n := by
  obtain ⟨i, e, hi⟩ := tm_b (ps := ps) hw
  obtain ⟨j, e2, hj, _⟩ := tm_e g hs hw
  have := lotsT_len (n := n) (ps := ps)
  have := (List.getElem?_eq_some_iff.mp hi).1
  rw [e, e2]
  omega
theorem bnd_list (g : PO n ps) (hs : NoSide ps) (hn : n ≤ 10) {bl el : List Int} {b e : Int → Int} (h1 : Tls n bl b) (h2 : Tls n el e) (hb : Bnd n (tmB n ps) (tmE n ps) b e) : (∀ x ∈ bl, 0 ≤ x ∧ x ≤ 1000) ∧ (∀ x ∈ el, 0 ≤ x ∧ x ≤ 1000) := by
  constructor
  · intro x hx
    obtain ⟨i, hi, rfl⟩ := List.mem_iff_getElem.mp hx
    have hr : Rn n (i : Int) := ⟨by omega, by rw [← h1.len]; omega⟩
    have := h1.eq _ hr
    rw [pix_of (List.getElem?_eq_getElem hi)] at this
    rw [this]
    have h3 := hb _ hr
    have h4 := tm_bound g hs hr
    unfold tmB at h3
    omega
  · intro x hx
    obtain ⟨i, hi, rfl⟩ := List.mem_iff_getElem.mp hx
    have hr : Rn n (i : Int) := ⟨by omega, by rw [← h2.len]; omega⟩
    have := h2.eq _ hr
    rw [pix_of (List.getElem?_eq_getElem hi)] at this
    rw [this]
    have h3 := hb _ hr
    have h4 := tm_bound g hs hr
    unfold tmE at h3
    omega
theorem e_kept {bl el : List Int} {x0 x1 x2 x5 x6 x7 x8 x9 : Option B} (h : Shw (.list [en bl, en el])) : ev (CG k) (E.repl [3, 4]) [x0, x1, x2, some (.own (en bl)), some (.own (en el)), x5, x6, x7, x8, x9] = rt (.str (PyData.list [en bl, en el]).shown) := by
  rw [e_repl, show lookBs [x0, x1, x2, some (B.own (en bl)), some (.own (en el)), x5, x6, x7, x8, x9] [3, 4] = some [en bl, en el] from rfl, lift_rt, bd_rt, rep_ok h]
  funext Q
  exact propext ⟨fun h => h.2, fun h => ⟨szl (by simp), h⟩⟩
theorem w_lap (g : PO n ps) (hs : NoSide ps) (hn : n ≤ 10) {bl el : List Int} {b0 e0 : Int → Int} {x5 x6 x7 x8 : Option B} (hbl : Tls n bl b0) (hel : Tls n el e0) (hb : Bnd n (tmB n ps) (tmE n ps) b0 e0)
    (q : ∀ (bm em : List Int) (b e : Int → Int) (x6 x7 x8 : Option B), Tls n bm b → Tls n em e → Bnd n (tmB n ps) (tmE n ps) b e → Rs n ps b0 e0 (fun x y => Rn n x ∧ Rn n y) b e → K.nx (lsl n ps bm em (some (.sh (en (!decide (bm = bl ∧ em = el))))) x6 x7 x8)) :
    execs (CG k) b15_4 (lsl n ps bl el x5 x6 x7 x8) K := by
  have t := tm_ok g hs
  have ll := bnd_list g hs hn hbl hel hb
  have sh := shw_two ll.1 ll.2 (by rw [hbl.len]; omega) (by rw [hel.len]; omega)
  unfold b15_4 lsl
  sizeOf_list_dec
  rw [e_kept sh]
  refine ⟨rng_ok (by omega), ?_⟩
  rw [rgI_rg]
  refine forL_inv (fun done ρ => ∃ (bm em : List Int) (b e : Int → Int) (x7 x8 : Option B), ρ = lsl n ps bm em x5 (some (.sh (.str (PyData.list [en bl, en el]).shown))) x7 x8 ∧ Tls n bm b ∧ Tls n em e ∧ Bnd n (tmB n ps) (tmE n ps) b e ∧ Rs n ps b0 e0 (fun x y => x ∈ done ∧ Rn n y) b e) (done := []) ⟨bl, el, b0, e0, x7, x8, rfl, hbl, hel, hb, (Rs.start b0 e0).mono fun x y h => nomatch h.1⟩ ?_ ?_
  · rintro done a r ρ ea ⟨bm, em, b, e, x7, x8, rfl, h1, h2, h3, h4⟩ K2 hK2
    have ha : Rn n a := mem_rg.mp (by rw [show rg n = done ++ a :: r from ea]; simp)
    unfold lsl
    sizeOf_list_dec
    refine ⟨rng_ok (by omega), ?_⟩
    rw [rgI_rg]
    refine forL_inv (fun dq ρ => ∃ (bm em : List Int) (b e : Int → Int) (x8 : Option B), ρ = lsl n ps bm em x5 (some (.sh (.str (PyData.list [en bl, en el]).shown))) (some (.sh (en a))) x8 ∧ Tls n bm b ∧ Tls n em e ∧ Bnd n (tmB n ps) (tmE n ps) b e ∧ Rs n ps b0 e0 (fun x y => (x ∈ done ∧ Rn n y) ∨ (x = a ∧ y ∈ dq)) b e) (done := []) ⟨bm, em, b, e, x8, rfl, h1, h2, h3, h4.mono fun x y h => h.elim id fun h => nomatch h.2⟩ ?_ ?_
    · rintro dq y r2 ρ ey ⟨bm, em, b, e, x8, rfl, h1, h2, h3, h4⟩ K3 hK3
      have hy : Rn n y := mem_rg.mp (by rw [show rg n = dq ++ y :: r2 from ey]; simp)
      have hY : ∀ x c, ((x ∈ done ∧ Rn n c) ∨ (x = a ∧ c ∈ dq ++ [y])) → ((x ∈ done ∧ Rn n c) ∨ (x = a ∧ c ∈ dq)) ∨ (x = a ∧ c = y) := fun x c h => by
        rcases h with h | ⟨h, z⟩
        · exact .inl (.inl h)
        · rcases List.mem_append.mp z with z | z
          · exact .inl (.inr ⟨h, z⟩)
          · exact .inr ⟨h, List.mem_singleton.mp z⟩
      unfold lsl
      sizeOf_list_dec
      refine w_1 h1.len h2.len ha hy (fun hm => hK3 _ ⟨_, _, _, _, _, rfl, h1.set hy _, h2, ?_, ?_⟩) (fun hm => hK3 _ ⟨_, _, _, _, _, rfl, h1, h2.set ha _, ?_, ?_⟩)
      · rw [h1.eq y hy, h2.eq a ha]; exact h3.up1 t ha hy hm
      · rw [h1.eq y hy, h2.eq a ha]; exact h4.up1 ha hy hm hY
      · rw [h1.eq y hy, h2.eq a ha]; exact h3.up2 t ha hy hm
      · rw [h1.eq y hy, h2.eq a ha]; exact h4.up2 ha hy hm hY
    · rintro ρ ⟨bm, em, b, e, x8, rfl, h1, h2, h3, h4⟩
      refine hK2 _ ⟨_, _, _, _, _, _, rfl, h1, h2, h3, h4.mono fun x y h => ?_⟩
      rcases List.mem_append.mp h.1 with z | z
      · exact .inl ⟨z, h.2⟩
      · exact .inr ⟨List.mem_singleton.mp z, mem_rg.mpr h.2⟩
  · rintro ρ ⟨bm, em, b, e, x7, x8, rfl, h1, h2, h3, h4⟩
    have lm := bnd_list g hs hn h1 h2 h3
    have sm := shw_two lm.1 lm.2 (by rw [h1.len]; omega) (by rw [h2.len]; omega)
    unfold lsl b15_3
    sizeOf_list_dec
    rw [bo_repl, e_kept sm, rt_ap, str_ne (shw_strOk sm) (shw_strOk sh), lift_rt]
    have e9 : decide ((PyData.list [en bm, en em]).shown = (PyData.list [en bl, en el]).shown) = decide (bm = bl ∧ em = el) := by
      by_cases z : bm = bl ∧ em = el
      · rw [z.1, z.2]; simp
      · rw [decide_eq_false z, decide_eq_false fun y => z (shown_inj2 y)]
    rw [e9]
    exact q _ _ _ _ _ _ _ h1 h2 h3 (h4.mono fun x y h => ⟨mem_rg.mpr h.1, h.2⟩)
theorem w_while (g : PO n ps) (hs : NoSide ps) (hn : n ≤ 10) {rtn : D → Prop} {bk : Nv → Prop} {fin : Nv → Prop} (hf : ∀ (bm em : List Int) (x5 x6 x7 x8 : Option B), Tls n bm (tmB n ps) → Tls n em (tmE n ps) → fin (lsl n ps bm em x5 x6 x7 x8)) :
    ∀ (m : Nat) (bl el : List Int) (b e : Int → Int) (x6 x7 x8 : Option B), Mz n (tmB n ps) (tmE n ps) b e < m → Tls n bl b → Tls n el e → Bnd n (tmB n ps) (tmE n ps) b e → whileW (m + 1) (tst (CG k) (.e (.var 5))) (fun ρ k1 => execs (CG k) b15_4 ρ { nx := k1, rt := rtn, bk := bk, ct := k1 }) (lsl n ps bl el (some (.sh (en true))) x6 x7 x8) fin := by
  have e0 : ∀ (b : Bool) (bl el : List Int) (x6 x7 x8 : Option B), tst (CG k) (.e (.var 5)) (lsl n ps bl el (some (.sh (en b))) x6 x7 x8) = rt b := fun b bl el x6 x7 x8 => by
    unfold lsl; sizeOf_list_dec
  intro m
  induction m with
  | zero => 
    intro bl el b e x6 x7 x8 hm h1 h2 h3
    have := Mz.pos h3
    omega
  | succ m ih =>
    intro bl el b e x6 x7 x8 hm h1 h2 h3
    unfold whileW
    rw [e0]
    simp only [rt_ap, if_true]
    refine w_lap g hs hn h1 h2 h3 fun bm em b' e' x6' x7' x8' h1' h2' h3' h4' => ?_
    by_cases z : bm = bl ∧ em = el
    · have hd : ∀ w, Rn n w → b' w = b w ∧ e' w = e w := fun w hw => by
        rw [← h1'.eq w hw, ← h2'.eq w hw, z.1, z.2, h1.eq w hw, h2.eq w hw]; exact ⟨rfl, rfl⟩
      have hfin := fun {w} (hw : Rn n w) => h4'.fin g hs hd h3' hw
      rw [decide_eq_true z]
      unfold whileW
      rw [e0]
      simp only [rt_ap, Bool.not_true, Bool.false_eq_true, if_false]
      exact hf _ _ _ _ _ _ ⟨h1'.len, fun x hx => by rw [h1'.eq x hx]; exact congrArg Prod.fst (hfin hx)⟩ ⟨h2'.len, fun x hx => by rw [h2'.eq x hx]; exact congrArg Prod.snd (hfin hx)⟩
    · rw [decide_eq_false z]
      have hd : ¬ ∀ w, Rn n w → b' w = b w ∧ e' w = e w := fun hd => z ⟨h1'.uniq ⟨h1.len, fun x hx => by rw [h1.eq x hx, (hd x hx).1]⟩, h2'.uniq ⟨h2.len, fun x hx => by rw [h2.eq x hx, (hd x hx).2]⟩⟩
      have := Mz.lt (tb := tmB n ps) (te := tmE n ps) h4' hd
      exact ih _ _ _ _ _ _ _ (by omega) h1' h2' h3'
theorem s_least (g : PO n ps) (hs : NoSide ps) (hn : n ≤ 10) (q : Q (en (Tu.mk ((rg n).map (tmP n ps))))) : CG (k + 1) 15 [.sh (en (od n ps))] Q := by
  unfold CG; rw [hd15 rfl]
  unfold b15
  sizeOf_list_dec
  rw [mul_repN (0 : Int) (by omega), rt_ap, rt_ap]
  refine ⟨rfl, rfl, (Mz n (tmB n ps) (tmE n ps) (fun _ => 0) (fun _ => 0)).toNat + 1 + 1, ?_⟩
  have hb : Bnd n (tmB n ps) (tmE n ps) (fun _ => 0) (fun _ => 0) := fun w hw => by
    have := tm_bound g hs hw
    exact ⟨this.1, this.2.2.1, Int.le_refl _, Int.le_refl _⟩
  have W := w_while (k := k) g hs hn (rtn := Q) (bk := fun ρ' => execs (callF (progOf rows) k) b15_5 ρ' { nx := fun x => Q PyData.none, rt := Q }) (fin := fun ρ' => execs (callF (progOf rows) k) b15_5 ρ' { nx := fun x => Q PyData.none, rt := Q }) (fun bm em x5 x6 x7 x8 h1 h2 => by
    unfold b15_5 lsl
    sizeOf_list_dec
    rw [rgI_rg]
    refine ⟨⟨rng_ok (by omega), fun a ha => ⟨by rw [h1.len]; exact ixOk (mem_rg.mp ha).1 (mem_rg.mp ha).2, by rw [h2.len]; exact ixOk (mem_rg.mp ha).1 (mem_rg.mp ha).2⟩⟩, ?_⟩
    have e : ((rg n).map fun a => (pix bm a, pix em a)) = (rg n).map (tmP n ps) := List.map_congr_left fun a ha => by
      rw [h1.eq a (mem_rg.mp ha), h2.eq a (mem_rg.mp ha)]
    rw [e]
    exact q) ((Mz n (tmB n ps) (tmE n ps) (fun _ => 0) (fun _ => 0)).toNat + 1) _ _ _ _ none none none (by omega) (Tls.rep n 0) (Tls.rep n 0) hb
  unfold lsl at W
  exact W
end
end
set_option maxHeartbeats 4000000
/-! K14f: drawn orders (variant A), put together. -/
section
open PySem L2
def osl (most : Int) (x2 x3 : Option B) (n : Nat) (road : Int) (names : List Int) (share : Int) (x8 x9 x10 x11 x12 x13 x14 x15 : Option B) : Nv := [some .src, some (.sh (en most)), x2, x3, some (.sh (en (n : Int))), some (.sh (en road)), some (.sh (en names)), some (.sh (en share)), x8, x9, x10, x11, x12, x13, x14, x15]
theorem cut_ahead {names : List Int} {k : Nat} (hk : k < names.length) {y : Int} (h : y ∈ cutL names (some ((k : Int) + 1)) none) : Ahead names (pix names k, y) := by
  unfold cutL at h
  have e : HT.sIx names.length 0 (some ((k : Int) + 1)) = min (k + 1) names.length := by
    have := HT.sIx_nat names.length 0 (k + 1)
    rw [Int.natCast_add] at this
    exact this
  rw [e] at h
  have h2 := List.mem_of_mem_take h
  obtain ⟨j, hj, ej⟩ := List.mem_iff_getElem.mp h2
  rw [List.getElem_drop] at ej
  rw [List.length_drop] at hj
  refine ⟨k, min (k + 1) names.length + j, by omega, ?_, ?_⟩
  · rw [pix_of (List.getElem?_eq_getElem hk)]; exact List.getElem?_eq_getElem hk
  · show names[_]? = some y
    rw [List.getElem?_eq_getElem (by omega), ej]
section
variable {k n : Nat} {Q : D → Prop} {most road share : Int} {names : List Int} {x2 x3 x8 x9 x10 x12 x13 x14 x15 : Option B} {K : Ko}
theorem o_2 (hn : n ≤ 10) (hm : n ≤ most) (hn1 : 1 ≤ n) (hp : names.Perm (rg n)) (q : ∀ (n : Nat) (ps : List (Int × Int)), 1 ≤ n → (n : Int) ≤ most → PO n ps → Q (en (od n ps))) : execs (CG (k + 2)) b13_2 (osl most none none n road names share none none none none none none none none) (koF Q) := by
  have nl : names.length = n := by rw [hp.length_eq, rg_len]
  have nd : names.Nodup := hp.nodup_iff.mpr (rg_nodup n)
  unfold b13_2 osl
  sizeOf_list_dec
  refine ⟨rng_ok (by omega), ?_⟩
  rw [rgI_rg]
  refine forL_inv (fun done ρ => ∃ (ps : List (Int × Int)) (x9 x15 : Option B), ρ = osl most none none n road names share (some (.sh (en ps))) x9 none none none none none x15 ∧ nOwn (some x15) = true ∧ (∀ p ∈ ps, Ahead names p) ∧ ps.length ≤ 10 * done.length) (done := []) ⟨[], none, none, rfl, rfl, by simp, by simp⟩ ?_ ?_
  · rintro done a r ρ e ⟨ps, x9, x15, rfl, hx, hA, hl⟩ K hK
    have ha : a ∈ rg n := by rw [show rg n = done ++ a :: r from e]; simp
    have har := mem_rg.mp ha
    obtain ⟨j, rfl⟩ := Int.eq_ofNat_of_zero_le har.1
    have hdl : done.length < n := by
      have := congrArg List.length (show rg n = done ++ (j : Int) :: r from e)
      rw [rg_len, List.length_append, List.length_cons] at this; omega
    unfold b13_0 osl
    sizeOf_list_dec
    refine ⟨hx, ?_⟩
    refine lcM_some (β := Int × Int) (P := fun p => Ahead names p) (fun y hy K2 h1 h2 => ?_) fun bs hb hbl => ?_
    · refine s_pick (by decide) fun c _ _ => ?_
      sizeOf_list_dec
      refine ⟨fun _ => ixOk (by omega) (by omega), ?_⟩
      split
      · exact h2 (pix names (j : Int), y) (cut_ahead (by omega) hy)
      · exact h1
    · have hc := cutL_len names (some ((j : Int) + 1)) none
      sizeOf_list_dec
      refine ⟨szl (by omega), hK _ ⟨_, _, _, rfl, hx, fun p hp' => ?_, ?_⟩⟩
      · exact (List.mem_append.mp hp').elim (hA p) (hb p)
      · rw [List.length_append, List.length_append, List.length_cons, List.length_nil]; omega
  · rintro ρ ⟨ps, x9, x15, rfl, hx, hA, hl⟩
    unfold b13_1 osl
    sizeOf_list_dec
    refine s_closedL (k := k + 1) (T := Ahead names) hn (fun a k b h1 h2 => h1.trans nd h2) (fun p h => h.inr hp) hA (fun a h => h.ne nd rfl) fun qs g => ?_
    sizeOf_list_dec
    exact q n qs hn1 hm g
theorem o_7 (hn : n ≤ 10) (hm : n ≤ most) (hn1 : 1 ≤ n) (hs : 1 ≤ share) (hs2 : share ≤ 1000) (q : ∀ (n : Nat) (ps : List (Int × Int)), 1 ≤ n → (n : Int) ≤ most → PO n ps → Q (en (od n ps))) : execs (CG (k + 2)) b13_7 (osl most none none n road names share none none none none none none none none) (koF Q) := by
  unfold b13_7 osl
  sizeOf_list_dec
  refine ⟨.inl (by decide), ?_⟩
  refine s_pick (by omega) fun wd w1 w2 => ?_
  sizeOf_list_dec
  have hwd : wd < 100 := by omega
  rw [mtE (α := Int × Int)]
  refine ⟨rfl, rng_ok (by omega), ?_⟩
  rw [rgI_rg]
  refine forL_inv (fun done ρ => ∃ (ts : List (Int × Int)) (x2 x12 : Option B), ρ = osl most x2 none n road names share none none (some (.sh (en (2 + wd)))) (some (.own (en ts))) x12 none none none ∧ ts.length = done.length ∧ ∀ t ∈ ts, t.1 ≤ t.2) (done := []) ⟨[], none, none, rfl, rfl, by simp⟩ ?_ ?_
  · rintro done a r ρ e ⟨ts, x2, x12, rfl, hl, ht⟩ K hK
    have hdl : done.length < n := by
      have := congrArg List.length (show rg n = done ++ a :: r from e)
      rw [rg_len, List.length_append, List.length_cons] at this; omega
    unfold b13_3 osl
    sizeOf_list_dec
    refine s_pick (by omega) fun b bXX1 bXX2 => ?_
    sizeOf_list_dec
    have fin : ∀ e : Int, b ≤ e → ts.length < sizeLine ∧ K [some .src, some (.sh (en most)), some (.sh (en a)), none, some (.sh (en (n : Int))), some (.sh (en road)), some (.sh (en names)), some (.sh (en share)), none, none, some (.sh (en (2 + wd))), some (.own (en (ts ++ [(b, e)]))), some (.sh (en b)), none, none, none] := fun e he => by
      refine ⟨szt (by omega), hK _ ⟨ts ++ [(b, e)], some (.sh (en a)), some (.sh (en b)), rfl, by simp [hl], fun t h => ?_⟩⟩
      rcases List.mem_append.mp h with h | h
      · exact ht t h
      · rw [List.mem_singleton.mp h]; exact he
    split
    · exact fin _ (by omega)
    · refine s_pick (by omega) fun c c1 _ => ?_
      sizeOf_list_dec
      exact fin _ (by omega)
  · rintro ρ ⟨ts, x2, x12, rfl, hl, ht⟩
    rw [List.nil_append, rg_len] at hl
    unfold b13_6 osl
    sizeOf_list_dec
    refine s_lbt (k := k + 1) (by omega) ?_
    have g := btL_po ht
    rw [hl] at g ⊢
    have fin := q n _ hn1 hm g
    split
    · rename_i hc
      rw [Bool.and_eq_true, decide_eq_true_iff, decide_eq_true_iff] at hc
      unfold b13_5
      sizeOf_list_dec
      refine ⟨rng_ok (by omega), ?_⟩
      rw [rgI_rg]
      refine s_mixed (xs := rg n) (by rw [rg_len]; omega) fun ab pab => ?_
      have abl : ab.length = n := by rw [pab.length_eq, rg_len]
      obtain ⟨a, b, r, rfl⟩ : ∃ a b r, ab = a :: b :: r := by
        match ab, abl with
        | [], h => simp at h; omega
        | [_], h => simp at h; omega
        | a :: b :: r, _ => exact ⟨a, b, r, rfl⟩
      have ha := mem_rg.mp (pab.mem_iff.mp (List.mem_cons_self ..))
      have hb := mem_rg.mp (pab.mem_iff.mp (List.mem_cons_of_mem _ (List.mem_cons_self ..)))
      have nab : a ≠ b := by
        have := pab.nodup_iff.mpr (rg_nodup n)
        rw [List.nodup_cons] at this
        exact fun e => this.1 (e ▸ List.mem_cons_self ..)
      sizeOf_list_dec
      rw [cut2]
      unfold b13_4
      rw [show (en [a, b] : D) = .list [en a, en b] from rfl, asg_l, ← asg_t, show PyData.tuple [en a, en b] = en (a, b) from rfl]
      sizeOf_list_dec
      split
      · rename_i hba
        rw [Bool.not_eq_true', mb_not] at hba
        have gl := g.go.len10 hn
        refine ⟨szl (by omega), ?_⟩
        refine s_closedT (k := k + 1) (T := Plus (btL ts) a b) hn (fun x k y h1 h2 => plus_tr g nab hba x k y h1 h2) (plus_in g ha hb) (fun p hp => ?_) (plus_ir g nab hba) fun qs g2 => ?_
        · rcases List.mem_append.mp hp with h | h
          · exact .inl h
          · rw [List.mem_singleton.mp h]; exact .inr ⟨.inl rfl, .inl rfl⟩
        · sizeOf_list_dec
          exact q n qs hn1 hm g2
      · exact fin
    · exact fin
theorem s_order (hm : 1 ≤ most) (hm2 : most ≤ 10) (q : ∀ (n : Nat) (ps : List (Int × Int)), 1 ≤ n → (n : Int) ≤ most → PO n ps → Q (en (od n ps))) : CG (k + 3) 13 [.src, .sh (en most)] Q := by
  unfold CG; rw [hd13 rfl rfl]
  unfold b13
  sizeOf_list_dec
  refine s_pick (by omega) fun j1 j1a j1b => ?_
  obtain ⟨n, hn⟩ : ∃ n : Nat, 1 + j1 = n := ⟨(1 + j1).toNat, by omega⟩
  have hn1 : 1 ≤ n := by omega
  have hnm : (n : Int) ≤ most := by omega
  sizeOf_list_dec
  rw [hn]
  refine s_pick (by decide) fun road r1 r2 => ?_
  refine ⟨rng_ok (by omega), ?_⟩
  rw [rgI_rg]
  refine s_mixed (by rw [rg_len]; omega) fun names hp => ?_
  refine s_pick (by decide) fun sh s1 s2 => ?_
  sizeOf_list_dec
  have m5 : max (1 : Int) 5 = 5 := by decide
  split
  · have := o_2 (k := k) (n := n) (Q := Q) (most := most) (road := road) (share := 1 + sh) (names := names) (by omega) hnm hn1 hp q
    unfold osl at this
    exact this
  · have := o_7 (k := k) (n := n) (Q := Q) (most := most) (road := road) (share := 1 + sh) (names := names) (by omega) hnm hn1 (by omega) (by omega) q
    unfold osl at this
    exact this
end
end
set_option maxHeartbeats 2000000
/-! PMx: least times: their numbers, their lots, times moved. -/
section
open PySem L2
theorem ltP_ext : ∀ {xs ys : List (Int × Int)}, xs.Pairwise ltP → ys.Pairwise ltP → (∀ p, p ∈ xs ↔ p ∈ ys) → xs = ys
  | [], [], _, _, _ => rfl
  | [], y :: _, _, _, h => nomatch (h y).mpr (List.mem_cons_self ..)
  | x :: _, [], _, _, h => nomatch (h x).mp (List.mem_cons_self ..)
  | x :: xs, y :: ys, hx, hy, h => by
    have ir : ∀ p : Int × Int, ¬ ltP p p := fun p z => by unfold ltP at z; omega
    have tr : ∀ {p q : Int × Int}, ltP p q → ltP q p → False := fun {p q} z z2 => by unfold ltP at z z2; omega
    have hx := List.pairwise_cons.mp hx
    have hy := List.pairwise_cons.mp hy
    have e : x = y := by
      rcases List.mem_cons.mp ((h x).mp (List.mem_cons_self ..)) with h1 | h1
      · exact h1
      · rcases List.mem_cons.mp ((h y).mpr (List.mem_cons_self ..)) with h2 | h2
        · exact h2.symm
        · exact (tr (hy.1 x h1) (hx.1 y h2)).elim
    subst e
    rw [ltP_ext hx.2 hy.2 fun p => ?_]
    constructor
    · intro hp
      rcases List.mem_cons.mp ((h p).mp (List.mem_cons_of_mem _ hp)) with e | e
      · subst e; exact (ir p (hx.1 p hp)).elim
      · exact e
    · intro hp
      rcases List.mem_cons.mp ((h p).mpr (List.mem_cons_of_mem _ hp)) with e | e
      · subst e; exact (ir p (hy.1 p hp)).elim
      · exact e
theorem max_fold : ∀ (xs : List Int) (x c : Int), (∀ y ∈ x :: xs, y ≤ c) → c ∈ x :: xs → xs.foldl max x = c
  | [], x, c, _, hc => (List.mem_singleton.mp hc).symm
  | y :: xs, x, c, h, hc => by
    have h1 := h x (List.mem_cons_self ..)
    have h2 := h y (List.mem_cons_of_mem _ (List.mem_cons_self ..))
    refine max_fold xs (max x y) c (fun z hz => ?_) ?_
    · rcases List.mem_cons.mp hz with rfl | hz
      · omega
      · exact h z (List.mem_cons_of_mem _ (List.mem_cons_of_mem _ hz))
    · rcases List.mem_cons.mp hc with rfl | hc
      · rw [show max c y = c by omega]; exact List.mem_cons_self ..
      · rcases List.mem_cons.mp hc with rfl | hc
        · rw [show max x c = c by omega]; exact List.mem_cons_self ..
        · exact List.mem_cons_of_mem _ hc
theorem q_maxL2 {xs : List Int} {c : Int} (h : ∀ y ∈ xs, y ≤ c) (hc : c ∈ xs) : primD .max [en xs] = some (en c) := by
  cases xs with
  | nil => cases hc
  | cons x xs => rw [q_maxL, max_fold xs x c h hc]
/-- an order by times that keep it -/
theorem bt_eq {n : Nat} {ps : List (Int × Int)} (g : GO n ps) {ts : List (Int × Int)} (hl : ts.length = n) (h : ∀ a b, Rn n a → Rn n b → ((a, b) ∈ ps ↔ (pix ts a).2 < (pix ts b).1)) : btL ts = ps := by
  refine ltP_ext (btL_go ts).srt g.srt fun p => ?_
  obtain ⟨a, b⟩ := p
  rw [mem_btL, hl, mem_rg, mem_rg]
  constructor
  · rintro ⟨⟨ha, hb⟩, hlt⟩
    exact (h a b ha hb).mpr hlt
  · intro hp
    have i := g.inr _ hp
    exact ⟨⟨⟨i.1, i.2.1⟩, ⟨i.2.2.1, i.2.2.2⟩⟩, (h a b ⟨i.1, i.2.1⟩ ⟨i.2.2.1, i.2.2.2⟩).mp hp⟩
section
variable {n : Nat} {ps : List (Int × Int)}
theorem Tms.iff {tb te : Int → Int} (t : Tms n ps tb te) {a b : Int} (ha : Rn n a) (hb : Rn n b) : (a, b) ∈ ps ↔ te a < tb b := by
  constructor
  · intro h
    have := t.lt a b ha hb h
    omega
  · intro h
    refine Classical.byContradiction fun z => ?_
    have := t.le a b ha hb z
    omega
/-- each number is a begin -/
theorem tm_begin {i : Nat} (h : i < (lotsT n ps).length) : ∃ w, Rn n w ∧ (tmP n ps w).1 = i := by
  obtain ⟨w, hw, e⟩ := lotsT_mem.mp (List.getElem_mem h)
  refine ⟨w, hw, ?_⟩
  obtain ⟨j, e1, e2⟩ := tm_b (ps := ps) hw
  have q : j = i := (List.getElem?_inj (List.getElem?_eq_some_iff.mp e2).1 lotsT_nodup).mp (by rw [e2, List.getElem?_eq_getElem h, e])
  rw [e1, q]
/-- each number is an end -/
theorem tm_end (g : PO n ps) (hs : NoSide ps) {i : Nat} (h : i < (lotsT n ps).length) : ∃ w, Rn n w ∧ (tmP n ps w).2 = i := by
  have hg : (lotsT n ps)[i]? = some (lotsT n ps)[i] := List.getElem?_eq_getElem h
  by_cases h2 : i + 1 < (lotsT n ps).length
  · have hg2 : (lotsT n ps)[i + 1]? = some (lotsT n ps)[i + 1] := List.getElem?_eq_getElem h2
    obtain ⟨a, h3, h4⟩ := lots_more g.go hs (Nat.lt_succ_self i) hg hg2
    obtain ⟨u, hu, eu⟩ := lotsT_mem.mp (List.getElem_mem h2)
    have h5 := h3
    rw [← eu] at h5
    have hr := g.go.inr _ ((mem_ear g.go).mp h5)
    have ha : Rn n a := ⟨hr.1, hr.2.1⟩
    obtain ⟨j, e, _, hj⟩ := tm_e g hs ha
    have z1 := (hj _ _ hg2).mp h3
    have z2 : ¬ j < i := fun z => h4 ((hj _ _ hg).mpr z)
    exact ⟨a, ha, by rw [e]; omega⟩
  · obtain ⟨u, hu, eu⟩ := lotsT_mem.mp (List.getElem_mem h)
    obtain ⟨j, e, hl, hj⟩ := tm_e g hs hu
    have z2 : ¬ j < i := fun z => by
      have := (hj _ _ hg).mpr z
      rw [← eu] at this
      exact g.ir u ((mem_ear g.go).mp this)
    exact ⟨u, hu, by rw [e]; omega⟩
theorem tm_le (g : PO n ps) (hs : NoSide ps) {w : Int} (hw : Rn n w) : 0 ≤ (tmP n ps w).1 ∧ (tmP n ps w).1 ≤ (tmP n ps w).2 ∧ (tmP n ps w).2 < ((lotsT n ps).length : Nat) := by
  obtain ⟨j, e, hj, _⟩ := tm_e g hs hw
  have t := tm_ok g hs
  have h1 := t.ge w hw
  have h2 := t.le w w hw hw (g.ir w)
  have h1 : 0 ≤ (tmP n ps w).1 := h1
  have h2 : (tmP n ps w).1 ≤ (tmP n ps w).2 := h2
  omega
theorem lotsT_pos (hn : 1 ≤ n) : 1 ≤ (lotsT n ps).length := by
  have : Tu.mk (ear n ps 0) ∈ lotsT n ps := lotsT_mem.mpr ⟨0, ⟨by omega, by omega⟩, rfl⟩
  have := List.length_pos_of_mem this
  omega
theorem keys_len {κ ν : Type} [DecidableEq κ] (d : Dct κ ν) : d.keys.length = d.l.length := by unfold Dct.keys; rw [List.length_map]
theorem nd_len {α : Type} [DecidableEq α] {xs ys : List α} (h1 : xs.Nodup) (h2 : ys.Nodup) (h : ∀ x, x ∈ xs ↔ x ∈ ys) : xs.length = ys.length :=
  Nat.le_antisymm (len_of_sub _ _ h1 fun x hx => (h x).mp hx) (len_of_sub _ _ h2 fun x hx => (h x).mpr hx)
/-- as many earlier lots as numbers -/
theorem ear_many {ν : Type} (c : ν) : (putsD (⟨[]⟩ : Dct (Tu Int) ν) ((rg n).map fun w => (Tu.mk (ear n ps w), c))).l.length = (lotsT n ps).length := by
  obtain ⟨k1, k2, _⟩ := keys_puts ((rg n).map fun w => ((Tu.mk (ear n ps w) : Tu Int), c)) ⟨[]⟩
  rw [← keys_len]
  refine nd_len (k2 List.nodup_nil) lotsT_nodup fun t => ?_
  rw [k1 t, lotsT_mem, List.map_map, List.mem_map]
  constructor
  · rintro (h | ⟨w, hw, e⟩)
    · cases h
    · exact ⟨w, mem_rg.mp hw, e⟩
  · rintro ⟨w, hw, e⟩
    exact .inr ⟨w, mem_rg.mpr hw, e⟩
/-- as many later lots -/
theorem lat_many {ν : Type} (c : ν) (g : PO n ps) (hs : NoSide ps) : (putsD (⟨[]⟩ : Dct (Tu Int) ν) ((rg n).map fun w => (Tu.mk (lat n ps w), c))).l.length = (lotsT n ps).length := by
  obtain ⟨k1, k2, _⟩ := keys_puts ((rg n).map fun w => ((Tu.mk (lat n ps w) : Tu Int), c)) ⟨[]⟩
  rw [← keys_len]
  have t := tm_ok g hs
  have el : ∀ w, Rn n w → lat n ps w = (rg n).filter fun b => decide ((tmP n ps w).2 < (tmP n ps b).1) := fun w hw =>
    srt_ext ((rg_srt n).filter _) ((rg_srt n).filter _) fun b => by
      rw [mem_lat g.go, List.mem_filter, decide_eq_true_iff, mem_rg]
      constructor
      · intro h
        have i := g.go.inr _ h
        have hb : Rn n b := ⟨i.2.2.1, i.2.2.2⟩
        exact ⟨hb, (t.iff hw hb).mp h⟩
      · rintro ⟨hb, h⟩
        exact (t.iff hw hb).mpr h
  have e2 : (lotsT n ps).length = ((rg (lotsT n ps).length).map fun j => (Tu.mk ((rg n).filter fun b => decide (j < (tmP n ps b).1)) : Tu Int)).length := by rw [List.length_map, rg_len]
  rw [e2]
  refine nd_len (k2 List.nodup_nil) (map_nodup (rg_nodup _) fun i hi j hj e => ?_) fun t => ?_
  · have hi := mem_rg.mp hi
    have hj := mem_rg.mp hj
    have e : (rg n).filter (fun b => decide (i < (tmP n ps b).1)) = (rg n).filter fun b => decide (j < (tmP n ps b).1) := congrArg Tu.l e
    have key : ∀ i j : Int, 0 ≤ i ∧ i < ((lotsT n ps).length : Nat) → 0 ≤ j ∧ j < ((lotsT n ps).length : Nat) → (rg n).filter (fun b => decide (i < (tmP n ps b).1)) = (rg n).filter (fun b => decide (j < (tmP n ps b).1)) → ¬ i < j := fun i j hi hj e h => by
      obtain ⟨w, hw, ew⟩ := tm_begin (n := n) (ps := ps) (i := j.toNat) (by omega)
      have : w ∈ (rg n).filter fun b => decide (i < (tmP n ps b).1) := List.mem_filter.mpr ⟨mem_rg.mpr hw, decide_eq_true (by rw [ew]; omega)⟩
      rw [e] at this
      have := of_decide_eq_true (List.mem_filter.mp this).2
      rw [ew] at this
      omega
    have h1 := key i j hi hj e
    have h2 := key j i hj hi e.symm
    omega
  · rw [k1 t, List.map_map, List.mem_map, List.mem_map]
    constructor
    · rintro (h | ⟨w, hw, e⟩)
      · cases h
      · have hw := mem_rg.mp hw
        have := tm_le g hs hw
        exact ⟨(tmP n ps w).2, mem_rg.mpr ⟨by omega, this.2.2⟩, by rw [← e]; exact congrArg Tu.mk (el w hw).symm⟩
    · rintro ⟨j, hj, e⟩
      have hj := mem_rg.mp hj
      obtain ⟨w, hw, ew⟩ := tm_end g hs (i := j.toNat) (by omega)
      refine .inr ⟨w, mem_rg.mpr hw, ?_⟩
      rw [← e]
      show Tu.mk (lat n ps w) = _
      rw [el w hw, ew, Int.toNat_of_nonneg hj.1]
end
theorem a2_at {α β : Type} {R : α → β → Prop} {xs : List α} {ys : List β} (h : All2 R xs ys) : ∀ (i : Nat) (x : α) (y : β), xs[i]? = some x → ys[i]? = some y → R x y := by
  induction h with
  | nil => intro i x y h; cases h
  | cons h1 _ ih =>
    intro i x y hx hy
    cases i with
    | zero => 
      rw [List.getElem?_cons_zero] at hx hy
      rw [← Option.some.inj hx, ← Option.some.inj hy]; exact h1
    | succ i =>
      rw [List.getElem?_cons_succ] at hx hy
      exact ih i x y hx hy
theorem a2_snoc {α β : Type} {R : α → β → Prop} {xs : List α} {ys : List β} (h : All2 R xs ys) {x : α} {y : β} (h2 : R x y) : All2 R (xs ++ [x]) (ys ++ [y]) := by
  induction h with
  | nil => exact .cons h2 .nil
  | cons h1 _ ih => exact .cons h1 ih
theorem a2_lens {α β : Type} {R : α → β → Prop} {xs : List α} {ys : List β} (h : All2 R xs ys) : xs.length = ys.length := by
  induction h with
  | nil => rfl
  | cons _ _ ih => rw [List.length_cons, List.length_cons, ih]
theorem a2_pix {α β : Type} [Inhabited β] {R : α → β → Prop} {n : Nat} {f : Int → α} {ys : List β} (h : All2 R ((rg n).map f) ys) {w : Int} (hw : Rn n w) : R (f w) (pix ys w) := by
  obtain ⟨i, rfl⟩ := Int.eq_ofNat_of_zero_le hw.1
  have hl := a2_lens h
  rw [List.length_map, rg_len] at hl
  have hi : i < n := by have := hw.2; omega
  have h1 : ((rg n).map f)[i]? = some (f (i : Int)) := by
    rw [List.getElem?_map, List.getElem?_eq_getElem (by rw [rg_len]; exact hi), rg_at]; rfl
  have h2 : ys[i]? = some (ys[i]'(by omega)) := List.getElem?_eq_getElem (by omega)
  rw [pix_of h2]
  exact a2_at h i _ _ h1 h2
/-- places of numbers, drawn -/
structure Plc (pl : List Int) (at' : Int) : Prop where
  lo : (pl.length : Int) ≤ at'
  ge : ∀ (i : Nat) (y : Int), pl[i]? = some y → (i : Int) ≤ y
  st : ∀ (i : Nat) (y z : Int), pl[i]? = some y → pl[i + 1]? = some z → y + 1 ≤ z ∧ z ≤ y + 3
  nx : ∀ (i : Nat) (y : Int), i + 1 = pl.length → pl[i]? = some y → y + 1 ≤ at' ∧ at' ≤ y + 3
theorem Plc.start {c : Int} (h : 0 ≤ c) : Plc [] c := ⟨h, fun i y h => (by cases h), fun i y z h => (by cases h), fun i y _ h => (by cases h)⟩
theorem Plc.snoc {pl : List Int} {a b : Int} (h : Plc pl a) (hb : a + 1 ≤ b ∧ b ≤ a + 3) : Plc (pl ++ [a]) b := by
  have hl := h.lo
  have app : ∀ (i : Nat) (y : Int), (pl ++ [a])[i]? = some y → pl[i]? = some y ∨ (i = pl.length ∧ y = a) := fun i y e => by
    rcases Nat.lt_trichotomy i pl.length with z | z | z
    · rw [List.getElem?_append_left z] at e; exact .inl e
    · subst z
      rw [List.getElem?_append_right (Nat.le_refl _), Nat.sub_self] at e
      exact .inr ⟨rfl, (Option.some.inj e).symm⟩
    · rw [List.getElem?_eq_none (by rw [List.length_append, List.length_cons, List.length_nil]; omega)] at e; cases e
  refine ⟨by rw [List.length_append, List.length_cons, List.length_nil]; omega, fun i y e => ?_, fun i y z e1 e2 => ?_, fun i y hi e => ?_⟩
  · rcases app i y e with z | ⟨rfl, rfl⟩
    · exact h.ge i y z
    · exact hl
  · rcases app _ _ e2 with z2 | ⟨q1, rfl⟩
    · have hlt := (List.getElem?_eq_some_iff.mp z2).1
      rcases app _ _ e1 with z1 | ⟨q2, _⟩
      · exact h.st i y z z1 z2
      · omega
    · rcases app _ _ e1 with z1 | ⟨q2, _⟩
      · exact h.nx i y q1 z1
      · omega
  · rw [List.length_append, List.length_cons, List.length_nil] at hi
    rcases app i y e with z | ⟨_, rfl⟩
    · have := (List.getElem?_eq_some_iff.mp z).1; omega
    · exact hb
theorem Plc.mono {pl : List Int} {a : Int} (h : Plc pl a) : ∀ (d i : Nat) (y z : Int), pl[i]? = some y → pl[i + d]? = some z → y + d ≤ z
  | 0, i, y, z, h1, h2 => by
    rw [Nat.add_zero, h1] at h2
    have := Option.some.inj h2
    omega
  | d + 1, i, y, z, h1, h2 => by
    have hlt := (List.getElem?_eq_some_iff.mp h2).1
    have hg : pl[i + 1]? = some (pl[i + 1]'(by omega)) := List.getElem?_eq_getElem (by omega)
    have := h.st i y _ h1 hg
    have := Plc.mono h d (i + 1) _ z hg (by rw [show i + 1 + d = i + (d + 1) by omega]; exact h2)
    omega
/-- a time in its gap -/
def Gap (pl : List Int) (t f : Int × Int) : Prop := f.1 = pix pl t.1 ∧ pix pl t.2 ≤ f.2 ∧ f.2 < pix pl (t.2 + 1)
/-- times spread: places go up, ends stay in their gaps -/
structure Spr (n : Nat) (ps : List (Int × Int)) (ts : List (Int × Int)) : Prop where
  len : ts.length = n
  lt : ∀ a b, Rn n a → Rn n b → ((a, b) ∈ ps ↔ (pix ts a).2 < (pix ts b).1)
  ge : ∀ w, Rn n w → (tmP n ps w).1 ≤ (pix ts w).1 ∧ (tmP n ps w).2 ≤ (pix ts w).2
theorem spr_of {n : Nat} {ps : List (Int × Int)} (g : PO n ps) (hs : NoSide ps) {pl : List Int} {at' : Int} (h : Plc pl at') (hl : pl.length = (lotsT n ps).length + 1) {ts : List (Int × Int)} (ha : All2 (Gap pl) ((rg n).map (tmP n ps)) ts) : Spr n ps ts := by
  have t := tm_ok g hs
  have pl1 : ∀ x : Int, 0 ≤ x → x < pl.length → pl[x.toNat]? = some (pix pl x) := fun x h0 h1 => by
    obtain ⟨i, rfl⟩ := Int.eq_ofNat_of_zero_le h0
    have hi : i < pl.length := by omega
    rw [pix_of (List.getElem?_eq_getElem hi)]
    exact List.getElem?_eq_getElem hi
  have mo : ∀ x y : Int, 0 ≤ x → x ≤ y → y < pl.length → pix pl x + (y - x) ≤ pix pl y := fun x y h0 h1 h2 => by
    have := h.mono (y - x).toNat x.toNat _ _ (pl1 x h0 (by omega)) (by rw [show x.toNat + (y - x).toNat = y.toNat by omega]; exact pl1 y (by omega) h2)
    omega
  have ge : ∀ x : Int, 0 ≤ x → x < pl.length → x ≤ pix pl x := fun x h0 h1 => by
    have := h.ge _ _ (pl1 x h0 h1)
    omega
  refine ⟨?_, fun a b hra hrb => ?_, fun w hw => ?_⟩
  · have := a2_lens ha
    rw [List.length_map, rg_len] at this; exact this.symm
  · obtain ⟨a1, a2, a3⟩ := a2_pix ha hra
    obtain ⟨b1, b2, b3⟩ := a2_pix ha hrb
    obtain ⟨ta1, ta2, ta3⟩ := tm_le g hs hra
    obtain ⟨tb1, tb2, tb3⟩ := tm_le g hs hrb
    have i := t.iff hra hrb
    have i : (a, b) ∈ ps ↔ (tmP n ps a).2 < (tmP n ps b).1 := i
    rw [i, b1]
    constructor
    · intro z
      have := mo ((tmP n ps a).2 + 1) (tmP n ps b).1 (by omega) (by omega) (by omega)
      omega
    · intro z
      refine Classical.byContradiction fun z2 => ?_
      have := mo (tmP n ps b).1 (tmP n ps a).2 (by omega) (by omega) (by omega)
      omega
  · obtain ⟨a1, a2, a3⟩ := a2_pix ha hw
    obtain ⟨ta1, ta2, ta3⟩ := tm_le g hs hw
    have := ge (tmP n ps w).1 ta1 (by omega)
    have := ge (tmP n ps w).2 (by omega) (by omega)
    omega
theorem Spr.bt {n : Nat} {ps ts : List (Int × Int)} (g : PO n ps) (h : Spr n ps ts) : btL ts = ps := bt_eq g.go h.len h.lt
end
set_option maxHeartbeats 2000000
/-! PNa: least times of an order of which the works are called otherwise; unordered lots and the lots at a time. -/
section
open PySem L2
section
variable {n : Nat} {ps : List (Int × Int)}
/-- times of an order: no pairs stand side by side -/
theorem Tms.ns (g : PO n ps) {tb te : Int → Int} (t : Tms n ps tb te) : NoSide ps := fun a b c d p1 p2 => by
  have i1 := g.go.inr _ p1
  have i2 := g.go.inr _ p2
  have q1 := (t.iff ⟨i1.1, i1.2.1⟩ ⟨i1.2.2.1, i1.2.2.2⟩).mp p1
  have q2 := (t.iff ⟨i2.1, i2.2.1⟩ ⟨i2.2.2.1, i2.2.2.2⟩).mp p2
  have w1 := t.iff (a := a) (b := d) ⟨i1.1, i1.2.1⟩ ⟨i2.2.2.1, i2.2.2.2⟩
  have w2 := t.iff (a := c) (b := b) ⟨i2.1, i2.2.1⟩ ⟨i1.2.2.1, i1.2.2.2⟩
  have q1 : te a < tb b := q1
  have q2 : te c < tb d := q2
  by_cases z : te a < tb d
  · exact .inl (w1.mpr z)
  · exact .inr (w2.mpr (by omega))
theorem bt_tms {ts : List (Int × Int)} (h : ∀ t ∈ ts, 0 ≤ t.1 ∧ t.1 ≤ t.2) : Tms ts.length (btL ts) (fun w => (pix ts w).1) (fun w => (pix ts w).2) where
  ge := fun w hw => (h _ (pix_memA (mem_rg.mpr hw))).1
  lt := fun a b ha hb hm => by
    have := (mem_btL.mp hm).2
    show (pix ts a).2 + 1 ≤ (pix ts b).1
    omega
  le := fun a b ha hb hm => by
    show (pix ts b).1 ≤ (pix ts a).2
    refine Classical.byContradiction fun z => hm (mem_btL.mpr ⟨⟨mem_rg.mpr ha, mem_rg.mpr hb⟩, by omega⟩)
/-! ### works called otherwise -/
def calL (names : List Int) (ps : List (Int × Int)) : List (Int × Int) := (ps.map fun p => (pix names p.1, pix names p.2)).mergeSort leP
section
variable {names : List Int}
theorem nm_len (hp : names.Perm (rg n)) : names.length = n := by rw [hp.length_eq, rg_len]
theorem nm_at (hp : names.Perm (rg n)) {w : Int} (hw : Rn n w) : Rn n (pix names w) := by
  have := pix_memA (xs := names) (mem_rg.mpr (show 0 ≤ w ∧ w < (names.length : Nat) by rw [nm_len hp]; exact hw))
  exact mem_rg.mp (hp.mem_iff.mp this)
theorem nm_inj (hp : names.Perm (rg n)) {v w : Int} (hv : Rn n v) (hw : Rn n w) (e : pix names v = pix names w) : v = w := by
  have nd : names.Nodup := hp.nodup_iff.mpr (rg_nodup n)
  obtain ⟨i, rfl⟩ := Int.eq_ofNat_of_zero_le hv.1
  obtain ⟨j, rfl⟩ := Int.eq_ofNat_of_zero_le hw.1
  have l := nm_len hp
  have hi : i < names.length := by have := hv.2; omega
  have hj : j < names.length := by have := hw.2; omega
  rw [pix_of (List.getElem?_eq_getElem hi), pix_of (List.getElem?_eq_getElem hj)] at e
  have e2 : names[i]? = names[j]? := by rw [List.getElem?_eq_getElem hi, List.getElem?_eq_getElem hj, e]
  have : i = j := (List.getElem?_inj hi nd).mp e2
  omega
theorem nm_ex (hp : names.Perm (rg n)) {x : Int} (hx : Rn n x) : ∃ w, Rn n w ∧ pix names w = x := by
  have := hp.mem_iff.mpr (mem_rg.mpr hx)
  obtain ⟨i, hi, e⟩ := List.mem_iff_getElem.mp this
  have l := nm_len hp
  exact ⟨i, ⟨by omega, by omega⟩, by rw [pix_of (List.getElem?_eq_getElem hi), e]⟩
theorem mem_calL (g : GO n ps) (hp : names.Perm (rg n)) {a b : Int} (ha : Rn n a) (hb : Rn n b) : (pix names a, pix names b) ∈ calL names ps ↔ (a, b) ∈ ps := by
  unfold calL
  rw [(List.mergeSort_perm _ _).mem_iff, List.mem_map]
  constructor
  · rintro ⟨p, h, e⟩
    have i := g.inr _ h
    have e1 := nm_inj hp ⟨i.1, i.2.1⟩ ha (congrArg Prod.fst e)
    have e2 := nm_inj hp ⟨i.2.2.1, i.2.2.2⟩ hb (congrArg Prod.snd e)
    obtain ⟨p1, p2⟩ := p
    simp only at e1 e2
    rw [← e1, ← e2]; exact h
  · intro h; exact ⟨_, h, rfl⟩
theorem calL_go (g : GO n ps) (hp : names.Perm (rg n)) : GO n (calL names ps) := by
  refine sorted_go (map_nodup g.nodup fun p hp1 q hq e => ?_) fun q hq => ?_
  · have i := g.inr _ hp1
    have j := g.inr _ hq
    have e1 := nm_inj hp ⟨i.1, i.2.1⟩ ⟨j.1, j.2.1⟩ (congrArg Prod.fst e)
    have e2 := nm_inj hp ⟨i.2.2.1, i.2.2.2⟩ ⟨j.2.2.1, j.2.2.2⟩ (congrArg Prod.snd e)
    exact Prod.ext e1 e2
  · obtain ⟨p, h, rfl⟩ := List.mem_map.mp hq
    have i := g.inr _ h
    have h1 := nm_at hp ⟨i.1, i.2.1⟩
    have h2 := nm_at hp ⟨i.2.2.1, i.2.2.2⟩
    exact ⟨h1.1, h1.2, h2.1, h2.2⟩
theorem calL_po (g : PO n ps) (hp : names.Perm (rg n)) : PO n (calL names ps) := by
  have gc := calL_go g.go hp
  refine ⟨gc, fun a b c h1 h2 => ?_, fun a h => ?_⟩
  · have i := gc.inr _ h1
    have j := gc.inr _ h2
    obtain ⟨a, ha, rfl⟩ := nm_ex hp ⟨i.1, i.2.1⟩
    obtain ⟨b, hb, rfl⟩ := nm_ex hp ⟨i.2.2.1, i.2.2.2⟩
    obtain ⟨c, hc, rfl⟩ := nm_ex hp ⟨j.2.2.1, j.2.2.2⟩
    exact (mem_calL g.go hp ha hc).mpr (g.tr _ _ _ ((mem_calL g.go hp ha hb).mp h1) ((mem_calL g.go hp hb hc).mp h2))
  · have i := gc.inr _ h
    obtain ⟨a, ha, rfl⟩ := nm_ex hp ⟨i.1, i.2.1⟩
    exact g.ir a ((mem_calL g.go hp ha ha).mp h)
theorem cal_tms (g : PO n ps) (hp : names.Perm (rg n)) {tb te : Int → Int} (t : Tms n (calL names ps) tb te) : Tms n ps (fun w => tb (pix names w)) (fun w => te (pix names w)) where
  ge := fun w hw => t.ge _ (nm_at hp hw)
  lt := fun a b ha hb h => t.lt _ _ (nm_at hp ha) (nm_at hp hb) ((mem_calL g.go hp ha hb).mpr h)
  le := fun a b ha hb h => t.le _ _ (nm_at hp ha) (nm_at hp hb) fun z => h ((mem_calL g.go hp ha hb).mp z)
theorem tms_cal (g : PO n ps) (hp : names.Perm (rg n)) {tb te : Int → Int} (t : Tms n ps tb te) : Tms n (calL names ps) (fun x => tb (names.idxOf x : Int)) (fun x => te (names.idxOf x : Int)) := by
  have nd : names.Nodup := hp.nodup_iff.mpr (rg_nodup n)
  have l := nm_len hp
  have key : ∀ w, Rn n w → ((names.idxOf (pix names w) : Nat) : Int) = w := fun w hw => by
    obtain ⟨i, rfl⟩ := Int.eq_ofNat_of_zero_le hw.1
    have hi : i < names.length := by have := hw.2; omega
    rw [pix_of (List.getElem?_eq_getElem hi), nd.idxOf_getElem]
  refine ⟨fun x hx => ?_, fun x y hx hy h => ?_, fun x y hx hy h => ?_⟩
  · obtain ⟨w, hw, rfl⟩ := nm_ex hp hx
    simp only [key w hw]
    exact t.ge w hw
  · obtain ⟨a, ha, rfl⟩ := nm_ex hp hx
    obtain ⟨b, hb, rfl⟩ := nm_ex hp hy
    simp only [key a ha, key b hb]
    exact t.lt a b ha hb ((mem_calL g.go hp ha hb).mp h)
  · obtain ⟨a, ha, rfl⟩ := nm_ex hp hx
    obtain ⟨b, hb, rfl⟩ := nm_ex hp hy
    simp only [key a ha, key b hb]
    exact t.le a b ha hb fun z => h ((mem_calL g.go hp ha hb).mpr z)
/-- least times whatever works are called -/
theorem cal_least (g : PO n ps) (hs : NoSide ps) (hp : names.Perm (rg n)) {w : Int} (hw : Rn n w) : tmP n (calL names ps) (pix names w) = tmP n ps w := by
  have gc := calL_po g hp
  have t1 := tms_cal g hp (tm_ok g hs)
  have hs2 := t1.ns gc
  have t2 := cal_tms g hp (tm_ok gc hs2)
  have nd : names.Nodup := hp.nodup_iff.mpr (rg_nodup n)
  have l := nm_len hp
  have key : ((names.idxOf (pix names w) : Nat) : Int) = w := by
    obtain ⟨i, rfl⟩ := Int.eq_ofNat_of_zero_le hw.1
    have hi : i < names.length := by have := hw.2; omega
    rw [pix_of (List.getElem?_eq_getElem hi), nd.idxOf_getElem]
  have a1 := tm_least gc hs2 t1 (nm_at hp hw)
  have a2 := tm_least g hs t2 hw
  simp only [key] at a1
  exact Prod.ext (Int.le_antisymm a1.1 a2.1) (Int.le_antisymm a1.2 a2.2)
theorem cal_ns (g : PO n ps) (hs : NoSide ps) (hp : names.Perm (rg n)) : NoSide (calL names ps) := (tms_cal g hp (tm_ok g hs)).ns (calL_po g hp)
end
/-! ### unordered lots -/
def uno (ps : List (Int × Int)) (a b : Int) : Bool := mb (a, b) ps || mb (b, a) ps
def nearL (ps : List (Int × Int)) (w : Int) (m : Nat) : List Int := (rg m).filter fun x => uno ps x w
/-- the unordered lots among the first m works -/
def lotsU (ps : List (Int × Int)) : Nat → List (Tu Int)
  | 0 => [⟨[]⟩]
  | m + 1 => lotsU ps m ++ ((lotsU ps m).filter fun lot => !lot.l.any fun x => mb x (nearL ps m m)).map fun lot => ⟨lot.l ++ [(m : Int)]⟩
/-- no two of them are ordered -/
def Unl (ps : List (Int × Int)) (l : List Int) : Prop := ∀ a ∈ l, ∀ b ∈ l, a ≠ b → (a, b) ∉ ps
theorem lotsU_len (m : Nat) : (lotsU ps m).length ≤ 2 ^ m := by
  induction m with
  | zero => exact Nat.le_refl _
  | succ m ih =>
    unfold lotsU
    rw [List.length_append, List.length_map, Nat.pow_succ]
    have := List.length_filter_le (fun lot : Tu Int => !lot.l.any fun x => mb x (nearL ps m m)) (lotsU ps m)
    omega
theorem lotsU_ok : ∀ (m : Nat) {t : Tu Int}, t ∈ lotsU ps m → t.l.Pairwise (· < ·) ∧ (∀ x ∈ t.l, 0 ≤ x ∧ x < m) ∧ Unl ps t.l
  | 0, t, h => by
    rw [List.mem_singleton.mp h]
    exact ⟨.nil, fun _ h => (nomatch h), fun _ h => (nomatch h)⟩
  | m + 1, t, h => by
    unfold lotsU at h
    rcases List.mem_append.mp h with h | h
    · obtain ⟨h1, h2, h3⟩ := lotsU_ok m h
      exact ⟨h1, fun x hx => by have := h2 x hx; omega, h3⟩
    · obtain ⟨u, hu, rfl⟩ := List.mem_map.mp h
      obtain ⟨hu, he⟩ := List.mem_filter.mp hu
      obtain ⟨h1, h2, h3⟩ := lotsU_ok m hu
      rw [Bool.not_eq_true', List.any_eq_false] at he
      have hn : ∀ x ∈ u.l, (x, (m : Int)) ∉ ps ∧ ((m : Int), x) ∉ ps := fun x hx => by
        have := he x hx
        rw [mb_iff] at this
        unfold nearL at this
        rw [List.mem_filter] at this
        have hr : x ∈ rg m := mem_rg.mpr (h2 x hx)
        have hu : uno ps x m = false := by
          cases z : uno ps x m with
          | false => rfl
          | true => exact absurd ⟨hr, z⟩ this
        unfold uno at hu
        rw [Bool.or_eq_false_iff, mb_not, mb_not] at hu
        exact hu
      refine ⟨?_, fun x hx => ?_, fun a ha b hb hab => ?_⟩
      · rw [List.pairwise_append]
        exact ⟨h1, by simp, fun a ha b hb => by rw [List.mem_singleton.mp hb]; exact (h2 a ha).2⟩
      · rcases List.mem_append.mp hx with z | z
        · have := h2 x z; omega
        · rw [List.mem_singleton.mp z]; omega
      · rcases List.mem_append.mp ha with z | z
        · rcases List.mem_append.mp hb with y | y
          · exact h3 a z b y hab
          · rw [List.mem_singleton.mp y]; exact (hn a z).1
        · rcases List.mem_append.mp hb with y | y
          · rw [List.mem_singleton.mp z]; exact (hn b y).2
          · rw [List.mem_singleton.mp z, List.mem_singleton.mp y] at hab; exact absurd rfl hab
theorem lotsU_all : ∀ (m : Nat) {l : List Int}, l.Pairwise (· < ·) → (∀ x ∈ l, 0 ≤ x ∧ x < m) → Unl ps l → Tu.mk l ∈ lotsU ps m
  | 0, l, _, h2, _ => by
    cases l with
    | nil => exact List.mem_singleton.mpr rfl
    | cons x l => have := h2 x (List.mem_cons_self ..); omega
  | m + 1, l, h1, h2, h3 => by
    unfold lotsU
    rw [List.mem_append]
    by_cases hm : (m : Int) ∈ l
    · right
      obtain ⟨A, B, rfl⟩ := List.append_of_mem hm
      have hB : B = [] := by
        cases B with
        | nil => rfl
        | cons y B =>
          rw [List.pairwise_append] at h1
          have := (List.pairwise_cons.mp h1.2.1).1 y (List.mem_cons_self ..)
          have := h2 y (by simp)
          omega
      subst hB
      rw [List.pairwise_append] at h1
      have hA : ∀ x ∈ A, 0 ≤ x ∧ x < m := fun x hx => ⟨(h2 x (List.mem_append_left _ hx)).1, h1.2.2 x hx m (List.mem_singleton.mpr rfl)⟩
      refine List.mem_map.mpr ⟨⟨A⟩, List.mem_filter.mpr ⟨lotsU_all m h1.1 hA fun a ha b hb => h3 a (List.mem_append_left _ ha) b (List.mem_append_left _ hb), ?_⟩, rfl⟩
      rw [Bool.not_eq_true', List.any_eq_false]
      intro x hx z
      rw [mb_iff] at z
      have z := (List.mem_filter.mp z).2
      have ne : x ≠ (m : Int) := by have := hA x hx; omega
      have y1 := h3 x (List.mem_append_left _ hx) m (by simp) ne
      have y2 := h3 m (by simp) x (List.mem_append_left _ hx) ne.symm
      unfold uno at z
      rw [Bool.or_eq_true, mb_iff, mb_iff] at z
      rcases z with z | z
      · exact y1 z
      · exact y2 z
    · left
      refine lotsU_all m h1 (fun x hx => ?_) h3
      have := h2 x hx
      have : x ≠ m := fun e => hm (e ▸ hx)
      omega
/-- the lot at a number of times -/
def latT (n : Nat) (ps : List (Int × Int)) (i : Int) : List Int := (rg n).filter fun w => decide ((tmP n ps w).1 ≤ i) && decide (i ≤ (tmP n ps w).2)
theorem latT_unl (g : PO n ps) (hs : NoSide ps) (i : Int) : Unl ps (latT n ps i) := fun a ha b hb hab h => by
  obtain ⟨ha, pa⟩ := List.mem_filter.mp ha
  obtain ⟨hb, pb⟩ := List.mem_filter.mp hb
  rw [Bool.and_eq_true, decide_eq_true_iff, decide_eq_true_iff] at pa pb
  have : (tmP n ps a).2 + 1 ≤ (tmP n ps b).1 := (tm_ok g hs).lt a b (mem_rg.mp ha) (mem_rg.mp hb) h
  omega
theorem latT_in (g : PO n ps) (hs : NoSide ps) (i : Int) : Tu.mk (latT n ps i) ∈ lotsU ps n :=
  lotsU_all n ((rg_srt n).filter _) (fun x hx => mem_rg.mp (List.mem_filter.mp hx).1) (latT_unl g hs i)
/-- an unordered lot stands in the lot at a number -/
theorem unl_lat (g : PO n ps) (hs : NoSide ps) (hn1 : 1 ≤ n) {l : List Int} (h2 : ∀ x ∈ l, Rn n x) (h3 : Unl ps l) : ∃ i : Nat, i < (lotsT n ps).length ∧ ∀ x ∈ l, x ∈ latT n ps i := by
  have t := tm_ok g hs
  have key : ∀ l : List Int, (∀ x ∈ l, Rn n x) → ∃ i : Nat, i < (lotsT n ps).length ∧ (∀ x ∈ l, (tmP n ps x).1 ≤ i) ∧ (i = 0 ∨ ∃ y ∈ l, (tmP n ps y).1 = i) := fun l => by
    induction l with
    | nil => intro _; exact ⟨0, lotsT_pos hn1, fun _ h => (nomatch h), .inl rfl⟩
    | cons a l ih =>
      intro h
      obtain ⟨i, h1, h2, h3⟩ := ih fun x hx => h x (List.mem_cons_of_mem _ hx)
      have ha := tm_le g hs (h a (List.mem_cons_self ..))
      by_cases z : (tmP n ps a).1 ≤ i
      · refine ⟨i, h1, fun x hx => ?_, h3.imp id fun ⟨y, hy, e⟩ => ⟨y, List.mem_cons_of_mem _ hy, e⟩⟩
        rcases List.mem_cons.mp hx with rfl | hx
        · exact z
        · exact h2 x hx
      · obtain ⟨j, hj⟩ := Int.eq_ofNat_of_zero_le ha.1
        refine ⟨j, by omega, fun x hx => ?_, .inr ⟨a, List.mem_cons_self .., hj⟩⟩
        rcases List.mem_cons.mp hx with rfl | hx
        · omega
        · have := h2 x hx; omega
  obtain ⟨i, h4, h5, h6⟩ := key l h2
  refine ⟨i, h4, fun x hx => List.mem_filter.mpr ⟨mem_rg.mpr (h2 x hx), ?_⟩⟩
  rw [Bool.and_eq_true, decide_eq_true_iff, decide_eq_true_iff]
  refine ⟨h5 x hx, ?_⟩
  have hx2 := tm_le g hs (h2 x hx)
  rcases h6 with rfl | ⟨y, hy, e⟩
  · omega
  · have : (tmP n ps y).1 ≤ (tmP n ps x).2 := by
      by_cases hxy : x = y
      · subst hxy; exact hx2.2.1
      · exact t.le x y (h2 x hx) (h2 y hy) (h3 x hx y hy hxy)
    omega
end
theorem enum_rg {α : Type} {n : Nat} (f : Int → α) : enumT ((rg n).map f) = (rg n).map fun w => (w, f w) := by
  refine List.ext_getElem (by rw [enumT_len2, List.length_map, List.length_map]) fun i h1 h2 => ?_
  rw [enumT_len2, List.length_map] at h1
  have e1 : ((rg n).map f)[i]? = some (f (i : Int)) := by rw [List.getElem?_map, List.getElem?_eq_getElem h1, rg_at]; rfl
  have e2 := (List.getElem?_eq_some_iff.mp (enumT_get e1)).2
  rw [e2, List.getElem_map, rg_at]
theorem lat_enum {n : Nat} {ps : List (Int × Int)} (i : Int) : ((enumT ((rg n).map (tmP n ps))).filter fun a => decide (a.2.1 ≤ i) && decide (i ≤ a.2.2)).map Prod.fst = latT n ps i := by
  rw [enum_rg, List.filter_map, List.map_map]
  show List.map (fun w => w) _ = _
  rw [List.map_id']
  rfl
end
set_option maxHeartbeats 4000000
/-! PNe: unordered lots that can't be lengthened are the lots at a time; mirrored orders; parts. -/
section
open PySem L2
section
variable {n : Nat} {ps : List (Int × Int)}
theorem lotsU_nd : ∀ m : Nat, (lotsU ps m).Nodup
  | 0 => by simp [lotsU]
  | m + 1 => by
    have ih := lotsU_nd m
    unfold lotsU
    rw [List.nodup_append]
    refine ⟨ih, map_nodup (ih.filter _) fun p _ q _ e => ?_, ?_⟩
    · have := congrArg Tu.l e
      simp only at this
      have := List.append_cancel_right this
      cases p; cases q; simp only at this; rw [this]
    · intro a ha b hb e
      obtain ⟨c, hc, rfl⟩ := List.mem_map.mp hb
      subst e
      have := (lotsU_ok m ha).2.1 m (by simp)
      omega
/-- the works that a lot can be lengthened by -/
def moreU (n : Nat) (ps : List (Int × Int)) (l : List Int) : List Int := ((rg n).filter fun w => !mb w l).filter fun w => (l.filter fun x => uno ps x w).isEmpty
def lotsM (n : Nat) (ps : List (Int × Int)) : List (Tu Int) := (lotsU ps n).filter fun t => (moreU n ps t.l).isEmpty
theorem uno_iff {a b : Int} : uno ps a b = true ↔ (a, b) ∈ ps ∨ (b, a) ∈ ps := by
  unfold uno
  rw [Bool.or_eq_true, mb_iff, mb_iff]
theorem moreU_nil {l : List Int} : (moreU n ps l).isEmpty = true ↔ ∀ w, Rn n w → w ∉ l → ∃ x ∈ l, (x, w) ∈ ps ∨ (w, x) ∈ ps := by
  unfold moreU
  rw [List.isEmpty_iff, List.filter_eq_nil_iff]
  constructor
  · intro h w hw hl
    have := h w (List.mem_filter.mpr ⟨mem_rg.mpr hw, by rw [Bool.not_eq_true', mb_not]; exact hl⟩)
    rw [List.isEmpty_iff, List.filter_eq_nil_iff] at this
    apply Classical.byContradiction
    intro z
    exact this fun x hx hu => z ⟨x, hx, uno_iff.mp hu⟩
  · intro h w hw
    obtain ⟨h1, h2⟩ := List.mem_filter.mp hw
    rw [Bool.not_eq_true', mb_not] at h2
    obtain ⟨x, hx, hu⟩ := h w (mem_rg.mp h1) h2
    rw [List.isEmpty_iff, List.filter_eq_nil_iff]
    intro z
    exact z x hx (uno_iff.mpr hu)
theorem mem_latT {i w : Int} : w ∈ latT n ps i ↔ Rn n w ∧ (tmP n ps w).1 ≤ i ∧ i ≤ (tmP n ps w).2 := by
  unfold latT
  rw [List.mem_filter, mem_rg, Bool.and_eq_true, decide_eq_true_iff, decide_eq_true_iff]
theorem lat_sub (g : PO n ps) (hs : NoSide ps) {i j : Nat} (hi : i < (lotsT n ps).length) (h : ∀ x ∈ latT n ps i, x ∈ latT n ps j) : i = j := by
  obtain ⟨x, hx, ex⟩ := tm_begin (ps := ps) hi
  obtain ⟨y, hy, ey⟩ := tm_end g hs hi
  have h1 := tm_le g hs hx
  have h2 := tm_le g hs hy
  have h3 := mem_latT.mp (h x (mem_latT.mpr ⟨hx, by omega, by omega⟩))
  have h4 := mem_latT.mp (h y (mem_latT.mpr ⟨hy, by omega, by omega⟩))
  omega
theorem latT_pw (i : Int) : (latT n ps i).Pairwise (· < ·) := by
  unfold latT
  refine List.Pairwise.filter _ ?_
  exact rg_srt n
theorem pw_ext : ∀ {xs ys : List Int}, xs.Pairwise (· < ·) → ys.Pairwise (· < ·) → (∀ x, x ∈ xs ↔ x ∈ ys) → xs = ys
  | [], [], _, _, _ => rfl
  | [], y :: ys, _, _, h => absurd ((h y).mpr (List.mem_cons_self ..)) (by simp)
  | x :: xs, [], _, _, h => absurd ((h x).mp (List.mem_cons_self ..)) (by simp)
  | x :: xs, y :: ys, hx, hy, h => by
    obtain ⟨x1, x2⟩ := List.pairwise_cons.mp hx
    obtain ⟨y1, y2⟩ := List.pairwise_cons.mp hy
    have e : x = y := by
      rcases List.mem_cons.mp ((h x).mp (List.mem_cons_self ..)) with e | e
      · exact e
      · rcases List.mem_cons.mp ((h y).mpr (List.mem_cons_self ..)) with e2 | e2
        · exact e2.symm
        · have := y1 x e; have := x1 y e2; omega
    subst e
    rw [pw_ext x2 y2 fun z => ?_]
    constructor
    · intro hz
      rcases List.mem_cons.mp ((h z).mp (List.mem_cons_of_mem _ hz)) with e | e
      · have := x1 z hz; omega
      · exact e
    · intro hz
      rcases List.mem_cons.mp ((h z).mpr (List.mem_cons_of_mem _ hz)) with e | e
      · have := y1 z hz; omega
      · exact e
theorem latM_perm (g : PO n ps) (hs : NoSide ps) (hn1 : 1 ≤ n) : ((rg (lotsT n ps).length).map fun i => (Tu.mk (latT n ps i) : Tu Int)).Perm (lotsM n ps) := by
  refine (List.perm_ext_iff_of_nodup (map_nodup (rg_nodup _) fun i hi j hj e => ?_) ((lotsU_nd n).filter _)).mpr fun t => ?_
  · have hi := mem_rg.mp hi
    have hj := mem_rg.mp hj
    obtain ⟨i, rfl⟩ := Int.eq_ofNat_of_zero_le hi.1
    obtain ⟨j, rfl⟩ := Int.eq_ofNat_of_zero_le hj.1
    have e := congrArg Tu.l e
    simp only at e
    rw [lat_sub g hs (i := i) (j := j) (by omega) fun x hx => e ▸ hx]
  · rw [List.mem_map, List.mem_filter, moreU_nil]
    constructor
    · rintro ⟨i, hi, rfl⟩
      have hi := mem_rg.mp hi
      obtain ⟨i, rfl⟩ := Int.eq_ofNat_of_zero_le hi.1
      refine ⟨latT_in g hs i, fun w hw hl => ?_⟩
      apply Classical.byContradiction
      intro z
      have hu : Unl ps (w :: latT n ps i) := fun a ha b hb hab h => by
        rcases List.mem_cons.mp ha with ea | ha1
        · rcases List.mem_cons.mp hb with eb | hb1
          · exact hab (ea.trans eb.symm)
          · exact z ⟨b, hb1, .inr (ea ▸ h)⟩
        · rcases List.mem_cons.mp hb with eb | hb1
          · exact z ⟨a, ha1, .inl (eb ▸ h)⟩
          · exact latT_unl g hs i a ha1 b hb1 hab h
      obtain ⟨j, hj, hsub⟩ := unl_lat g hs hn1 (l := w :: latT n ps i) (fun x hx => by
        rcases List.mem_cons.mp hx with rfl | hx
        · exact hw
        · exact (mem_latT.mp hx).1) hu
      have e := lat_sub g hs (j := j) (by omega) fun x hx => hsub x (List.mem_cons_of_mem _ hx)
      subst e
      exact hl (hsub w (List.mem_cons_self ..))
    · rintro ⟨h1, h2⟩
      obtain ⟨t1, t2, t3⟩ := lotsU_ok n h1
      obtain ⟨i, hi, hsub⟩ := unl_lat g hs hn1 t2 t3
      refine ⟨i, mem_rg.mpr ⟨by omega, by omega⟩, ?_⟩
      obtain ⟨l⟩ := t
      simp only at *
      rw [pw_ext t1 (latT_pw i) fun x => ⟨hsub x, fun hx => ?_⟩]
      apply Classical.byContradiction
      intro hnx
      obtain ⟨y, hy, hp⟩ := h2 x (mem_latT.mp hx).1 hnx
      have hxy : x ≠ y := fun e => hnx (e ▸ hy)
      rcases hp with hp | hp
      · exact latT_unl g hs i y (hsub y hy) x hx (fun e => hxy e.symm) hp
      · exact latT_unl g hs i x hx y (hsub y hy) hxy hp
theorem sortU_perm {xs ys : List (Tu Int)} (h : xs.Perm ys) : xs.mergeSort leU = ys.mergeSort leU :=
  List.Perm.eq_of_pairwise (le := fun a b => leU a b = true) (fun a b _ _ h1 h2 => by
    have := List.le_antisymm (leU_le.mp h1) (leU_le.mp h2)
    cases a; cases b
    simp only at this
    rw [this]) (sortU_pw xs) (sortU_pw ys) ((List.mergeSort_perm _ _).trans (h.trans (List.mergeSort_perm _ _).symm))
/-! ### the mirrored order -/
def mirL (ps : List (Int × Int)) : List (Int × Int) := (ps.map fun p => (p.2, p.1)).mergeSort leP
theorem mem_mirL {a b : Int} : (a, b) ∈ mirL ps ↔ (b, a) ∈ ps := by
  unfold mirL
  rw [(List.mergeSort_perm _ _).mem_iff, List.mem_map]
  constructor
  · rintro ⟨⟨p1, p2⟩, h, e⟩
    cases e; exact h
  · intro h; exact ⟨_, h, rfl⟩
theorem mir_po (g : PO n ps) : PO n (mirL ps) := by
  refine ⟨sorted_go (map_nodup g.go.nodup fun p _ q _ e => ?_) fun q hq => ?_, fun a b c h1 h2 => ?_, fun a h => g.ir a (mem_mirL.mp h)⟩
  · obtain ⟨p1, p2⟩ := p
    obtain ⟨q1, q2⟩ := q
    cases e; rfl
  · obtain ⟨p, h, rfl⟩ := List.mem_map.mp hq
    have i := g.go.inr _ h
    exact ⟨i.2.2.1, i.2.2.2, i.1, i.2.1⟩
  · exact mem_mirL.mpr (g.tr _ _ _ (mem_mirL.mp h2) (mem_mirL.mp h1))
theorem mir_tms (g : PO n ps) (hs : NoSide ps) : Tms n (mirL ps) (fun w => ((lotsT n ps).length : Int) - 1 - (tmP n ps w).2) (fun w => ((lotsT n ps).length : Int) - 1 - (tmP n ps w).1) where
  ge := fun w hw => by have := tm_le g hs hw; omega
  lt := fun a b ha hb h => by
    have := (tm_ok g hs).lt b a hb ha (mem_mirL.mp h)
    omega
  le := fun a b ha hb h => by
    have := (tm_ok g hs).le b a hb ha fun z => h (mem_mirL.mpr z)
    omega
theorem mir_ge (g : PO n ps) (hs : NoSide ps) {xb xe : Int → Int} (x : Tms n (mirL ps) xb xe) : ∀ d : Nat, (∀ w, Rn n w → ((lotsT n ps).length : Int) - 1 - (tmP n ps w).2 = d → (d : Int) ≤ xb w) ∧ (∀ w, Rn n w → ((lotsT n ps).length : Int) - 1 - (tmP n ps w).1 = d → (d : Int) ≤ xe w) := by
  intro d
  induction d with
  | zero =>
    have hb : ∀ w, Rn n w → (0 : Int) ≤ xb w := fun w hw => x.ge w hw
    refine ⟨fun w hw _ => hb w hw, fun w hw _ => ?_⟩
    have hwle := x.le w w hw hw fun z => g.ir w (mem_mirL.mp z)
    have := hb w hw
    show (0 : Int) ≤ xe w
    omega
  | succ d ih =>
    have hB : ∀ w, Rn n w → ((lotsT n ps).length : Int) - 1 - (tmP n ps w).2 = (d + 1 : Nat) → ((d + 1 : Nat) : Int) ≤ xb w := fun w hw e => by
      have h0 := tm_le g hs hw
      have hlt : ((tmP n ps w).2 + 1).toNat < (lotsT n ps).length := by omega
      obtain ⟨y, hy, ey⟩ := tm_begin (ps := ps) hlt
      have h1 := ih.2 y hy (by omega)
      have h2 : (w, y) ∈ ps := ((tm_ok g hs).iff hw hy).mpr (by omega)
      have h3 := x.lt y w hy hw (mem_mirL.mpr h2)
      omega
    refine ⟨hB, fun w hw e => ?_⟩
    have h0 := tm_le g hs hw
    obtain ⟨y, hy, ey⟩ := tm_end g hs (i := ((tmP n ps w).1).toNat) (by omega)
    have h1 := hB y hy (by omega)
    have h2 : (y, w) ∉ ps := fun z => by
      have := (tm_ok g hs).lt y w hy hw z
      omega
    have h3 := x.le w y hw hy fun z => h2 (mem_mirL.mp z)
    omega
theorem mir_ns (g : PO n ps) (hs : NoSide ps) : NoSide (mirL ps) := (mir_tms g hs).ns (mir_po g)
theorem mir_least (g : PO n ps) (hs : NoSide ps) {w : Int} (hw : Rn n w) : tmP n (mirL ps) w = (((lotsT n ps).length : Int) - 1 - (tmP n ps w).2, ((lotsT n ps).length : Int) - 1 - (tmP n ps w).1) := by
  have g2 := mir_po g
  have hs2 := mir_ns g hs
  have a1 := tm_least g2 hs2 (mir_tms g hs) hw
  have t2 := tm_ok g2 hs2
  have h0 := tm_le g hs hw
  have b1 := (mir_ge g hs t2 (((lotsT n ps).length : Int) - 1 - (tmP n ps w).2).toNat).1 w hw (by omega)
  have b2 := (mir_ge g hs t2 (((lotsT n ps).length : Int) - 1 - (tmP n ps w).1).toNat).2 w hw (by omega)
  exact Prod.ext (by simp only; omega) (by simp only; omega)
theorem map_pix {α : Type} [Inhabited α] (xs : List α) : (rg xs.length).map (pix xs) = xs := by
  refine List.ext_getElem (by rw [List.length_map, rg_len]) fun i h1 h2 => ?_
  rw [List.getElem_map]
  have : (rg xs.length)[i]'(by rw [List.length_map] at h1; exact h1) = (i : Int) := by
    have h := rg_at (n := xs.length) (i := i) (by rw [rg_len]; exact h2)
    exact h
  rw [this, pix_of (List.getElem?_eq_getElem h2)]
/-! ### a part -/
def partL (ps : List (Int × Int)) (lot : List Int) : List (Int × Int) := (ps.filter fun p => mb p.1 lot && mb p.2 lot).map fun p => ((lot.idxOf p.1 : Int), (lot.idxOf p.2 : Int))
theorem idx_ne {x a : Int} {l : List Int} (h : x ≠ a) : (x :: l).idxOf a = l.idxOf a + 1 := by
  rw [List.idxOf_cons, show (x == a) = false from beq_false_of_ne h]; rfl
theorem idx_lt {l : List Int} (h : l.Pairwise (· < ·)) {a b : Int} (ha : a ∈ l) (hb : b ∈ l) (hab : a < b) : l.idxOf a < l.idxOf b := by
  induction l with
  | nil => cases ha
  | cons x l ih =>
    obtain ⟨h1, h2⟩ := List.pairwise_cons.mp h
    rcases List.mem_cons.mp ha with rfl | ha'
    · have hne : a ≠ b := by omega
      rw [List.idxOf_cons_self, idx_ne hne]; omega
    · rcases List.mem_cons.mp hb with rfl | hb'
      · have := h1 a ha'; omega
      · have e1 : x ≠ a := by have := h1 a ha'; omega
        have e2 : x ≠ b := by have := h1 b hb'; omega
        rw [idx_ne e1, idx_ne e2]
        have := ih h2 ha' hb'; omega
theorem pix_idx {l : List Int} {a : Int} (ha : a ∈ l) : pix l (l.idxOf a : Int) = a := by
  have h := List.idxOf_lt_length_of_mem ha
  rw [pix_of (List.getElem?_eq_getElem h), List.getElem_idxOf h]
theorem mem_part {l : List Int} (nd : l.Nodup) {i j : Int} (hi : Rn l.length i) (hj : Rn l.length j) : (i, j) ∈ partL ps l ↔ (pix l i, pix l j) ∈ ps := by
  have key : ∀ w, Rn l.length w → ((l.idxOf (pix l w) : Nat) : Int) = w ∧ pix l w ∈ l := fun w hw => by
    obtain ⟨i, rfl⟩ := Int.eq_ofNat_of_zero_le hw.1
    have hi : i < l.length := by have := hw.2; omega
    rw [pix_of (List.getElem?_eq_getElem hi), nd.idxOf_getElem]
    exact ⟨rfl, List.getElem_mem hi⟩
  unfold partL
  rw [List.mem_map]
  constructor
  · rintro ⟨⟨a, b⟩, h, e⟩
    obtain ⟨h1, h2⟩ := List.mem_filter.mp h
    rw [Bool.and_eq_true, mb_iff, mb_iff] at h2
    have e1 : ((l.idxOf a : Nat) : Int) = i := congrArg Prod.fst e
    have e2 : ((l.idxOf b : Nat) : Int) = j := congrArg Prod.snd e
    rw [← e1, ← e2, pix_idx h2.1, pix_idx h2.2]
    exact h1
  · intro h
    have k1 := key i hi
    have k2 := key j hj
    exact ⟨_, List.mem_filter.mpr ⟨h, by rw [Bool.and_eq_true, mb_iff, mb_iff]; exact ⟨k1.2, k2.2⟩⟩, by simp only [k1.1, k2.1]⟩
theorem part_go (g : PO n ps) {l : List Int} (hl : l.Pairwise (· < ·)) : GO l.length (partL ps l) := by
  have hin : ∀ p ∈ ps.filter (fun p => mb p.1 l && mb p.2 l), p.1 ∈ l ∧ p.2 ∈ l := fun p hp => by
    have h2 := (List.mem_filter.mp hp).2
    rw [Bool.and_eq_true, mb_iff, mb_iff] at h2
    exact h2
  refine ⟨fun q hq => ?_, ?_⟩
  · obtain ⟨p, hp, rfl⟩ := List.mem_map.mp hq
    obtain ⟨h1, h2⟩ := hin p hp
    have a1 := List.idxOf_lt_length_of_mem h1
    have a2 := List.idxOf_lt_length_of_mem h2
    exact ⟨by simp only; omega, by simp only; omega, by simp only; omega, by simp only; omega⟩
  · unfold partL
    rw [List.pairwise_map]
    have h0 : (ps.filter fun p => mb p.1 l && mb p.2 l).Pairwise ltP := g.go.srt.filter _
    refine h0.imp_of_mem fun {a b} ha hb hlt => ?_
    obtain ⟨a1, a2⟩ := hin a ha
    obtain ⟨b1, b2⟩ := hin b hb
    rcases hlt with h | ⟨h, h'⟩
    · have := idx_lt hl a1 b1 h
      left; simp only; omega
    · have := idx_lt hl a2 b2 h'
      right; rw [h]; exact ⟨rfl, by simp only; omega⟩
theorem pix_in {l : List Int} {i : Int} (hi : Rn l.length i) : pix l i ∈ l := pix_memA (xs := l) (mem_rg.mpr hi)
theorem part_po (g : PO n ps) {l : List Int} (hl : l.Pairwise (· < ·)) : PO l.length (partL ps l) := by
  have gp := part_go g hl
  have nd : l.Nodup := hl.imp fun h e => by omega
  refine ⟨gp, fun a b c h1 h2 => ?_, fun a h => ?_⟩
  · have i := gp.inr _ h1
    have j := gp.inr _ h2
    exact (mem_part nd ⟨i.1, i.2.1⟩ ⟨j.2.2.1, j.2.2.2⟩).mpr (g.tr _ _ _ ((mem_part nd ⟨i.1, i.2.1⟩ ⟨i.2.2.1, i.2.2.2⟩).mp h1) ((mem_part nd ⟨j.1, j.2.1⟩ ⟨j.2.2.1, j.2.2.2⟩).mp h2))
  · have i := gp.inr _ h
    exact g.ir _ ((mem_part nd ⟨i.1, i.2.1⟩ ⟨i.1, i.2.1⟩).mp h)
theorem part_tms {l : List Int} (hl : l.Pairwise (· < ·)) (hr : ∀ x ∈ l, Rn n x) {tb te : Int → Int} (t : Tms n ps tb te) : Tms l.length (partL ps l) (fun i => tb (pix l i)) (fun i => te (pix l i)) := by
  have nd : l.Nodup := hl.imp fun h e => by omega
  exact ⟨fun w hw => t.ge _ (hr _ (pix_in hw)), fun a b ha hb h => t.lt _ _ (hr _ (pix_in ha)) (hr _ (pix_in hb)) ((mem_part nd ha hb).mp h), fun a b ha hb h => t.le _ _ (hr _ (pix_in ha)) (hr _ (pix_in hb)) fun z => h ((mem_part nd ha hb).mpr z)⟩
theorem part_ns (g : PO n ps) (hs : NoSide ps) {l : List Int} (hl : l.Pairwise (· < ·)) (hr : ∀ x ∈ l, Rn n x) : NoSide (partL ps l) := (part_tms hl hr (tm_ok g hs)).ns (part_po g hl)
theorem part_least (g : PO n ps) (hs : NoSide ps) {l : List Int} (hl : l.Pairwise (· < ·)) (hr : ∀ x ∈ l, Rn n x) {i : Int} (hi : Rn l.length i) : (tmP l.length (partL ps l) i).1 ≤ (tmP n ps (pix l i)).1 ∧ (tmP l.length (partL ps l) i).2 ≤ (tmP n ps (pix l i)).2 :=
  tm_least (part_po g hl) (part_ns g hs hl hr) (part_tms hl hr (tm_ok g hs)) hi
end
end
set_option maxHeartbeats 4000000
/-! K14i: a part, the mirrored order. -/
section
open PySem L2
section
variable {k n : Nat} {ps : List (Int × Int)} {Q : D → Prop} {K : Ko}
theorem s_part {lot : Hd Int} (q : Q (en (od lot.l.length (partL ps lot.l)))) : CG (k + 1) 7 [.sh (en (od n ps)), .sh (en lot)] Q := by
  unfold CG; rw [hd7 rfl rfl]
  unfold b7
  sizeOf_list_dec
  exact ⟨fun a _ h1 h2 => ⟨mb_iff.mp h1, mb_iff.mp h2⟩, q⟩
theorem s_mirror (q : Q (en (od n (mirL ps)))) : CG (k + 1) 8 [.sh (en (od n ps))] Q := by
  unfold CG; rw [hd8 rfl]
  unfold b8
  sizeOf_list_dec
  rw [q_sortP, lift_rt]
  sizeOf_list_dec
  exact q
def dueL (n : Nat) (ps : List (Int × Int)) : List (Int × Int) := (rg n).map (tmP n ps)
theorem dueL_len : (dueL n ps).length = n := by unfold dueL; rw [List.length_map, rg_len]
theorem noSide_iff : sideL ps = [] ↔ NoSide ps := by
  unfold sideL sideR
  rw [List.flatMap_eq_nil_iff]
  constructor
  · intro h a b c d h1 h2
    have := h (a, b) h1
    rw [List.map_eq_nil_iff, List.filter_eq_nil_iff] at this
    have := this (c, d) h2
    simp only [Bool.and_eq_true, Bool.not_eq_true', mb_not, not_and, Classical.not_not] at this
    by_cases z : (a, d) ∈ ps
    · exact .inl z
    · exact .inr (this z)
  · intro h p hp
    rw [List.map_eq_nil_iff, List.filter_eq_nil_iff]
    intro q hq
    simp only [Bool.and_eq_true, Bool.not_eq_true', mb_not, not_and, Classical.not_not]
    intro z
    exact (h p.1 p.2 q.1 q.2 hp hq).resolve_left z
theorem times_some (hs : sideL ps = []) : (en (timesO n ps) : D) = en (Tu.mk (dueL n ps)) := by unfold timesO; rw [if_pos hs]; rfl
theorem e_lotat (i : Int) (hn : n ≤ 10) : CG (k + 1) 5 [.sh (en (Tu.mk (dueL n ps))), .sh (en i)] = rt (en (Tu.mk (latT n ps i))) := by
  unfold CG; rw [hd5 rfl rfl]
  unfold b5
  funext Q
  sizeOf_list_dec
  rw [show dueL n ps = (rg n).map (tmP n ps) from rfl, lat_enum]
/-- the lot at a number of any times -/
def lotA (n : Nat) (ts : List (Int × Int)) (i : Int) : List Int := (rg n).filter fun w => decide ((pix ts w).1 ≤ i) && decide (i ≤ (pix ts w).2)
theorem e_lotA {ts : List (Int × Int)} (hl : ts.length = n) (i : Int) : CG (k + 1) 5 [.sh (en (Tu.mk ts)), .sh (en i)] = rt (en (Tu.mk (lotA n ts i))) := by
  unfold CG; rw [hd5 rfl rfl]
  unfold b5
  funext Q
  sizeOf_list_dec
  have e1 : ts = (rg n).map (pix ts) := by
    have := map_pix ts
    rw [hl] at this
    exact this.symm
  have e2 : ((enumT ts).filter fun a => decide (a.2.1 ≤ i) && decide (i ≤ a.2.2)).map Prod.fst = lotA n ts i := by
    rw [e1, enum_rg, ← e1, List.filter_map, List.map_map]
    show List.map (fun w => w) _ = _
    rw [List.map_id']
    rfl
  rw [e2]
theorem max_ends (g : PO n ps) (hn1 : 1 ≤ n) (hs : NoSide ps) : primD .max [en ((rg n).map fun a => (tmP n ps a).2)] = some (en (((lotsT n ps).length : Int) - 1)) := by
  have hp := lotsT_pos (ps := ps) hn1
  refine q_maxL2 (fun y hy => ?_) ?_
  · obtain ⟨w, hw, rfl⟩ := List.mem_map.mp hy
    have := tm_le g hs (mem_rg.mp hw)
    omega
  · obtain ⟨w, hw, e⟩ := tm_end g hs (i := (lotsT n ps).length - 1) (by omega)
    exact List.mem_map.mpr ⟨w, mem_rg.mpr hw, by rw [e]; omega⟩
theorem s_unordered (g : PO n ps) (hn : n ≤ 10) (hn1 : 1 ≤ n) (hs : sideL ps = []) (q : Q (en (Tu.mk ((rg (lotsT n ps).length).map fun i => (Tu.mk (latT n ps i) : Tu Int))))) : CG (k + 4) 6 [.sh (en (od n ps))] Q := by
  have hs' := noSide_iff.mp hs
  unfold CG; rw [hd6 rfl]
  unfold b6
  sizeOf_list_dec
  refine s_times (k := k) hn (g.go.len10 hn) ?_
  rw [times_some hs]
  have e1 : ∀ i, CG (k + 3) 5 [.sh (en (Tu.mk (dueL n ps))), .sh (en i)] = rt (en (Tu.mk (latT n ps i))) := fun i => @e_lotat (k + 2) n ps i hn
  unfold CG at e1
  have et : (dueL n ps).map Prod.snd = (rg n).map fun a => (tmP n ps a).2 := by unfold dueL; rw [List.map_map]; rfl
  sizeOf_list_dec
  rw [et, max_ends g hn1 hs', lift_rt]
  sizeOf_list_dec
  simp only [e1]
  sizeOf_list_dec
  rw [show (1 + (((lotsT n ps).length : Int) - 1)) = (((lotsT n ps).length : Nat) : Int) by omega, rgI_rg]
  have := lotsT_len (n := n) (ps := ps)
  exact ⟨rng_ok (by omega), q⟩
end
end
set_option maxHeartbeats 4000000
/-! K14j: the unordered lots that can't be lengthened, by the law. -/
section
open PySem L2
section
variable {k n : Nat} {ps : List (Int × Int)} {Q : D → Prop} {K : Ko}
def wsu (n : Nat) (ps : List (Int × Int)) (x1 x2 x3 x4 x5 x6 x7 : Option B) : Nv := [some (.sh (en (od n ps))), x1, x2, x3, x4, x5, x6, x7, none]
theorem s_lawU (g : PO n ps) (hn : n ≤ 10) (q : Q (en (lotsM n ps))) : CG (k + 1) 16 [.sh (en (od n ps))] Q := by
  unfold CG; rw [hd16 rfl]
  unfold b16
  sizeOf_list_dec
  refine ⟨rng_ok (by omega), ?_⟩
  rw [rgI_rg, show (PyData.list [PyData.tuple []] : D) = en (lotsU ps 0) from rfl]
  refine forL_inv (fun done ρ => ∃ x2 x5, ρ = wsu n ps (some (.sh (en (lotsU ps done.length)))) x2 none none x5 none none ∧ nOwn (some x2) = true) (done := []) ⟨none, none, rfl, rfl⟩ ?_ ?_
  · rintro done a r ρ e ⟨x2, x5, rfl, hx2⟩ K2 hK2
    have hl : done.length < n := by
      have := congrArg List.length (show rg n = done ++ a :: r from e)
      rw [rg_len, List.length_append, List.length_cons] at this; omega
    have ha : a = (done.length : Int) := by
      have h1 : (rg n)[done.length]? = some a := by rw [show rg n = done ++ a :: r from e]; simp
      rw [List.getElem?_eq_getElem (by rw [rg_len]; exact hl), rg_at] at h1
      exact (Option.some.inj h1).symm
    subst ha
    have h2 := lotsU_len (ps := ps) done.length
    have h3 : 2 ^ done.length ≤ 1024 := Nat.pow_le_pow_right (by decide) (show done.length ≤ 10 by omega)
    have h4 : ∀ t ∈ lotsU ps done.length, t.l.length ≤ 10 := fun t ht => by
      obtain ⟨h5, h6, _⟩ := lotsU_ok _ ht
      have := len_of_sub t.l (rg done.length) (h5.imp fun h e => by omega) fun x hx => mem_rg.mpr (h6 x hx)
      rw [rg_len] at this; omega
    have h5 := List.length_filter_le (fun lot : Tu Int => !lot.l.any fun x => mb x (nearL ps done.length done.length)) (lotsU ps done.length)
    unfold b16_0 wsu
    sizeOf_list_dec
    rw [rgI_rg]
    refine ⟨rng_ok (by omega), fun a ha _ => szl (by have := h4 a ha; omega), szl (by unfold nearL uno at h5; omega), hK2 _ ⟨some (.sh (en (done.length : Int))), some (.sh (en (nearL ps done.length done.length))), ?_, rfl⟩⟩
    rw [List.length_append, List.length_cons, List.length_nil]
    rfl
  · rintro ρ ⟨x2, x5, rfl, hx2⟩
    rw [List.nil_append, rg_len]
    have h2 := lotsU_len (ps := ps) n
    have h3 : 2 ^ n ≤ 1024 := Nat.pow_le_pow_right (by decide) (show n ≤ 10 by omega)
    unfold b16_4 wsu
    sizeOf_list_dec
    refine forL_inv (fun done ρ => ∃ (x2 x4 x6 x7 : Option B), ρ = wsu n ps (some (.sh (en (lotsU ps n)))) x2 (some (.sh (en (done.filter fun t => (moreU n ps t.l).isEmpty)))) x4 x5 x6 x7 ∧ nOwn (some x2) = true) (done := []) ⟨x2, none, none, none, rfl, hx2⟩ ?_ ?_
    · rintro done t r ρ e ⟨x2, x4, x6, x7, rfl, hx2⟩ K2 hK2
      have hdl : done.length ≤ 1024 := by
        have := congrArg List.length (show lotsU ps n = done ++ t :: r from e)
        rw [List.length_append, List.length_cons] at this; omega
      unfold b16_3 wsu
      sizeOf_list_dec
      refine ⟨⟨hx2, rng_ok (by omega)⟩, ?_⟩
      rw [rgI_rg]
      refine forL_inv (fun dw ρ => ∃ (x2 x7 : Option B), ρ = wsu n ps (some (.sh (en (lotsU ps n)))) x2 (some (.sh (en (done.filter fun t => (moreU n ps t.l).isEmpty)))) (some (.sh (en t))) x5 (some (.sh (en (dw.filter fun w => (t.l.filter fun x => uno ps x w).isEmpty)))) x7 ∧ nOwn (some x2) = true) (done := []) ⟨x2, x7, rfl, hx2⟩ ?_ ?_
      · rintro dw w r2 ρ e2 ⟨x2, x7, rfl, hx2⟩ K3 hK3
        have hwl : dw.length ≤ 10 := by
          have := congrArg List.length (show (rg n).filter (fun w => !mb w t.l) = dw ++ w :: r2 from e2)
          have h9 := List.length_filter_le (fun w => !mb w t.l) (rg n)
          rw [rg_len] at h9
          rw [List.length_append, List.length_cons] at this; omega
        have h8 := List.length_filter_le (fun w => (t.l.filter fun x => uno ps x w).isEmpty) dw
        unfold b16_1 wsu
        sizeOf_list_dec
        have ef : (dw ++ [w]).filter (fun w => (t.l.filter fun x => uno ps x w).isEmpty) = (dw.filter fun w => (t.l.filter fun x => uno ps x w).isEmpty) ++ (if (!t.l.any fun a => mb (a, w) ps || mb (w, a) ps) = true then [w] else []) := by
          rw [List.filter_append, List.filter_cons, List.filter_nil, isEmpty_filterB]; rfl
        simp only [isEmpty_filterB] at ef h8
        refine ⟨szl (by split <;> simp <;> omega), hK3 _ ⟨some (.sh (en w)), some (.sh (en (t.l.filter fun a => mb (a, w) ps || mb (w, a) ps))), ?_, rfl⟩⟩
        unfold wsu
        simp only [isEmpty_filterB]
        rw [ef]
      · rintro ρ ⟨x2, x7, rfl, hx2⟩
        rw [List.nil_append]
        have h8 := List.length_filter_le (fun t : Tu Int => (moreU n ps t.l).isEmpty) done
        unfold b16_2 wsu
        sizeOf_list_dec
        have ef : (done ++ [t]).filter (fun t : Tu Int => (moreU n ps t.l).isEmpty) = (done.filter fun t => (moreU n ps t.l).isEmpty) ++ (if (!((rg n).filter fun a => !mb a t.l).any fun w => !t.l.any fun x => uno ps x w) = true then [t] else []) := by
          rw [List.filter_append, List.filter_cons, List.filter_nil]
          unfold moreU
          simp only [isEmpty_filterB]
        refine ⟨szl (by split <;> simp <;> omega), hK2 _ ⟨x2, some (.sh (en t)), some (.sh (en (((rg n).filter fun a => !mb a t.l).filter fun w => !t.l.any fun x => uno ps x w))), x7, ?_, hx2⟩⟩
        unfold wsu
        rw [ef]
    · rintro ρ ⟨x2, x4, x6, x7, rfl, hx2⟩
      rw [List.nil_append]
      unfold wsu
      sizeOf_list_dec
      exact q
end
end
set_option maxHeartbeats 4000000
/-! K14k: the law is true. -/
section
open PySem L2
section
variable {k n : Nat} {ps : List (Int × Int)} {Q : D → Prop} {K : Ko}
def spanO (n : Nat) (ps : List (Int × Int)) : Option Int := if sideL ps = [] then some ((lotsT n ps).length : Int) else none
theorem s_span (g : PO n ps) (hn : n ≤ 10) (hn1 : 1 ≤ n) (q : Q (en (spanO n ps))) : CG (k + 4) 4 [.sh (en (od n ps))] Q := by
  unfold CG; rw [hd4 rfl]
  unfold b4
  sizeOf_list_dec
  refine s_times (k := k) hn (g.go.len10 hn) ?_
  unfold timesO
  unfold spanO at q
  by_cases hs : sideL ps = []
  · rw [if_pos hs] at q ⊢
    have hs' := noSide_iff.mp hs
    rw [show (en (some (Tu.mk ((rg n).map (tmP n ps)))) : D) = en (Tu.mk ((rg n).map (tmP n ps))) from rfl, show lift (copD .is (en (Tu.mk ((rg n).map (tmP n ps)))) PyData.none) = rt (en false) from lift_rt _]
    sizeOf_list_dec
    simp only [List.map_map, Function.comp_def]
    rw [max_ends g hn1 hs', lift_rt]
    sizeOf_list_dec
    rw [show (1 + (((lotsT n ps).length : Int) - 1)) = ((lotsT n ps).length : Int) by omega]
    exact q
  · rw [if_neg hs] at q ⊢
    rw [show lift (copD .is (en (none : Option (Tu (Int × Int)))) PyData.none) = rt (en true) from lift_rt _]
    sizeOf_list_dec
    exact q
theorem dueL_at {w : Int} (hw : Rn n w) : pix (dueL n ps) w = tmP n ps w := pix_mapR hw.1 hw.2
theorem ne_od (n : Nat) (ps : List (Int × Int)) : copD .ne (en (od n ps)) (en (od n ps)) = some (en false) := by
  rw [c_ne (by decide)]; simp
theorem shw_due (g : PO n ps) (hn : n ≤ 10) (hs : NoSide ps) : Shw (en (Tu.mk (dueL n ps))) :=
  ⟨2, 3 * 10, pl_tu (a := 2) (fun x hx => by
    obtain ⟨w, hw, rfl⟩ := List.mem_map.mp hx
    have := tm_bound g hs (mem_rg.mp hw)
    revert this
    generalize tmP n ps w = q
    intro this
    obtain ⟨b, e⟩ := q
    exact pl_pr (a := 0) (b := 0) (pl_en (by omega) (by omega)) (pl_en (by omega) (by omega))) (by rw [dueL_len]; omega), by decide, by decide⟩
def lx (n : Nat) (ps : List (Int × Int)) (x2 x4 x5 x6 x7 x8 x9 x10 x11 x12 : Option B) : Nv := [none, some .src, x2, some (.sh (en (od n ps))), x4, x5, x6, x7, x8, x9, x10, x11, x12, some (.sh (en (n : Int))), some (.sh (.str (en (od n ps)).shown)), some (.sh (en (Tu.mk (dueL n ps)))), none, none, none, none, none, none]
variable {x2 x4 x5 x6 x7 x8 x9 x10 x11 x12 : Option B}
def manyB (n : Nat) (ps : List (Int × Int)) : Option B := some (.sh (en ((lotsT n ps).length : Int)))
theorem shw_fl (hn : n ≤ 10) (p : Int → Bool) : Shw (en (Tu.mk ((rg n).filter p))) :=
  ⟨2, 10, pl_tu (a := 0) (fun x hx => by
    have := mem_rg.mp (List.mem_filter.mp hx).1
    exact pl_en (by omega) (by omega)) (by
    have := List.length_filter_le p (rg n)
    rw [rg_len] at this
    omega), by decide, by decide⟩
theorem shw_lots (hn : n ≤ 10) : Shw (en (Tu.mk ((rg (lotsT n ps).length).map fun i => (Tu.mk (latT n ps i) : Tu Int)))) :=
  ⟨3, 110, pl_tu (a := 10) (fun x hx => by
    obtain ⟨i, hi, rfl⟩ := List.mem_map.mp hx
    refine pl_tu (a := 0) (fun x hx => ?_) ?_
    · have := mem_rg.mp (List.mem_filter.mp hx).1
      exact pl_en (by omega) (by omega)
    · have := List.length_filter_le (fun w => decide ((tmP n ps w).1 ≤ i) && decide (i ≤ (tmP n ps w).2)) (rg n)
      rw [rg_len] at this
      unfold latT
      omega) (by
    have := lotsT_len (n := n) (ps := ps)
    rw [List.length_map, rg_len]
    omega), by decide, by decide⟩
theorem l_1 (hn : n ≤ 10) (g : PO n ps) (h : K.nx (lx n ps x2 x4 x5 x6 x7 x8 x9 x10 x11 x12)) : execs (CG k) lawB_1 (lx n ps x2 x4 x5 x6 x7 x8 x9 x10 x11 x12) K := by
  unfold lawB_1
  unfold lx at h ⊢
  sizeOf_list_dec
  have s2 := shw_od (n := n) (by omega) g.go
  rw [rep_ok s2]
  simp only [rt_ap]
  rw [rep_ne s2]
  sizeOf_list_dec
  exact h
theorem due_mir (g : PO n ps) (hs : NoSide ps) : dueL n (mirL ps) = (dueL n ps).map fun p => (((lotsT n ps).length : Int) - 1 - p.2, ((lotsT n ps).length : Int) - 1 - p.1) := by
  unfold dueL
  rw [List.map_map]
  exact List.map_congr_left fun w hw => mir_least g hs (mem_rg.mp hw)
theorem l_2 (hn : n ≤ 10) (hn1 : 1 ≤ n) (g : PO n ps) (hs : NoSide ps) (h : K.nx (lx n ps x2 (manyB n ps) x5 x6 x7 x8 x9 x10 x11 (some (.sh (en (od n (mirL ps))))))) : execs (CG (k + 3)) lawB_2 (lx n ps x2 (manyB n ps) x5 x6 x7 x8 x9 x10 x11 (some (.sh (en (od n (mirL ps)))))) K := by
  have h1 := l_1 (k := k + 3) hn g h
  have g2 := mir_po g
  have hs2 := mir_ns g hs
  have sd := shw_due g2 hn hs2
  unfold lawB_2
  unfold lx manyB at h1 ⊢
  sizeOf_list_dec
  refine s_times (k := k) hn (g2.go.len10 hn) ?_
  rw [times_some (noSide_iff.mpr hs2), rep_ok sd]
  simp only [rt_ap]
  rw [← due_mir g hs, rep_ok sd]
  simp only [rt_ap]
  rw [rep_ne sd]
  sizeOf_list_dec
  exact h1
theorem mir_many (g : PO n ps) (hs : NoSide ps) (hn1 : 1 ≤ n) : (lotsT n (mirL ps)).length = (lotsT n ps).length := by
  have g2 := mir_po g
  have hs2 := mir_ns g hs
  have p1 := lotsT_pos (n := n) (ps := ps) hn1
  have p2 := lotsT_pos (n := n) (ps := mirL ps) hn1
  obtain ⟨w, hw, e⟩ := tm_end g2 hs2 (i := (lotsT n (mirL ps)).length - 1) (by omega)
  obtain ⟨v, hv, e2⟩ := tm_begin (n := n) (ps := ps) (i := 0) (by omega)
  have h1 := tm_le g hs hw
  have h2 := tm_le g2 hs2 hv
  rw [mir_least g hs hw] at e
  rw [mir_least g hs hv] at h2
  simp only at e h2
  omega
theorem l_3 (hn : n ≤ 10) (hn1 : 1 ≤ n) (g : PO n ps) (hs : NoSide ps) (h : ∀ x12, K.nx (lx n ps x2 (manyB n ps) x5 x6 x7 x8 x9 x10 x11 x12)) : execs (CG (k + 4)) lawB_3 (lx n ps x2 (manyB n ps) x5 x6 x7 x8 x9 x10 x11 x12) K := by
  have h2 := l_2 (k := k + 1) (x2 := x2) (x5 := x5) (x6 := x6) (x7 := x7) (x8 := x8) (x9 := x9) (x10 := x10) (x11 := x11) hn hn1 g hs (h _)
  have g2 := mir_po g
  have hs2 := mir_ns g hs
  have so := shw_od (n := n) (by omega) g2.go
  unfold lawB_3
  unfold lx manyB at h2 ⊢
  sizeOf_list_dec
  refine s_mirror (k := k + 3) ?_
  rw [rep_ok so]
  simp only [rt_ap]
  rw [q_sortP, lift_rt]
  sizeOf_list_dec
  rw [show (en ((n : Int), Tu.mk (List.mergeSort (List.map (fun a : Int × Int => (a.2, a.1)) ps) leP)) : D) = en (od n (mirL ps)) from rfl, rep_ok so]
  simp only [rt_ap]
  rw [rep_ne so]
  sizeOf_list_dec
  refine s_span (k := k) g2 hn hn1 ?_
  rw [show (en (spanO n (mirL ps)) : D) = en ((lotsT n ps).length : Int) by unfold spanO; rw [if_pos (noSide_iff.mpr hs2), mir_many g hs hn1]; rfl]
  sizeOf_list_dec
  rw [if_neg (by simp)]
  exact h2
theorem l_4 (hn : n ≤ 10) (hn1 : 1 ≤ n) (g : PO n ps) (hs : NoSide ps) {l : List Int} (hl : l.Pairwise (· < ·)) (hr : ∀ x ∈ l, Rn n x) (h : ∀ x12, K.nx (lx n ps x2 (manyB n ps) x5 x6 x7 x8 (some (.sh (en (Hd.mk l)))) x10 (some (.sh (en (Tu.mk (dueL l.length (partL ps l)))))) x12)) :
    execs (CG (k + 4)) lawB_4 (lx n ps x2 (manyB n ps) x5 x6 x7 x8 (some (.sh (en (Hd.mk l)))) x10 (some (.sh (en (Tu.mk (dueL l.length (partL ps l)))))) x12) K := by
  have h3 := l_3 (k := k) (x2 := x2) (x5 := x5) (x6 := x6) (x7 := x7) (x8 := x8) (x10 := x10) (x12 := x12) hn hn1 g hs h
  unfold lawB_4
  unfold lx manyB at h3 ⊢
  sizeOf_list_dec
  have he : ∀ a ∈ enumT l, Rn l.length a.1 ∧ a.2 = pix l a.1 := fun a ha => by
    have e : enumT l = (rg l.length).map fun w => (w, pix l w) := by rw [← enum_rg, map_pix]
    rw [e] at ha
    obtain ⟨w, hw, rfl⟩ := List.mem_map.mp ha
    exact ⟨mem_rg.mp hw, rfl⟩
  refine ⟨fun a ha => ?_, ?_⟩
  · obtain ⟨h1, h2⟩ := he a ha
    have h4 := hr _ (pix_in h1)
    rw [← h2] at h4
    have i1 : IxOk (dueL l.length (partL ps l)).length a.1 := by rw [dueL_len]; exact ixOk h1.1 h1.2
    have i2 : IxOk (dueL n ps).length a.2 := by rw [dueL_len]; exact ixOk h4.1 h4.2
    exact ⟨i1, i2, fun _ => ⟨i1, i2⟩⟩
  · rw [if_neg]
    · exact h3
    · rw [Bool.not_eq_true, List.any_eq_false]
      intro a ha
      obtain ⟨h1, h2⟩ := he a ha
      have h4 := hr _ (pix_in h1)
      have h5 := part_least g hs hl hr h1
      rw [h2, dueL_at h1, dueL_at h4]
      simp; omega
theorem l_5 (hn : n ≤ 10) (hn1 : 1 ≤ n) (g : PO n ps) (hs : NoSide ps) (h : ∀ x9 x10 x11 x12, K.nx (lx n ps x2 (manyB n ps) x5 x6 x7 x8 x9 x10 x11 x12)) :
    execs (CG (k + 4)) lawB_5 (lx n ps x2 (manyB n ps) x5 x6 x7 x8 x9 x10 x11 x12) K := by
  unfold lawB_5
  unfold lx manyB at h ⊢
  sizeOf_list_dec
  have key : ∀ l : List Int, l.Pairwise (· < ·) → (∀ x ∈ l, Rn n x) → 1 ≤ l.length → shW (CG (k + 4) 7 [B.sh (en (od n ps)), B.sh (en (Hd.mk l))]) fun x =>
      CG (k + 4) 3 [x] fun x =>
        CG (k + 4) 7 [B.sh (en (od n ps)), B.sh (en (Hd.mk l))] fun x_1 =>
          lift (primD Prim.repr [x_1]) fun x_2 =>
            lift (primD Prim.repr [en (od l.length (partL ps l))]) fun x_3 =>
              lift (copD COp.ne x_2 x_3) fun x_4 =>
                lift (truD x_4) fun x_5 =>
                  if x_5 = true then K.rt (en false)
                  else
                    lift (primD Prim.repr [x]) fun x_6 =>
                      CG (k + 4) 15 [B.sh (en (od l.length (partL ps l)))] fun x_7 =>
                        lift (primD Prim.repr [x_7]) fun x_8 =>
                          lift (copD COp.ne x_6 x_8) fun x_9 =>
                            lift (truD x_9) fun t =>
                              if t = true then K.rt (en false)
                              else execs (CG (k + 4)) lawB_4 [none, some B.src, x2, some (B.sh (en (od n ps))), some (B.sh (en ((lotsT n ps).length : Int))), x5, x6, x7, x8, some (B.sh (en (Hd.mk l))), some (B.sh (en (od l.length (partL ps l)))), some (B.sh x), x12, some (B.sh (en (n : Int))), some (B.sh (PyData.str (PyData.shown (en (od n ps))))), some (B.sh (en (Tu.mk (dueL n ps)))), none, none, none, none, none, none] K := by
    intro l hl hr h1
    have h4 := l_4 (k := k) (K := K) (x2 := x2) (x5 := x5) (x6 := x6) (x7 := x7) (x8 := x8) (x10 := some (B.sh (en (od l.length (partL ps l))))) (x12 := x12) hn hn1 g hs hl hr (fun x12 => h _ _ _ _)
    have gp := part_po g hl
    have hsp := part_ns g hs hl hr
    have hln : l.length ≤ 10 := by
      have := len_of_sub l (rg n) (hl.imp fun h e => by omega) fun x hx => mem_rg.mpr (hr x hx)
      rw [rg_len] at this; omega
    have so := shw_od (n := l.length) (by omega) gp.go
    have sd := shw_due gp hln hsp
    unfold lx manyB at h4
    unfold shW
    simp only [bd_ap, rt_ap]
    refine s_part (k := k + 3) (lot := Hd.mk l) ?_
    refine s_times (k := k + 1) hln (gp.go.len10 hln) ?_
    rw [times_some (noSide_iff.mpr hsp)]
    refine s_part (k := k + 3) (lot := Hd.mk l) ?_
    rw [rep_ok so]
    simp only [rt_ap]
    rw [rep_ne so]
    sizeOf_list_dec
    rw [rep_ok sd]
    simp only [rt_ap]
    refine s_least (k := k + 3) gp hsp hln ?_
    rw [show (en (Tu.mk ((rg l.length).map (tmP l.length (partL ps l)))) : D) = en (Tu.mk (dueL l.length (partL ps l))) from rfl, rep_ok sd]
    simp only [rt_ap]
    rw [rep_ne sd]
    sizeOf_list_dec
    exact h4
  refine ⟨rng_ok (by omega), ?_⟩
  rw [rgI_rg]
  refine lcM_sl (fun a ha K2 h1 h2 => ?_) fun bs hbs => ?_
  · try sizeOf_list_dec
    refine s_pick (k := k + 2) (m := 3) (by decide) fun d d1 d2 => ?_
    try sizeOf_list_dec
    split
    · exact h2
    · exact h1
  · rw [show PyData.list (bs.map en) = en bs from rfl, q_tupH, lift_rt]
    simp only [rt_ap]
    rw [show (PyData.tuple [] : D) = en (Tu.mk ([] : List Int)) from rfl, c_neH (by decide), lift_rt]
    sizeOf_list_dec
    have hpw : bs.Pairwise (· < ·) := (rg_srt n).sublist hbs
    have hrn : ∀ x ∈ bs, Rn n x := fun x hx => mem_rg.mp (hbs.subset hx)
    by_cases hb : bs = []
    · rw [show decide (bs = []) = true by rw [hb]; rfl]
      sizeOf_list_dec
      refine s_pick (k := k + 2) (by omega) fun d d1 d2 => ?_
      have hd : Rn n d := ⟨d1, by omega⟩
      rw [h1_en]
      sizeOf_list_dec
      exact ⟨fun a _ h1 h2 => ⟨mb_iff.mp h1, mb_iff.mp h2⟩, key [d] (by simp) (fun x hx => by rw [List.mem_singleton.mp hx]; exact hd) (by simp)⟩
    · rw [show decide (bs = []) = false from decide_eq_false hb]
      sizeOf_list_dec
      exact ⟨fun a _ h1 h2 => ⟨mb_iff.mp h1, mb_iff.mp h2⟩, key bs hpw hrn (List.length_pos_iff.mpr hb)⟩
theorem l_6 (hn : n ≤ 10) (hn1 : 1 ≤ n) (g : PO n ps) (hs : NoSide ps) (h : ∀ x6 x7 x8 x9 x10 x11 x12, nOwn (some x6) = true → K.nx (lx n ps x2 (manyB n ps) x5 x6 x7 x8 x9 x10 x11 x12)) :
    execs (CG (k + 4)) lawB_6 (lx n ps x2 (manyB n ps) x5 x6 x7 x8 x9 x10 x11 x12) K := by
  have h5 := fun (i : Int) x7 x8 => l_5 (k := k) (x2 := x2) (x5 := x5) (x6 := some (.sh (en i))) (x7 := x7) (x8 := x8) (x9 := x9) (x10 := x10) (x11 := x11) (x12 := x12) hn hn1 g hs (fun _ _ _ _ => h _ x7 x8 _ _ _ _ rfl)
  unfold lawB_6
  unfold lx manyB at h5 ⊢
  sizeOf_list_dec
  have hm := lotsT_len (n := n) (ps := ps)
  refine s_pick (k := k + 2) (by omega) fun i i1 i2 => ?_
  sizeOf_list_dec
  refine lcM_each (β := Int × Int) (P := fun p q => q.1 = p.1 - 1 ∧ p.2 ≤ q.2 ∧ q.2 ≤ p.2 + 1) (fun p hp K2 hK2 => ?_) fun ts hts => ?_
  · try sizeOf_list_dec
    refine s_pick (k := k + 2) (m := 2) (by decide) fun d d1 d2 => ?_
    try sizeOf_list_dec
    exact hK2 (p.1 - 1, p.2 + d) ⟨rfl, by show p.2 ≤ p.2 + d; omega, by show p.2 + d ≤ p.2 + 1; omega⟩
  · have hl : ts.length = n := by rw [← a2_lens hts, dueL_len]
    rw [show PyData.list (ts.map en) = en ts from rfl]
    sizeOf_list_dec
    refine ⟨rng_ok (by omega), ?_⟩
    rw [rgI_rg]
    have e1 := @e_lotA (k + 3) n ts hl (i - 2)
    have sl : Shw (en (Tu.mk (lotA n ts (i - 2)))) := shw_fl hn _
    refine ⟨fun a ha => ?_, ?_⟩
    · have ha := mem_rg.mp ha
      have := ixOk ha.1 ha.2
      rw [hl]
      exact ⟨this, fun _ => this⟩
    · rw [e1]
      simp only [rt_ap]
      rw [show (List.filter (fun a => decide ((pix ts a).fst ≤ i - 2) && decide (i - 2 ≤ (pix ts a).snd)) (rg n)) = lotA n ts (i - 2) from rfl, rep_ok sl]
      simp only [rt_ap]
      rw [rep_ne sl]
      sizeOf_list_dec
      exact h5 _ _ _
def Lz (x2 : Option B) (P : Nv → Prop) : Prop := ∀ x3 x4 x5 x6 x7 x8 x9 x10 x11 x12 x13 x14 x15, nOwn (some x6) = true → P [none, some .src, x2, x3, x4, x5, x6, x7, x8, x9, x10, x11, x12, x13, x14, x15, none, none, none, none, none, none]
theorem l_7 (hn : n ≤ 10) (hn1 : 1 ≤ n) (g : PO n ps) (hs : NoSide ps) {x13 x14 x15 : Option B} (hx6 : nOwn (some x6) = true) (h : Lz x2 K.nx) :
    execs (CG (k + 4)) lawB_7 [none, some .src, x2, some (.sh (en (od n ps))), x4, x5, x6, x7, x8, x9, x10, x11, x12, x13, x14, x15, none, none, none, none, none, none] K := by
  have h6 := fun x5 => l_6 (k := k) (x2 := x2) (x5 := x5) (x6 := x6) (x7 := x7) (x8 := x8) (x9 := x9) (x10 := x10) (x11 := x11) (x12 := x12) hn hn1 g hs (fun _ _ _ _ _ _ _ hx => h _ _ _ _ _ _ _ _ _ _ _ _ _ hx)
  have s1 := shw_od (n := n) (by omega) g.go
  unfold lawB_7
  unfold lx manyB at h6
  sizeOf_list_dec
  rw [rep_ok s1]
  simp only [rt_ap]
  refine s_least (k := k + 3) g hs hn ?_
  rw [show (en (Tu.mk ((rg n).map (tmP n ps))) : D) = en (Tu.mk (dueL n ps)) from rfl]
  have et : (dueL n ps).map Prod.snd = (rg n).map fun a => (tmP n ps a).2 := by unfold dueL; rw [List.map_map]; rfl
  have hm := lotsT_len (n := n) (ps := ps)
  sizeOf_list_dec
  rw [et, max_ends g hn1 hs, lift_rt]
  sizeOf_list_dec
  rw [show (1 + (((lotsT n ps).length : Int) - 1)) = (((lotsT n ps).length : Nat) : Int) by omega, rgI_rg, rgI_rg]
  refine ⟨hx6, rng_ok (by omega), fun a _ => ⟨rng_ok (by omega), fun b hb => ?_⟩, ?_⟩
  · have hb := mem_rg.mp hb
    have := ixOk hb.1 hb.2
    rw [dueL_len]
    exact ⟨this, fun _ => this⟩
  · have eL : ((rg (lotsT n ps).length).map fun a => (Tu.mk ((rg n).filter fun b => decide ((pix (dueL n ps) b).1 ≤ a) && decide (a ≤ (pix (dueL n ps) b).2)) : Tu Int)) = (rg (lotsT n ps).length).map fun i => (Tu.mk (latT n ps i) : Tu Int) := List.map_congr_left fun a _ => by
      rw [List.filter_congr fun b hb => by rw [dueL_at (mem_rg.mp hb)]]
      rfl
    have sl := shw_lots (n := n) (ps := ps) hn
    rw [eL]
    refine s_unordered (k := k) g hn hn1 (noSide_iff.mpr hs) ?_
    rw [rep_ok sl]
    simp only [rt_ap]
    rw [rep_ne sl]
    sizeOf_list_dec
    rw [q_sortT0, lift_rt]
    simp only [rt_ap]
    refine s_lawU (k := k + 3) g hn ?_
    rw [q_sortT0, lift_rt]
    simp only [rt_ap]
    rw [sortU_perm (latM_perm g hs hn1), c_ne (by decide), lift_rt]
    sizeOf_list_dec
    rw [if_neg (by simp)]
    exact h6 _
theorem l_8 {x3 x13 x14 x15 : Option B} (hx6 : nOwn (some x6) = true) (h : Lz x2 K.nx) : execs (CG (k + 4)) lawB_8 [none, some .src, x2, x3, x4, x5, x6, x7, x8, x9, x10, x11, x12, x13, x14, x15, none, none, none, none, none, none] K := by
  unfold lawB_8
  sizeOf_list_dec
  refine s_order (k := k + 1) (by decide) (by decide) fun n ps hn1 hn g => ?_
  have hn : n ≤ 10 := by omega
  refine s_lawSide (k := k + 3) (g.go.len10 hn) ?_
  sizeOf_list_dec
  by_cases hs : sideL ps = []
  · rw [show (sideL ps).isEmpty = true by rw [hs]; rfl]
    sizeOf_list_dec
    exact l_7 hn hn1 g (noSide_iff.mp hs) hx6 h
  · rw [show (sideL ps).isEmpty = false by
      cases e : sideL ps with
      | nil => exact absurd e hs
      | cons _ _ => rfl]
    sizeOf_list_dec
    unfold lawB_0
    sizeOf_list_dec
    refine ⟨rng_ok (by omega), ?_⟩
    rw [rgI_rg]
    refine lcM_each (β := Int × Int) (P := fun i p => p.1 = i ∧ i ≤ p.2 ∧ p.2 ≤ i + 3) (fun i hi K2 hK2 => ?_) fun ts hts => ?_
    · try sizeOf_list_dec
      refine s_pick (k := k + 2) (m := 4) (by decide) fun d d1 d2 => ?_
      try sizeOf_list_dec
      have m4 : max (1 : Int) 4 = 4 := by decide
      exact hK2 (i, i + d) ⟨rfl, by show i ≤ i + d; omega, by show i + d ≤ i + 3; omega⟩
    · have hl : ts.length = n := by rw [← a2_lens hts, rg_len]
      have hp : ∀ t ∈ ts, 0 ≤ t.1 ∧ t.1 ≤ t.2 := fun t ht => by
        obtain ⟨i, hi, e⟩ := List.mem_iff_getElem.mp ht
        have hi2 : i < (rg n).length := by rw [rg_len]; omega
        have := a2_at hts i _ _ (List.getElem?_eq_getElem hi2) (List.getElem?_eq_getElem hi)
        rw [e, rg_at] at this
        omega
      rw [show PyData.list (ts.map en) = en ts from rfl]
      refine s_lbt (k := k + 3) (by omega) ?_
      have g2 := btL_po (ts := ts) fun t h => (hp t h).2
      have hs2 := (bt_tms (ts := ts) hp).ns g2
      rw [hl] at g2 ⊢
      exact l_7 hn hn1 g2 hs2 hx6 h
def psL : List (Int × Int) := [(0, 1), (0, 2), (0, 3), (1, 2)]
theorem psL_po : PO 4 psL := by
  refine ⟨⟨show ∀ p ∈ psL, 0 ≤ p.1 ∧ p.1 < ((4 : Nat) : Int) ∧ 0 ≤ p.2 ∧ p.2 < ((4 : Nat) : Int) by decide, by decide⟩, fun a b c h1 h2 => ?_, fun a h => ?_⟩
  · have : ∀ p ∈ psL, ∀ q ∈ psL, p.2 = q.1 → (p.1, q.2) ∈ psL := by decide
    exact this (a, b) h1 (b, c) h2 rfl
  · have : ∀ p ∈ psL, p.1 ≠ p.2 := by decide
    exact this (a, a) h rfl
theorem psL_ns : sideL psL = [] := by decide +kernel
def duL : List (Int × Int) := [(0, 0), (1, 1), (2, 2), (1, 2)]
theorem psL_due : dueL 4 psL = duL := by
  have hs := noSide_iff.mp psL_ns
  have t := tm_ok psL_po hs
  have r4 : ∀ w, Rn 4 w → w ∈ rg 4 := fun w hw => mem_rg.mpr hw
  have x : Tms 4 psL (fun w => (pix duL w).1) (fun w => (pix duL w).2) := by
    refine ⟨fun w hw => ?_, fun a b ha hb h => ?_, fun a b ha hb h => ?_⟩
    · have : ∀ w ∈ rg 4, 0 ≤ (pix duL w).1 := by decide +kernel
      exact this w (r4 w hw)
    · have : ∀ a ∈ rg 4, ∀ b ∈ rg 4, mb (a, b) psL = true → (pix duL a).2 + 1 ≤ (pix duL b).1 := by decide +kernel
      exact this a (r4 a ha) b (r4 b hb) (mb_iff.mpr h)
    · have : ∀ a ∈ rg 4, ∀ b ∈ rg 4, mb (a, b) psL = false → (pix duL b).1 ≤ (pix duL a).2 := by decide +kernel
      exact this a (r4 a ha) b (r4 b hb) (mb_not.mpr h)
  have q0 : Rn 4 0 := by decide
  have q1 : Rn 4 1 := by decide
  have q2 : Rn 4 2 := by decide
  have q3 : Rn 4 3 := by decide
  have a0 := tm_least psL_po hs x q0
  have a1 := tm_least psL_po hs x q1
  have a2 := tm_least psL_po hs x q2
  have a3 := tm_least psL_po hs x q3
  have b0 : 0 ≤ (tmP 4 psL 0).1 := t.ge 0 q0
  have c00 : (tmP 4 psL 0).1 ≤ (tmP 4 psL 0).2 := t.le 0 0 q0 q0 (by decide)
  have c01 : (tmP 4 psL 0).2 + 1 ≤ (tmP 4 psL 1).1 := t.lt 0 1 q0 q1 (by decide)
  have c11 : (tmP 4 psL 1).1 ≤ (tmP 4 psL 1).2 := t.le 1 1 q1 q1 (by decide)
  have c12 : (tmP 4 psL 1).2 + 1 ≤ (tmP 4 psL 2).1 := t.lt 1 2 q1 q2 (by decide)
  have c22 : (tmP 4 psL 2).1 ≤ (tmP 4 psL 2).2 := t.le 2 2 q2 q2 (by decide)
  have c03 : (tmP 4 psL 0).2 + 1 ≤ (tmP 4 psL 3).1 := t.lt 0 3 q0 q3 (by decide)
  have c32 : (tmP 4 psL 2).1 ≤ (tmP 4 psL 3).2 := t.le 3 2 q3 q2 (by decide)
  have p0 : pix duL 0 = (0, 0) := rfl
  have p1 : pix duL 1 = (1, 1) := rfl
  have p2 : pix duL 2 = (2, 2) := rfl
  have p3 : pix duL 3 = (1, 2) := rfl
  simp only [p0, p1, p2, p3] at a0 a1 a2 a3
  show [tmP 4 psL 0, tmP 4 psL 1, tmP 4 psL 2, tmP 4 psL 3] = [(0, 0), (1, 1), (2, 2), (1, 2)]
  have e0 : tmP 4 psL 0 = (0, 0) := Prod.ext (by show _ = (0 : Int); omega) (by show _ = (0 : Int); omega)
  have e1 : tmP 4 psL 1 = (1, 1) := Prod.ext (by show _ = (1 : Int); omega) (by show _ = (1 : Int); omega)
  have e2 : tmP 4 psL 2 = (2, 2) := Prod.ext (by show _ = (2 : Int); omega) (by show _ = (2 : Int); omega)
  have e3 : tmP 4 psL 3 = (1, 2) := Prod.ext (by show _ = (1 : Int); omega) (by show _ = (2 : Int); omega)
  rw [e0, e1, e2, e3]
theorem psL_len : (lotsT 4 psL).length = 3 := by
  have hs := noSide_iff.mp psL_ns
  have hd := psL_due
  have m : max_ends psL_po (by decide) hs = max_ends psL_po (by decide) hs := rfl
  have h1 := tm_end psL_po hs (i := (lotsT 4 psL).length - 1) (by have := lotsT_pos (n := 4) (ps := psL) (by decide); omega)
  obtain ⟨w, hw, e⟩ := h1
  have h2 := tm_le psL_po hs (w := 2) (by decide)
  have h3 := dueL_at (n := 4) (ps := psL) hw
  have h4 := dueL_at (n := 4) (ps := psL) (w := 2) (by decide)
  rw [hd] at h3 h4
  have h5 : (tmP 4 psL 2).2 = 2 := by rw [← h4]; rfl
  have h6 : (tmP 4 psL w).2 ≤ 2 := by
    rw [← h3]
    have : ∀ w ∈ rg 4, (pix duL w).2 ≤ 2 := by decide +kernel
    exact this w (mem_rg.mpr hw)
  have := lotsT_pos (n := 4) (ps := psL) (by decide)
  omega
theorem law_true : execs (callF (progOf rows) 30) lawB (rho0 lawN 1) (koF (fun d => d = .bool true)) := by
  rw [show rho0 lawN 1 = [none, some .src, none, none, none, none, none, none, none, none, none, none, none, none, none, none, none, none, none, none, none, none] from rfl]
  show execs (CG 30) _ _ _
  unfold lawB
  sizeOf_list_dec
  refine ⟨rng_ok (n := 6) (by decide), ?_⟩
  refine forL_inv (fun _ ρ => ∃ x2 x3 x4 x5 x6 x7 x8 x9 x10 x11 x12 x13 x14 x15 : Option B, ρ = [none, some .src, x2, x3, x4, x5, x6, x7, x8, x9, x10, x11, x12, x13, x14, x15, none, none, none, none, none, none] ∧ nOwn (some x6) = true) (done := []) ⟨none, none, none, none, none, none, none, none, none, none, none, none, none, none, rfl, rfl⟩ ?_ ?_
  · rintro done a r ρ e ⟨x2, x3, x4, x5, x6, x7, x8, x9, x10, x11, x12, x13, x14, x15, rfl, hx6⟩ K hK
    sizeOf_list_dec
    exact l_8 (k := 26) hx6 fun x3 x4 x5 x6 x7 x8 x9 x10 x11 x12 x13 x14 x15 hx => hK _ ⟨_, _, _, _, _, _, _, _, _, _, _, _, _, _, rfl, hx⟩
  · rintro ρ ⟨x2, x3, x4, x5, x6, x7, x8, x9, x10, x11, x12, x13, x14, x15, rfl, hx6⟩
    unfold lawB_9
    sizeOf_list_dec
    rw [show PyData.tuple [en (4 : Int), PyData.tuple [en ((0 : Int), (1 : Int)), en ((0 : Int), (2 : Int)), en ((0 : Int), (3 : Int)), en ((1 : Int), (2 : Int))]] = en (od 4 psL) from rfl]
    refine s_unordered (k := 26) psL_po (by decide) (by decide) psL_ns ?_
    have e0 : ∀ i, latT 4 psL i = (rg 4).filter fun w => decide ((pix duL w).1 ≤ i) && decide (i ≤ (pix duL w).2) := fun i => by
      unfold latT
      refine List.filter_congr fun w hw => ?_
      rw [← dueL_at (mem_rg.mp hw), psL_due]
    have e1 : ((rg (lotsT 4 psL).length).map fun i => (Tu.mk (latT 4 psL i) : Tu Int)) = [⟨[0]⟩, ⟨[1, 3]⟩, ⟨[2, 3]⟩] := by
      rw [psL_len]
      show [Tu.mk (latT 4 psL 0), Tu.mk (latT 4 psL 1), Tu.mk (latT 4 psL 2)] = _
      rw [e0, e0, e0]
      decide +kernel
    rw [e1, show PyData.tuple [en (Tu.mk [(0 : Int)]), en ((1 : Int), (3 : Int)), en ((2 : Int), (3 : Int))] = en (Tu.mk [(⟨[0]⟩ : Tu Int), ⟨[1, 3]⟩, ⟨[2, 3]⟩]) from rfl, c_eq (by decide), lift_rt]
    simp only [rt_ap]
    rfl
end
end
/-! K14l: the law (K14k) -/
set_option maxHeartbeats 4000000
/-! K14c: the law's proof put together. -/
section
open PySem L2 PySem.Spec PyProof.Rows
theorem bd0 : BdOk "earlier_lot" (topS 1) (["order", "work"]) := fun _ _ _ _ _ _ us hl => match us, hl with | [_, _], _ => rfl
theorem bd1 : BdOk "side_pairs" (topS 2) (["order"]) := fun _ _ _ _ _ _ us hl => match us, hl with | [_], _ => rfl
theorem bd2 : BdOk "has_times" (topS 3) (["order"]) := fun _ _ _ _ _ _ us hl => match us, hl with | [_], _ => rfl
theorem bd3 : BdOk "least_times" (topS 4) (["order"]) := fun _ _ _ _ _ _ us hl => match us, hl with | [_], _ => rfl
theorem bd4 : BdOk "span_of" (topS 5) (["order"]) := fun _ _ _ _ _ _ us hl => match us, hl with | [_], _ => rfl
theorem bd5 : BdOk "lot_at" (topS 7) (["times", "i"]) := fun _ _ _ _ _ _ us hl => match us, hl with | [_, _], _ => rfl
theorem bd6 : BdOk "unordered_lots" (topS 8) (["order"]) := fun _ _ _ _ _ _ us hl => match us, hl with | [_], _ => rfl
theorem bd7 : BdOk "part_on" (topS 9) (["order", "lot"]) := fun _ _ _ _ _ _ us hl => match us, hl with | [_, _], _ => rfl
theorem bd8 : BdOk "mirrored_order" (topS 10) (["order"]) := fun _ _ _ _ _ _ us hl => match us, hl with | [_], _ => rfl
theorem bd9 : BdOk "_law_pick" (topS 13) (["source", "many"]) := fun _ _ _ _ _ _ us hl => match us, hl with | [_, _], _ => rfl
theorem bd10 : BdOk "_law_mixed" (topS 14) (["source", "things"]) := fun _ _ _ _ _ _ us hl => match us, hl with | [_, _], _ => rfl
theorem bd11 : BdOk "_law_closed" (topS 15) (["n", "pairs"]) := fun _ _ _ _ _ _ us hl => match us, hl with | [_, _], _ => rfl
theorem bd12 : BdOk "_law_by_times" (topS 16) (["times"]) := fun _ _ _ _ _ _ us hl => match us, hl with | [_], _ => rfl
theorem bd13 : BdOk "_law_order" (topS 17) (["source", "most"]) := fun _ _ _ _ _ _ us hl => match us, hl with | [_, _], _ => rfl
theorem bd14 : BdOk "_law_side_pairs" (topS 18) (["order"]) := fun _ _ _ _ _ _ us hl => match us, hl with | [_], _ => rfl
theorem bd15 : BdOk "_law_least" (topS 19) (["order"]) := fun _ _ _ _ _ _ us hl => match us, hl with | [_], _ => rfl
theorem bd16 : BdOk "_law_unordered" (topS 20) (["order"]) := fun _ _ _ _ _ _ us hl => match us, hl with | [_], _ => rfl
theorem bdS : BdOk "_law_source" (topS 12) (["script"]) := fun _ _ _ _ _ _ us hl => match us, hl with | [_], _ => rfl
theorem bdL : BdOk "law" (topS 21) (["script"]) := fun _ _ _ _ _ _ us hl => match us, hl with | [_], _ => rfl
theorem bds : ∀ r ∈ rows, BdOk r.nm r.st r.ps := by
  intro r hr
  simp only [rows, List.mem_cons, List.not_mem_nil, or_false] at hr
  rcases hr with rfl | rfl | rfl | rfl | rfl | rfl | rfl | rfl | rfl | rfl | rfl | rfl | rfl | rfl | rfl | rfl | rfl
  · exact bd0
  · exact bd1
  · exact bd2
  · exact bd3
  · exact bd4
  · exact bd5
  · exact bd6
  · exact bd7
  · exact bd8
  · exact bd9
  · exact bd10
  · exact bd11
  · exact bd12
  · exact bd13
  · exact bd14
  · exact bd15
  · exact bd16
theorem rws {K : PySem.W.Frag} (L0 : Lk K "earlier_lot" (topS 1)) (L1 : Lk K "side_pairs" (topS 2)) (L2 : Lk K "has_times" (topS 3)) (L3 : Lk K "least_times" (topS 4)) (L4 : Lk K "span_of" (topS 5)) (L5 : Lk K "lot_at" (topS 7)) (L6 : Lk K "unordered_lots" (topS 8)) (L7 : Lk K "part_on" (topS 9)) (L8 : Lk K "mirrored_order" (topS 10)) (L9 : Lk K "_law_pick" (topS 13)) (L10 : Lk K "_law_mixed" (topS 14)) (L11 : Lk K "_law_closed" (topS 15)) (L12 : Lk K "_law_by_times" (topS 16)) (L13 : Lk K "_law_order" (topS 17)) (L14 : Lk K "_law_side_pairs" (topS 18)) (L15 : Lk K "_law_least" (topS 19)) (L16 : Lk K "_law_unordered" (topS 20)) : Rws K rows := by
  intro r hr
  simp only [rows, List.mem_cons, List.not_mem_nil, or_false] at hr
  rcases hr with rfl | rfl | rfl | rfl | rfl | rfl | rfl | rfl | rfl | rfl | rfl | rfl | rfl | rfl | rfl | rfl | rfl
  · exact L0
  · exact L1
  · exact L2
  · exact L3
  · exact L4
  · exact L5
  · exact L6
  · exact L7
  · exact L8
  · exact L9
  · exact L10
  · exact L11
  · exact L12
  · exact L13
  · exact L14
  · exact L15
  · exact L16
theorem zs_mk {K : PySem.W.Frag} {h : Heap} {mg : Str → Option Value} (X : K.In h) (G : h.Ns mainGlobals mg) (z0 : PySem.W.nsIn K mainGlobals "len" = some none) (z1 : PySem.W.nsIn K mainGlobals "tuple" = some none) (z2 : PySem.W.nsIn K mainGlobals "list" = some none) (z3 : PySem.W.nsIn K mainGlobals "sorted" = some none) (z4 : PySem.W.nsIn K mainGlobals "sum" = some none) (z5 : PySem.W.nsIn K mainGlobals "max" = some none) (z6 : PySem.W.nsIn K mainGlobals "min" = some none) (z7 : PySem.W.nsIn K mainGlobals "abs" = some none) (z8 : PySem.W.nsIn K mainGlobals "all" = some none) (z9 : PySem.W.nsIn K mainGlobals "any" = some none) (z10 : PySem.W.nsIn K mainGlobals "int" = some none) (z11 : PySem.W.nsIn K mainGlobals "repr" = some none) (z12 : PySem.W.nsIn K mainGlobals "range" = some none) (z13 : PySem.W.nsIn K mainGlobals "isinstance" = some none) (z14 : PySem.W.nsIn K mainGlobals "dict" = some none) (z15 : PySem.W.nsIn K mainGlobals "zip" = some none) (z16 : PySem.W.nsIn K mainGlobals "enumerate" = some none) (z17 : PySem.W.nsIn K mainGlobals "reversed" = some none) (z18 : PySem.W.nsIn K mainGlobals "str" = some none) (z19 : PySem.W.nsIn K mainGlobals "set" = some none) (z20 : PySem.W.nsIn K mainGlobals "bool" = some none) : ∀ x ∈ bltNames, mg x = none := by
  intro x hx
  simp only [bltNames, List.mem_cons, List.not_mem_nil, or_false] at hx
  rcases hx with rfl | rfl | rfl | rfl | rfl | rfl | rfl | rfl | rfl | rfl | rfl | rfl | rfl | rfl | rfl | rfl | rfl | rfl | rfl | rfl | rfl
  · exact PySem.W.mg_none_of X G z0
  · exact PySem.W.mg_none_of X G z1
  · exact PySem.W.mg_none_of X G z2
  · exact PySem.W.mg_none_of X G z3
  · exact PySem.W.mg_none_of X G z4
  · exact PySem.W.mg_none_of X G z5
  · exact PySem.W.mg_none_of X G z6
  · exact PySem.W.mg_none_of X G z7
  · exact PySem.W.mg_none_of X G z8
  · exact PySem.W.mg_none_of X G z9
  · exact PySem.W.mg_none_of X G z10
  · exact PySem.W.mg_none_of X G z11
  · exact PySem.W.mg_none_of X G z12
  · exact PySem.W.mg_none_of X G z13
  · exact PySem.W.mg_none_of X G z14
  · exact PySem.W.mg_none_of X G z15
  · exact PySem.W.mg_none_of X G z16
  · exact PySem.W.mg_none_of X G z17
  · exact PySem.W.mg_none_of X G z18
  · exact PySem.W.mg_none_of X G z19
  · exact PySem.W.mg_none_of X G z20
theorem only_lam : (rows.all fun r => !(srtRow r) || decide (r.nm = ("least_times" : Str))) = true := by decide +kernel
theorem law_no : srtSs lawB = false := by decide +kernel
theorem all_mk {τ : Tb} {P : Program} {w : World} {K : PySem.W.Frag} {h : Heap} {mg : Str → Option Value} {fa : Addr} (X : K.In h) (G : h.Ns mainGlobals mg) (hfa : mg "law" = some (.ref fa)) (R : Rws K rows) (LS : Lk K "_law_source" (topS 12)) (LL : Lk K "law" (topS 21)) (hb : ∀ x ∈ bltNames, mg x = none) :
    ∃ fd : FuncData, (∀ (s : Shared) (v : Value), BindsTo s fd ⟨[v], []⟩ [("script", v)]) ∧ ∀ base : Heap, TopH K mg base → LamTb K mg base "least_times" → FnG P w K mg base 31 fa fd ["script"] (spLaw K) := by
  obtain ⟨fL, fdL, FL, gL, bL⟩ := LL.fn X G bdL
  obtain ⟨fS, fdS, FS, gS, bS⟩ := LS.fn X G bdS
  have e : fa = fL := by rw [hfa] at gL; cases gL; rfl
  subst e
  have laid := laid_of X G R bds
  have hx : ∀ (base : Heap) (sm : ∃ o, base.get? sysModules = some o) (f k : Nat) (r : Row) (np : Nat) (sem : List B → W D), rows[f]? = some r → r.fn = .ext np sem → Kept P w K mg base rows k → ∀ a fd, Fun K r.nm r.nm r.st a fd → mg r.nm = some (.ref a) → FnG P w K mg base (k + 1) a fd r.ps (spC (callF (progOf rows) (k + 1)) f) := by
    intro base sm f k r np sem hf he hk a fd F hm
    have hC : ∀ bs Q, callF (progOf rows) (k + 1) f bs Q → 1 ≤ k ∧ bs.length = np ∧ sem bs Q := by
      intro bs Q c
      have hp : (progOf rows)[f]? = some (.ext np sem) := by unfold progOf; rw [List.getElem?_map, hf]; simp [he]
      unfold callF at c
      simp only [hp] at c
      exact ⟨c.2.1, c.1, c.2.2⟩
    have len : ∀ (vs : List V) (H : Hp) (Q : VK) (E : XK), spC (callF (progOf rows) (k + 1)) f vs H Q E → vs.length = np := fun vs H Q E ⟨S, Z, bs, Q0, _, _, _, h4, h5, _⟩ => by
      rw [h4.length]; exact (hC _ _ h5).2.1
    have hmem : f < rows.length := by
      rcases Nat.lt_or_ge f rows.length with q | q
      · exact q
      · rw [List.getElem?_eq_none q] at hf; cases hf
    match f, hmem with
    | 0, _ => have e : r = r0 := (Option.some.inj hf).symm; subst e; cases he
    | 1, _ => have e : r = r1 := (Option.some.inj hf).symm; subst e; cases he
    | 2, _ => have e : r = r2 := (Option.some.inj hf).symm; subst e; cases he
    | 3, _ => have e : r = r3 := (Option.some.inj hf).symm; subst e; cases he
    | 4, _ => have e : r = r4 := (Option.some.inj hf).symm; subst e; cases he
    | 5, _ => have e : r = r5 := (Option.some.inj hf).symm; subst e; cases he
    | 6, _ => have e : r = r6 := (Option.some.inj hf).symm; subst e; cases he
    | 7, _ => have e : r = r7 := (Option.some.inj hf).symm; subst e; cases he
    | 8, _ => have e : r = r8 := (Option.some.inj hf).symm; subst e; cases he
    | 9, _ =>
      have e : r = r9 := (Option.some.inj hf).symm
      subst e
      cases he
      exact pick_fn F hb len hC
    | 10, _ =>
      have e : r = r10 := (Option.some.inj hf).symm
      subst e
      cases he
      exact mixed_fn laid F hb len hC
    | 11, _ => have e : r = r11 := (Option.some.inj hf).symm; subst e; cases he
    | 12, _ => have e : r = r12 := (Option.some.inj hf).symm; subst e; cases he
    | 13, _ => have e : r = r13 := (Option.some.inj hf).symm; subst e; cases he
    | 14, _ => have e : r = r14 := (Option.some.inj hf).symm; subst e; cases he
    | 15, _ => have e : r = r15 := (Option.some.inj hf).symm; subst e; cases he
    | 16, _ => have e : r = r16 := (Option.some.inj hf).symm; subst e; cases he
  refine ⟨fdL, ?_, fun base T HL => ?_⟩
  · intro s v
    obtain ⟨oc, od, kV, doc, pm, an, cdv, ct, osl, e, _⟩ := FL.ex
    subst e
    exact .of_eq rfl
  · have kept := all_kept (P := P) (w := w) laid rows_ok (fun r hr q a fd F hm => by
      have e : r.nm = ("least_times" : Str) := by
        have := List.all_eq_true.mp only_lam r hr
        rw [q] at this
        exact of_decide_eq_true (by simpa using this)
      rw [e] at F hm ⊢
      exact HL a fd ⟨_, F⟩ hm) T.smod hb (hx base T.smod)
    have lk := law_ok
    rw [Bool.and_eq_true] at lk
    exact law_fn FL lk.1 (fun q => absurd q (by rw [law_no]; decide)) rfl lk.2 rfl rfl (by decide +kernel) (by decide +kernel) (by decide +kernel) (by decide +kernel) FS bS gS (ok_source FS hb) T.smod hb (kept 30) law_true
end
end PD
open PySem PySem.W PyProof.Rows
set_option maxHeartbeats 0 in
theorem PySem.Challenge.cw_eachorder_k14_whole_lots_at_a_time_holds : PySem.Challenge.rw_eachorder_k14_whole_lots_at_a_time.Holds := by
  w_on; o_law; k_head; (case hw => w_witness2)
  k_fill
  refine PD.walkG1 (l := PySem.Challenge.rw_eachorder_k14_whole_lots_at_a_time) (n := 63) (k := 31) (x := "script") "least_times" _ rfl (by decide) rfl ⟨rfl, by decide, by decide⟩ (by decide +kernel) rfl (fun w h Y => PySem.W.km_in_of Y) ?F
  case F =>
    intro w mg fa h KX G hmg
    have hL0 : PD.Lk (_root_.L2.KOf KX) "earlier_lot" (PD.topS 1) := by refine' PD.lk_mk KX ?a ?l ?c ?k; (case a => k_is); (case l => k_is); (case c => k_is); (case k => k_is)
    have hL1 : PD.Lk (_root_.L2.KOf KX) "side_pairs" (PD.topS 2) := by refine' PD.lk_mk KX ?a ?l ?c ?k; (case a => k_is); (case l => k_is); (case c => k_is); (case k => k_is)
    have hL2 : PD.Lk (_root_.L2.KOf KX) "has_times" (PD.topS 3) := by refine' PD.lk_mk KX ?a ?l ?c ?k; (case a => k_is); (case l => k_is); (case c => k_is); (case k => k_is)
    have hL3 : PD.Lk (_root_.L2.KOf KX) "least_times" (PD.topS 4) := by refine' PD.lk_mk KX ?a ?l ?c ?k; (case a => k_is); (case l => k_is); (case c => k_is); (case k => k_is)
    have hL4 : PD.Lk (_root_.L2.KOf KX) "span_of" (PD.topS 5) := by refine' PD.lk_mk KX ?a ?l ?c ?k; (case a => k_is); (case l => k_is); (case c => k_is); (case k => k_is)
    have hL5 : PD.Lk (_root_.L2.KOf KX) "lot_at" (PD.topS 7) := by refine' PD.lk_mk KX ?a ?l ?c ?k; (case a => k_is); (case l => k_is); (case c => k_is); (case k => k_is)
    have hL6 : PD.Lk (_root_.L2.KOf KX) "unordered_lots" (PD.topS 8) := by refine' PD.lk_mk KX ?a ?l ?c ?k; (case a => k_is); (case l => k_is); (case c => k_is); (case k => k_is)
    have hL7 : PD.Lk (_root_.L2.KOf KX) "part_on" (PD.topS 9) := by refine' PD.lk_mk KX ?a ?l ?c ?k; (case a => k_is); (case l => k_is); (case c => k_is); (case k => k_is)
    have hL8 : PD.Lk (_root_.L2.KOf KX) "mirrored_order" (PD.topS 10) := by refine' PD.lk_mk KX ?a ?l ?c ?k; (case a => k_is); (case l => k_is); (case c => k_is); (case k => k_is)
    have hL9 : PD.Lk (_root_.L2.KOf KX) "_law_pick" (PD.topS 13) := by refine' PD.lk_mk KX ?a ?l ?c ?k; (case a => k_is); (case l => k_is); (case c => k_is); (case k => k_is)
    have hL10 : PD.Lk (_root_.L2.KOf KX) "_law_mixed" (PD.topS 14) := by refine' PD.lk_mk KX ?a ?l ?c ?k; (case a => k_is); (case l => k_is); (case c => k_is); (case k => k_is)
    have hL11 : PD.Lk (_root_.L2.KOf KX) "_law_closed" (PD.topS 15) := by refine' PD.lk_mk KX ?a ?l ?c ?k; (case a => k_is); (case l => k_is); (case c => k_is); (case k => k_is)
    have hL12 : PD.Lk (_root_.L2.KOf KX) "_law_by_times" (PD.topS 16) := by refine' PD.lk_mk KX ?a ?l ?c ?k; (case a => k_is); (case l => k_is); (case c => k_is); (case k => k_is)
    have hL13 : PD.Lk (_root_.L2.KOf KX) "_law_order" (PD.topS 17) := by refine' PD.lk_mk KX ?a ?l ?c ?k; (case a => k_is); (case l => k_is); (case c => k_is); (case k => k_is)
    have hL14 : PD.Lk (_root_.L2.KOf KX) "_law_side_pairs" (PD.topS 18) := by refine' PD.lk_mk KX ?a ?l ?c ?k; (case a => k_is); (case l => k_is); (case c => k_is); (case k => k_is)
    have hL15 : PD.Lk (_root_.L2.KOf KX) "_law_least" (PD.topS 19) := by refine' PD.lk_mk KX ?a ?l ?c ?k; (case a => k_is); (case l => k_is); (case c => k_is); (case k => k_is)
    have hL16 : PD.Lk (_root_.L2.KOf KX) "_law_unordered" (PD.topS 20) := by refine' PD.lk_mk KX ?a ?l ?c ?k; (case a => k_is); (case l => k_is); (case c => k_is); (case k => k_is)
    have hLS : PD.Lk (_root_.L2.KOf KX) "_law_source" (PD.topS 12) := by refine' PD.lk_mk KX ?a ?l ?c ?k; (case a => k_is); (case l => k_is); (case c => k_is); (case k => k_is)
    have hLL : PD.Lk (_root_.L2.KOf KX) "law" (PD.topS 21) := by refine' PD.lk_mk KX ?a ?l ?c ?k; (case a => k_is); (case l => k_is); (case c => k_is); (case k => k_is)
    refine' ⟨37, 35, by kernel_rfl, by kernel_rfl, ?v⟩
    refine PD.all_mk KX G hmg (PD.rws hL0 hL1 hL2 hL3 hL4 hL5 hL6 hL7 hL8 hL9 hL10 hL11 hL12 hL13 hL14 hL15 hL16) hLS hLL ?Z
    refine' PD.zs_mk KX G ?z0 ?z1 ?z2 ?z3 ?z4 ?z5 ?z6 ?z7 ?z8 ?z9 ?z10 ?z11 ?z12 ?z13 ?z14 ?z15 ?z16 ?z17 ?z18 ?z19 ?z20
    all_goals k_is
