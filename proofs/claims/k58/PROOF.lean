import PyProof.Rows.All
import Wide.All
import OpenK.AllK
import Wide.FinOn
import HandS.ForMost
import HandS.ForExc
import HandS.Defaults
import HandS.Wide
import HandS.IsInst
import HandS.TupLe
import HandS.TupAny
import HandS.TupMul
import HandS.Flow
import HandS.TryMany
import HandS.ExcIs
import HandS.Head0
import HandS.Head1
import HandS.Head2
import HandS.HeadEnd
import HandS.HeadHook1
import HandS.HeadHook2
import HandS.Ends
import HandS.Conv
import HandS.Deep
import HandS.Iter
import HandS.More
import KE.SortData
import HandS.Dict
import HandS.CallSlots
import HandS.SetFor
import HandS.FStr
import HandS.TryOnly
import HandS.HeadHook3
import PySem.Challenge.RW_tithebarn_k58_whole_pens_only_grow
set_option Elab.async false
set_option linter.all false
set_option maxRecDepth 100000
set_option maxHeartbeats 4000000
/-! The value layer, part 1: what is owned, what is frozen, the relation between slots and plain data. -/
namespace VL
open PySem L2

noncomputable section
/-- an if that no evaluation looks into -/
def cIf {α : Type} (p : Prop) (a b : α) : α := @ite α p (Classical.propDecidable p) a b
theorem cIf_pos {α : Type} {p : Prop} {a b : α} (h : p) : cIf p a b = a := if_pos h
theorem cIf_neg {α : Type} {p : Prop} {a b : α} (h : ¬ p) : cIf p a b = b := if_neg h
theorem cIf_true {α : Type} {a b : α} : cIf True a b = a := cIf_pos trivial
theorem cIf_false {α : Type} {a b : α} : cIf False a b = b := cIf_neg id
end
/-- fixed values of slots; what the mirror leans on: the module's names, what is known of the fixed values -/
structure Pv where
  p : Nat → Option V
  x : Nat → Option V
instance : CoeFun Pv (fun _ => Nat → Option V) := ⟨Pv.p⟩
structure Cg where
  f : Str → Option Value
  Z : Pv → Prop
instance : Coe Cg (Str → Option Value) := ⟨Cg.f⟩
instance : CoeFun Cg (fun _ => Str → Option Value) := ⟨Cg.f⟩
/-- the kinds of an owned node with owned parts -/
inductive Kd where
  | ins (c : Str) (names : List Str)
  | dk (keys : List Key)
  | ls
  | tp
/-- plain data that is owned: it may be changed in place -/
inductive OD where
  | dat (d : PyData)
  | lst (ds : List PyData)
  | dk (kvs : List (Key × PyData))
  | dt (kvs : List (List Key × PyData))
  | nd (k : Kd) (os : List OD)
  | scr (ns : List Int)
  | exc
  | tk (ks : List Key)
  | fz (k : Kd) (os : List OD)
inductive Sl where
  | no | v (o : OD) | pin (o : OD) | al (i j : Nat) | xc
abbrev Gm := List Sl
/-- an exception: its class, the fields of its own -/
structure Er where
  c : Str
  xs : List (Str × PyData)
inductive Out (α : Type) where
  | ok (a : α) (g : Gm) | err (e : Er) (g : Gm) | stk
inductive SOut where
  | nx (g : Gm) | rt (o : OD) (g : Gm) | br (g : Gm) | ct (g : Gm) | err (e : Er) (g : Gm) | stk
/-- a result without a change of the slots -/
inductive Res (α : Type) where
  | ok (a : α) | err (e : Er) | stk

def gt : Gm → Nat → Sl
  | [], _ => .no
  | s :: _, 0 => s
  | _ :: r, n + 1 => gt r n
def st : Gm → Nat → Sl → Gm
  | [], _, _ => []
  | _ :: r, 0, s => s :: r
  | a :: r, n + 1, s => a :: st r n s
theorem st_len : ∀ (g : Gm) (i : Nat) (s : Sl), (st g i s).length = g.length
  | [], _, _ => rfl
  | _ :: _, 0, _ => rfl
  | _ :: r, n + 1, s => congrArg Nat.succ (st_len r n s)
theorem gt_st : ∀ {g : Gm} {i : Nat} {s : Sl}, i < g.length → gt (st g i s) i = s
  | [], _, _, h => absurd h (Nat.not_lt_zero _)
  | _ :: _, 0, _, _ => rfl
  | _ :: r, n + 1, s, h => gt_st (g := r) (i := n) (s := s) (Nat.lt_of_succ_lt_succ h)
theorem gt_st_ne : ∀ {g : Gm} {i j : Nat} {s : Sl}, j ≠ i → gt (st g i s) j = gt g j
  | [], _, _, _, _ => rfl
  | _ :: _, 0, 0, _, h => absurd rfl h
  | _ :: _, 0, _ + 1, _, _ => rfl
  | _ :: _, _ + 1, 0, _, _ => rfl
  | _ :: r, n + 1, m + 1, s, h => gt_st_ne (g := r) (i := n) (j := m) (s := s) (fun e => h (congrArg Nat.succ e))
theorem gt_lt : ∀ {g : Gm} {i : Nat}, gt g i ≠ .no → i < g.length
  | [], _, h => absurd rfl h
  | _ :: _, 0, _ => Nat.succ_pos _
  | _ :: r, n + 1, h => Nat.succ_lt_succ (gt_lt (g := r) (i := n) h)

/-! ### data under a growing heap -/
theorem rd_mono {F F' : Hp} (e : Same F F') {a : Addr} {u : HO} (h : Rd F a u) : Rd F' a u := by
  rcases h with h | ⟨o, h⟩
  · exact .inl (e _ _ h)
  · exact .inr ⟨o, e _ _ h⟩
theorem sql_mono {K : PySem.W.Frag} {F F' : Hp} (e : Same F F') {a : Addr} {xs : List V} (h : SqL K F a xs) : SqL K F' a xs := by
  rcases h with h | h
  · exact .inl (rd_mono e h)
  · exact .inr h
theorem sqt_mono {K : PySem.W.Frag} {F F' : Hp} (e : Same F F') {a : Addr} {xs : List V} (h : SqT K F a xs) : SqT K F' a xs := by
  rcases h with h | h
  · exact .inl (rd_mono e h)
  · exact .inr h
mutual
/-- a value over the frozen heap is that data -/
inductive Dq (K : PySem.W.Frag) (F : Hp) : V → PyData → Prop
  | non : Dq K F .non .none
  | bl (b : Bool) : Dq K F (.bl b) (.bool b)
  | int (i : Int) : Dq K F (.int i) (.int i)
  | str (x : Str) : Dq K F (.str x) (.str x)
  | lst {a : Addr} {xs : List V} {ds : List PyData} : F a = some (.lst xs) → DqA K F xs ds → Dq K F (.ref a) (.list ds)
  | tup {a : Addr} {xs : List V} {ds : List PyData} : SqT K F a xs → DqA K F xs ds → Dq K F (.ref a) (.tuple ds)
inductive DqA (K : PySem.W.Frag) (F : Hp) : List V → List PyData → Prop
  | nil : DqA K F [] []
  | cons {v : V} {vs : List V} {d : PyData} {ds : List PyData} : Dq K F v d → DqA K F vs ds → DqA K F (v :: vs) (d :: ds)
end
mutual
theorem Dq.mo {K : PySem.W.Frag} {F F' : Hp} (e : Same F F') : ∀ (d : PyData) {v : V}, Dq K F v d → Dq K F' v d
  | .none, _, h => by
    cases h
    exact .non
  | .bool b, _, h => by
    cases h
    exact .bl b
  | .int i, _, h => by
    cases h
    exact .int i
  | .str x, _, h => by
    cases h
    exact .str x
  | .list ds, _, h => by
    cases h with
    | lst h1 h2 => exact .lst (e _ _ h1) (DqA.mo e ds h2)
  | .tuple ds, _, h => by
    cases h with
    | tup h1 h2 => exact .tup (sqt_mono e h1) (DqA.mo e ds h2)
  | .dict _, _, h => by cases h
theorem DqA.mo {K : PySem.W.Frag} {F F' : Hp} (e : Same F F') : ∀ (ds : List PyData) {vs : List V}, DqA K F vs ds → DqA K F' vs ds
  | [], _, h => by
    cases h
    exact .nil
  | d :: ds, _, h => by
    cases h with
    | cons h1 h2 => exact .cons (Dq.mo e d h1) (DqA.mo e ds h2)
end
theorem dp_mo {K : PySem.W.Frag} {F F' : Hp} {v : V} {d : PyData} (h : Dq K F v d) (e : Same F F') : Dq K F' v d := Dq.mo e d h
theorem dpa_mo {K : PySem.W.Frag} {F F' : Hp} {vs : List V} {ds : List PyData} (h : DqA K F vs ds) (e : Same F F') : DqA K F' vs ds := DqA.mo e ds h
theorem dpa_len {K : PySem.W.Frag} {F : Hp} : ∀ {vs : List V} {ds : List PyData}, DqA K F vs ds → vs.length = ds.length
  | _, [], h => by
    cases h
    rfl
  | _, d :: ds, h => by
    cases h with
    | cons h1 h2 => exact congrArg Nat.succ (dpa_len h2)
theorem dpa_get {K : PySem.W.Frag} {F : Hp} : ∀ {vs : List V} {ds : List PyData} {i : Nat} {v : V}, DqA K F vs ds → vs[i]? = some v → ∃ d, ds[i]? = some d ∧ Dq K F v d
  | _, [], i, v, h, e => by
    cases h
    simp at e
  | _, d :: ds, 0, v, h, e => by
    cases h with
    | cons h1 h2 =>
      simp at e
      subst e
      exact ⟨d, rfl, h1⟩
  | _, d :: ds, i + 1, v, h, e => by
    cases h with
    | cons h1 h2 => exact dpa_get (i := i) h2 (by simpa using e)
theorem dpa_get' {K : PySem.W.Frag} {F : Hp} {vs : List V} {ds : List PyData} {i : Nat} {d : PyData} (h : DqA K F vs ds) (e : ds[i]? = some d) : ∃ v, vs[i]? = some v ∧ Dq K F v d := by
  have hl := dpa_len h
  obtain ⟨hi, _⟩ := List.getElem?_eq_some_iff.mp e
  have hv : vs[i]? = some (vs[i]'(by omega)) := List.getElem?_eq_getElem (by omega)
  obtain ⟨d', e', hd⟩ := dpa_get h hv
  rw [e] at e'
  cases e'
  exact ⟨_, hv, hd⟩
theorem dpa_app {K : PySem.W.Frag} {F : Hp} : ∀ {vs : List V} {ds : List PyData} {vs' : List V} {ds' : List PyData}, DqA K F vs ds → DqA K F vs' ds' → DqA K F (vs ++ vs') (ds ++ ds')
  | _, [], _, _, h, h' => by
    cases h
    exact h'
  | _, d :: ds, _, _, h, h' => by
    cases h with
    | cons h1 h2 => exact .cons h1 (dpa_app h2 h')
theorem dpa_drop {K : PySem.W.Frag} {F : Hp} : ∀ (n : Nat) {vs : List V} {ds : List PyData}, DqA K F vs ds → DqA K F (vs.drop n) (ds.drop n)
  | 0, _, _, h => by simpa using h
  | n + 1, _, [], h => by
    cases h
    exact .nil
  | n + 1, _, d :: ds, h => by
    cases h with
    | cons h1 h2 => exact dpa_drop n h2
theorem dpa_take {K : PySem.W.Frag} {F : Hp} : ∀ (n : Nat) {vs : List V} {ds : List PyData}, DqA K F vs ds → DqA K F (vs.take n) (ds.take n)
  | 0, _, _, h => by
    simp
    exact .nil
  | n + 1, _, [], h => by
    cases h
    exact .nil
  | n + 1, _, d :: ds, h => by
    cases h with
    | cons h1 h2 => exact .cons h1 (dpa_take n h2)
theorem dpa_set {K : PySem.W.Frag} {F : Hp} {v : V} {d : PyData} (hv : Dq K F v d) : ∀ (n : Nat) {vs : List V} {ds : List PyData}, DqA K F vs ds → DqA K F (vs.set n v) (ds.set n d)
  | _, _, [], h => by
    cases h
    exact .nil
  | 0, _, d :: ds, h => by
    cases h with
    | cons h1 h2 => exact .cons hv h2
  | n + 1, _, d :: ds, h => by
    cases h with
    | cons h1 h2 => exact .cons h1 (dpa_set hv n h2)
theorem dpa_ints {K : PySem.W.Frag} {F : Hp} : ∀ (ns : List Int), DqA K F (ns.map V.int) (ns.map PyData.int)
  | [] => .nil
  | n :: ns => .cons (.int n) (dpa_ints ns)
theorem dpa_ints_of {K : PySem.W.Frag} {F : Hp} : ∀ (ns : List Int) {vs : List V}, DqA K F vs (ns.map PyData.int) → vs = ns.map V.int
  | [], _, h => by
    cases h
    rfl
  | n :: ns, _, h => by
    cases h with
    | cons h1 h2 =>
      cases h1
      rw [dpa_ints_of ns h2]
      rfl

/-! ### the relation of owned things -/
def Shp (cg : Str → Option Value) (H : Hp) (p : Addr) (k : Kd) (vs : List V) : Prop :=
  match k with
  | .ins c names => ∃ C dx, cg c = some (.ref C) ∧ H p = some (.ins C dx (names.zip vs)) ∧ names.length = vs.length
  | .dk keys => H p = some (.dK (keys.zip vs)) ∧ keys.length = vs.length
  | .ls => H p = some (.lst vs)
  | .tp => False
/-- a node that is frozen, its parts may be owned -/
def ShpF (cg : Str → Option Value) (F : Hp) (p : Addr) (k : Kd) (vs : List V) : Prop :=
  match k with
  | .tp => F p = some (.tup vs)
  | k => Shp cg F p k vs
theorem ShpF.mo {cg : Str → Option Value} {F F' : Hp} {p : Addr} {k : Kd} {vs : List V} (h : ShpF cg F p k vs) (e : Same F F') : ShpF cg F' p k vs := by
  cases k with
  | ins c names =>
    obtain ⟨C, dx, z, h1, l⟩ := h
    exact ⟨C, dx, z, e _ _ h1, l⟩
  | dk keys => exact ⟨e _ _ h.1, h.2⟩
  | ls => exact e _ _ h
  | tp => exact e _ _ h
inductive Ow (K : PySem.W.Frag) (cg : Str → Option Value) (F H : Hp) : V → OD → (Addr → Prop) → Prop
  | dat {v : V} {d : PyData} {A : Addr → Prop} : Dq K F v d → (∀ q, ¬ A q) → Ow K cg F H v (.dat d) A
  | lst {p : Addr} {vs : List V} {ds : List PyData} {A : Addr → Prop} : H p = some (.lst vs) → F p = none → DqA K F vs ds → (∀ q, A q ↔ q = p) → Ow K cg F H (.ref p) (.lst ds) A
  | dk {p : Addr} {ks : List Key} {vs : List V} {ds : List PyData} {A : Addr → Prop} : H p = some (.dK (ks.zip vs)) → F p = none → ks.length = ds.length → DqA K F vs ds → (∀ q, A q ↔ q = p) → Ow K cg F H (.ref p) (.dk (ks.zip ds)) A
  | dt {p : Addr} {ks : List (List Key)} {vs : List V} {ds : List PyData} {A : Addr → Prop} : H p = some (.dT (ks.zip vs)) → F p = none → ks.length = ds.length → DqA K F vs ds → (∀ q, A q ↔ q = p) → Ow K cg F H (.ref p) (.dt (ks.zip ds)) A
  | nd {p : Addr} {k : Kd} {vs : List V} {os : List OD} {L : Nat → Addr → Prop} {A : Addr → Prop} : Shp cg H p k vs → F p = none → vs.length = os.length →
      (∀ (i : Nat) (v : V) (o : OD), vs[i]? = some v → os[i]? = some o → Ow K cg F H v o (L i)) → (∀ i j q, i ≠ j → L i q → L j q → False) → (∀ i, ¬ L i p) → (∀ i q, os.length ≤ i → ¬ L i q) →
      (∀ q, A q ↔ q = p ∨ ∃ i, L i q) → Ow K cg F H (.ref p) (.nd k os) A
  | scr {p : Addr} {ns : List Int} {A : Addr → Prop} : SqL K F p (ns.map V.int) → (∀ q, ¬ A q) → Ow K cg F H (.ref p) (.scr ns) A
  | exc {v : V} {A : Addr → Prop} : (∀ q, ¬ A q) → Ow K cg F H v .exc A
  | tk {p : Addr} {ks : List Key} {A : Addr → Prop} : F p = some (.tup (ks.map kV)) → (∀ q, ¬ A q) → Ow K cg F H (.ref p) (.tk ks) A
  | fz {p : Addr} {k : Kd} {vs : List V} {os : List OD} {L : Nat → Addr → Prop} {A : Addr → Prop} : ShpF cg F p k vs → vs.length = os.length →
      (∀ (i : Nat) (v : V) (o : OD), vs[i]? = some v → os[i]? = some o → Ow K cg F H v o (L i)) → (∀ i j q, i ≠ j → L i q → L j q → False) → (∀ i q, os.length ≤ i → ¬ L i q) →
      (∀ q, A q ↔ ∃ i, L i q) → Ow K cg F H (.ref p) (.fz k os) A
section
variable {K : PySem.W.Frag} {cg : Str → Option Value} {F F' H H' : Hp} {v : V} {o : OD} {A B : Addr → Prop}
theorem Ow.at {p : Addr} (h : Ow K cg F H v o A) (hp : A p) : F p = none ∧ ∃ u, H p = some u := by
  induction h with
  | dat h1 h2 => exact absurd hp (h2 p)
  | lst h1 h2 h3 h4 =>
    have e := (h4 p).mp hp
    subst e
    exact ⟨h2, _, h1⟩
  | dk h1 h2 hl h3 h4 =>
    have e := (h4 p).mp hp
    subst e
    exact ⟨h2, _, h1⟩
  | dt h1 h2 hl h3 h4 =>
    have e := (h4 p).mp hp
    subst e
    exact ⟨h2, _, h1⟩
  | @nd p' k vs os L A h1 h2 h3 h4 h5 h6 h7 h8 ih =>
    rcases (h8 p).mp hp with e | ⟨i, hi⟩
    · subst e
      refine ⟨h2, ?_⟩
      cases k with
      | ins c names =>
        obtain ⟨C, dx, _, e, _⟩ := h1
        exact ⟨_, e⟩
      | dk keys => exact ⟨_, h1.1⟩
      | ls => exact ⟨_, h1⟩
      | tp => exact h1.elim
    · have hlt : i < os.length := by
        rcases Nat.lt_or_ge i os.length with z | z
        · exact z
        · exact absurd hi (h7 i p z)
      exact ih i (vs[i]'(by omega)) (os[i]) (List.getElem?_eq_getElem (by omega)) (List.getElem?_eq_getElem hlt) hi
  | scr h1 h2 => exact absurd hp (h2 p)
  | exc h2 => exact absurd hp (h2 p)
  | tk h1 h2 => exact absurd hp (h2 p)
  | @fz p' k vs os L A h1 h3 h4 h5 h7 h8 ih =>
    obtain ⟨i, hi⟩ := (h8 p).mp hp
    have hlt : i < os.length := by
      rcases Nat.lt_or_ge i os.length with z | z
      · exact z
      · exact absurd hi (h7 i p z)
    exact ih i (vs[i]'(by omega)) (os[i]) (List.getElem?_eq_getElem (by omega)) (List.getElem?_eq_getElem hlt) hi
theorem Ow.mo (h : Ow K cg F H v o A) (e : Same F F') (hk : ∀ p, A p → H' p = H p) (hf : ∀ p, A p → F' p = none) : Ow K cg F' H' v o A := by
  induction h with
  | dat h1 h2 => exact .dat (dp_mo h1 e) h2
  | lst h1 h2 h3 h4 => exact .lst ((hk _ ((h4 _).mpr rfl)).trans h1) (hf _ ((h4 _).mpr rfl)) (dpa_mo h3 e) h4
  | dk h1 h2 hl h3 h4 => exact .dk ((hk _ ((h4 _).mpr rfl)).trans h1) (hf _ ((h4 _).mpr rfl)) hl (dpa_mo h3 e) h4
  | dt h1 h2 hl h3 h4 => exact .dt ((hk _ ((h4 _).mpr rfl)).trans h1) (hf _ ((h4 _).mpr rfl)) hl (dpa_mo h3 e) h4
  | @nd p k vs os L A h1 h2 h3 h4 h5 h6 h7 h8 ih =>
    have hp := (h8 p).mpr (.inl rfl)
    refine .nd ?_ (hf _ hp) h3 (fun i v o e1 e2 => ih i v o e1 e2 (fun q hq => hk q ((h8 q).mpr (.inr ⟨i, hq⟩))) (fun q hq => hf q ((h8 q).mpr (.inr ⟨i, hq⟩)))) h5 h6 h7 h8
    cases k with
    | ins c names =>
      obtain ⟨C, dx, z, e, l⟩ := h1
      exact ⟨C, dx, z, (hk _ hp).trans e, l⟩
    | dk keys => exact ⟨(hk _ hp).trans h1.1, h1.2⟩
    | ls => exact (hk _ hp).trans h1
    | tp => exact h1.elim
  | scr h1 h2 => exact .scr (sql_mono e h1) h2
  | exc h2 => exact .exc h2
  | tk h1 h2 => exact .tk (e _ _ h1) h2
  | @fz p k vs os L A h1 h3 h4 h5 h7 h8 ih => exact .fz (h1.mo e) h3 (fun i v o e1 e2 => ih i v o e1 e2 (fun q hq => hk q ((h8 q).mpr ⟨i, hq⟩)) (fun q hq => hf q ((h8 q).mpr ⟨i, hq⟩))) h5 h7 h8
theorem Ow.iff (h : Ow K cg F H v o A) (e : ∀ q, B q ↔ A q) : Ow K cg F H v o B := by
  cases h with
  | dat h1 h2 => exact .dat h1 fun q z => h2 q ((e q).mp z)
  | lst h1 h2 h3 h4 => exact .lst h1 h2 h3 fun q => (e q).trans (h4 q)
  | dk h1 h2 hl h3 h4 => exact .dk h1 h2 hl h3 fun q => (e q).trans (h4 q)
  | dt h1 h2 hl h3 h4 => exact .dt h1 h2 hl h3 fun q => (e q).trans (h4 q)
  | nd h1 h2 h3 h4 h5 h6 h7 h8 => exact .nd h1 h2 h3 h4 h5 h6 h7 fun q => (e q).trans (h8 q)
  | scr h1 h2 => exact .scr h1 fun q z => h2 q ((e q).mp z)
  | exc h2 => exact .exc fun q z => h2 q ((e q).mp z)
  | tk h1 h2 => exact .tk h1 fun q z => h2 q ((e q).mp z)
  | fz h1 h3 h4 h5 h7 h8 => exact .fz h1 h3 h4 h5 h7 fun q => (e q).trans (h8 q)
end

/-! ### freezing -/
/-- a key as data -/
def kD : Key → PyData
  | .inl i => .int i
  | .inr x => .str x
theorem dqa_keys {K : PySem.W.Frag} {F : Hp} : ∀ ks : List Key, DqA K F (ks.map kV) (ks.map kD)
  | [] => .nil
  | .inl i :: ks => .cons (.int i) (dqa_keys ks)
  | .inr x :: ks => .cons (.str x) (dqa_keys ks)
mutual
def OD.frz : OD → Option PyData
  | .dat d => some d
  | .lst ds => some (.list ds)
  | .dk _ => none
  | .dt _ => none
  | .nd .ls os => (frzAll os).map PyData.list
  | .nd _ _ => none
  | .scr _ => none
  | .exc => none
  | .tk ks => some (.tuple (ks.map kD))
  | .fz .ls os => (frzAll os).map PyData.list
  | .fz .tp os => (frzAll os).map PyData.tuple
  | .fz _ _ => none
def frzAll : List OD → Option (List PyData)
  | [] => some []
  | o :: os => match o.frz, frzAll os with
    | some d, some ds => some (d :: ds)
    | _, _ => none
end
theorem frzAll_get : ∀ {os : List OD} {ds : List PyData} {i : Nat} {o : OD}, frzAll os = some ds → os[i]? = some o → ∃ d, o.frz = some d ∧ ds[i]? = some d
  | [], _, _, _, _, e => by simp at e
  | a :: os, ds, i, o, h, e => by
    unfold frzAll at h
    cases ha : a.frz with
    | none =>
      rw [ha] at h
      cases h
    | some d =>
      cases hs : frzAll os with
      | none =>
        rw [ha, hs] at h
        cases h
      | some ds' =>
        rw [ha, hs] at h
        cases h
        cases i with
        | zero =>
          simp at e
          subst e
          exact ⟨d, ha, rfl⟩
        | succ i => exact frzAll_get (i := i) hs (by simpa using e)
theorem frzAll_len : ∀ {os : List OD} {ds : List PyData}, frzAll os = some ds → ds.length = os.length
  | [], _, h => by
    unfold frzAll at h
    cases h
    rfl
  | a :: os, ds, h => by
    unfold frzAll at h
    cases ha : a.frz with
    | none =>
      rw [ha] at h
      cases h
    | some d =>
      cases hs : frzAll os with
      | none =>
        rw [ha, hs] at h
        cases h
      | some ds' =>
        rw [ha, hs] at h
        cases h
        exact congrArg Nat.succ (frzAll_len hs)
theorem dpa_of {K : PySem.W.Frag} {F : Hp} : ∀ {vs : List V} {ds : List PyData}, vs.length = ds.length → (∀ (i : Nat) (v : V) (d : PyData), vs[i]? = some v → ds[i]? = some d → Dq K F v d) → DqA K F vs ds
  | [], [], _, _ => .nil
  | [], _ :: _, h, _ => by simp at h
  | _ :: _, [], h, _ => by simp at h
  | v :: vs, d :: ds, h, f => .cons (f 0 v d rfl rfl) (dpa_of (by simpa using h) fun i x y e1 e2 => f (i + 1) x y (by simpa using e1) (by simpa using e2))
open Classical in
/-- the frozen part with what stands at A added -/
noncomputable def more (F H : Hp) (A : Addr → Prop) : Hp := fun p => if A p then H p else F p
theorem more_in {F H : Hp} {A : Addr → Prop} {p : Addr} (h : A p) : more F H A p = H p := by
  unfold more
  rw [if_pos h]
theorem more_out {F H : Hp} {A : Addr → Prop} {p : Addr} (h : ¬ A p) : more F H A p = F p := by
  unfold more
  rw [if_neg h]
theorem more_same {F H : Hp} {A : Addr → Prop} (h : ∀ p, A p → F p = none) : Same F (more F H A) := fun p u e => by
  by_cases hp : A p
  · rw [h p hp] at e
    cases e
  · rw [more_out hp]
    exact e
theorem more_heap {F H : Hp} {A : Addr → Prop} (h : Same F H) : Same (more F H A) H := fun p u e => by
  by_cases hp : A p
  · rw [more_in hp] at e
    exact e
  · rw [more_out hp] at e
    exact h p u e
theorem Ow.freeze {K : PySem.W.Frag} {cg : Str → Option Value} {F F' H : Hp} {v : V} {o : OD} {A : Addr → Prop} {d : PyData} (h : Ow K cg F H v o A) (hd : o.frz = some d) (e : Same F F') (hk : ∀ p, A p → F' p = H p) : Dq K F' v d := by
  induction h generalizing d with
  | dat h1 h2 =>
    unfold OD.frz at hd
    cases hd
    exact dp_mo h1 e
  | lst h1 h2 h3 h4 =>
    unfold OD.frz at hd
    cases hd
    exact .lst ((hk _ ((h4 _).mpr rfl)).trans h1) (dpa_mo h3 e)
  | dk h1 h2 hl h3 h4 =>
    unfold OD.frz at hd
    cases hd
  | dt h1 h2 hl h3 h4 =>
    unfold OD.frz at hd
    cases hd
  | @nd p k vs os L A h1 h2 h3 h4 h5 h6 h7 h8 ih =>
    cases k with
    | ins c names =>
      simp [OD.frz] at hd
    | dk keys =>
      simp [OD.frz] at hd
    | ls =>
      unfold OD.frz at hd
      cases hs : frzAll os with
      | none =>
        rw [hs] at hd
        cases hd
      | some ds =>
        rw [hs] at hd
        cases hd
        refine .lst ((hk _ ((h8 p).mpr (.inl rfl))).trans h1) (dpa_of (h3.trans (frzAll_len hs).symm) fun i v d e1 e2 => ?_)
        have hi : i < os.length := by
          have := (List.getElem?_eq_some_iff.mp e1).1
          omega
        obtain ⟨d', f1, f2⟩ := frzAll_get hs (List.getElem?_eq_getElem hi)
        rw [e2] at f2
        cases f2
        exact ih i v _ e1 (List.getElem?_eq_getElem hi) f1 fun q hq => hk q ((h8 q).mpr (.inr ⟨i, hq⟩))
    | tp => exact h1.elim
  | scr h1 h2 =>
    unfold OD.frz at hd
    cases hd
  | exc h2 =>
    unfold OD.frz at hd
    cases hd
  | tk h1 h2 =>
    unfold OD.frz at hd
    cases hd
    exact .tup (.of (e _ _ h1)) (dqa_keys _)
  | @fz p k vs os L A h1 h3 h4 h5 h7 h8 ih =>
    have parts : ∀ ds, frzAll os = some ds → DqA K F' vs ds := fun ds hs => by
      refine dpa_of (h3.trans (frzAll_len hs).symm) fun i v d e1 e2 => ?_
      have hi : i < os.length := by
        have := (List.getElem?_eq_some_iff.mp e1).1
        omega
      obtain ⟨d', f1, f2⟩ := frzAll_get hs (List.getElem?_eq_getElem hi)
      rw [e2] at f2
      cases f2
      exact ih i v _ e1 (List.getElem?_eq_getElem hi) f1 fun q hq => hk q ((h8 q).mpr ⟨i, hq⟩)
    cases k with
    | ins c names => simp [OD.frz] at hd
    | dk keys => simp [OD.frz] at hd
    | ls =>
      unfold OD.frz at hd
      obtain ⟨ds, hs, rfl⟩ := Option.map_eq_some_iff.mp hd
      exact .lst (e _ _ h1) (parts ds hs)
    | tp =>
      unfold OD.frz at hd
      obtain ⟨ds, hs, rfl⟩ := Option.map_eq_some_iff.mp hd
      exact .tup (.of (e _ _ h1)) (parts ds hs)

/-- not there, or a tuple: what no one owns -/
def Nw (H : Hp) (p : Addr) : Prop := H p = none ∨ ∃ vs, H p = some (.tup vs)
theorem Nw.not {H : Hp} {p : Addr} {u : HO} (h : H p = some u) (n : ∀ vs, u ≠ .tup vs) : ¬ Nw H p := fun z => by
  rcases z with z | ⟨vs, z⟩
  · rw [h] at z
    cases z
  · rw [h] at z
    cases z
    exact n _ rfl
theorem Nw.back {H H1 : Hp} {p : Addr} (k : ∀ u, H p = some u → H1 p = some u) (h : Nw H1 p) : Nw H p := by
  cases e : H p with
  | none => exact .inl e
  | some u =>
    have e1 := k u e
    rcases h with h | ⟨vs, h⟩
    · rw [h] at e1
      cases e1
    · rw [h] at e1
      cases e1
      exact .inr ⟨vs, e⟩
theorem Ow.nn {K : PySem.W.Frag} {cg : Str → Option Value} {F H : Hp} {v : V} {o : OD} {A : Addr → Prop} {p : Addr} (h : Ow K cg F H v o A) (hp : A p) : ¬ Nw H p := by
  induction h with
  | dat h1 h2 => exact absurd hp (h2 p)
  | lst h1 h2 h3 h4 =>
    have e := (h4 p).mp hp
    subst e
    exact Nw.not h1 fun _ z => nomatch z
  | dk h1 h2 hl h3 h4 =>
    have e := (h4 p).mp hp
    subst e
    exact Nw.not h1 fun _ z => nomatch z
  | dt h1 h2 hl h3 h4 =>
    have e := (h4 p).mp hp
    subst e
    exact Nw.not h1 fun _ z => nomatch z
  | @nd p' k vs os L A h1 h2 h3 h4 h5 h6 h7 h8 ih =>
    rcases (h8 p).mp hp with e | ⟨i, hi⟩
    · subst e
      cases k with
      | ins c names =>
        obtain ⟨C, dx, _, e, _⟩ := h1
        exact Nw.not e fun _ z => nomatch z
      | dk keys => exact Nw.not h1.1 fun _ z => nomatch z
      | ls => exact Nw.not h1 fun _ z => nomatch z
      | tp => exact h1.elim
    · have hlt : i < os.length := by
        rcases Nat.lt_or_ge i os.length with z | z
        · exact z
        · exact absurd hi (h7 i p z)
      exact ih i (vs[i]'(by omega)) (os[i]) (List.getElem?_eq_getElem (by omega)) (List.getElem?_eq_getElem hlt) hi
  | scr h1 h2 => exact absurd hp (h2 p)
  | exc h2 => exact absurd hp (h2 p)
  | tk h1 h2 => exact absurd hp (h2 p)
  | @fz p' k vs os L A h1 h3 h4 h5 h7 h8 ih =>
    obtain ⟨i, hi⟩ := (h8 p).mp hp
    have hlt : i < os.length := by
      rcases Nat.lt_or_ge i os.length with z | z
      · exact z
      · exact absurd hi (h7 i p z)
    exact ih i (vs[i]'(by omega)) (os[i]) (List.getElem?_eq_getElem (by omega)) (List.getElem?_eq_getElem hlt) hi

/-! ### steps -/
/-- from (S, F, H) to (S', F', H'): S what may be changed -/
structure Stp (S : Addr → Prop) (F H : Hp) (S' : Addr → Prop) (F' H' : Hp) : Prop where
  keep : ∀ p u, ¬ S p → H p = some u → H' p = some u
  fr : Same F F'
  nw : ∀ p u, F' p = some u → (∃ z, F p = some z) ∨ Nw H p ∨ S p
  fp : ∀ p, S' p → S p ∨ H p = none
  fh : Same F' H'
/-- a step that changes nothing -/
structure Pst (F H F' H' : Hp) : Prop where
  keep : Same H H'
  fr : Same F F'
  nw : ∀ p u, F' p = some u → (∃ z, F p = some z) ∨ Nw H p
  fh : Same F' H'
section
variable {S S' S1 S2 : Addr → Prop} {F F' F1 F2 H H' H1 H2 : Hp}
theorem Pst.refl (h : Same F H) : Pst F H F H := ⟨fun _ _ e => e, fun _ _ e => e, fun _ _ e => .inl ⟨_, e⟩, h⟩
theorem Pst.trans (a : Pst F H F1 H1) (b : Pst F1 H1 F2 H2) : Pst F H F2 H2 :=
  ⟨fun p u e => b.keep p u (a.keep p u e), fun p u e => b.fr p u (a.fr p u e), fun p u e => by
    rcases b.nw p u e with ⟨z, h⟩ | h
    · exact a.nw p z h
    · exact .inr (h.back fun u => a.keep p u), b.fh⟩
theorem Stp.refl (h : Same F H) : Stp S F H S F H := ⟨fun _ _ _ e => e, fun _ _ e => e, fun _ _ e => .inl ⟨_, e⟩, fun _ h => .inl h, h⟩
theorem Stp.none (a : Stp S F H S1 F1 H1) {p : Addr} (h : H1 p = none) : H p = none ∨ S p := by
  cases e : H p with
  | none => exact .inl rfl
  | some u =>
    by_cases hs : S p
    · exact .inr hs
    · rw [a.keep p u hs e] at h
      cases h
theorem Stp.trans (a : Stp S F H S1 F1 H1) (b : Stp S1 F1 H1 S2 F2 H2) : Stp S F H S2 F2 H2 := by
  refine ⟨fun p u hs e => b.keep p u (fun z => ?_) (a.keep p u hs e), fun p u e => b.fr p u (a.fr p u e), fun p u e => ?_, fun p h => ?_, b.fh⟩
  · rcases a.fp p z with q | q
    · exact hs q
    · rw [q] at e
      cases e
  · rcases b.nw p u e with ⟨z, h⟩ | h | h
    · exact a.nw p z h
    · by_cases hs : S p
      · exact .inr (.inr hs)
      · exact .inr (.inl (h.back fun u => a.keep p u hs))
    · exact .inr ((a.fp p h).symm.imp .inl id)
  · rcases b.fp p h with q | q
    · exact a.fp p q
    · exact (a.none q).symm
theorem Pst.stp (a : Pst F H F' H') : Stp S F H S F' H' := ⟨fun p u _ e => a.keep p u e, a.fr, fun p u e => (a.nw p u e).elim .inl fun h => .inr (.inl h), fun _ h => .inl h, a.fh⟩
theorem Stp.sub (a : Stp S F H S1 F1 H1) (h : ∀ p, S2 p → S1 p) : Stp S F H S2 F1 H1 := ⟨a.keep, a.fr, a.nw, fun p z => a.fp p (h p z), a.fh⟩
theorem Stp.wide (a : Stp S F H S1 F1 H1) (h : ∀ p, S p → S2 p) : Stp S2 F H (fun p => S1 p ∨ (S2 p ∧ ¬ S p)) F1 H1 :=
  ⟨fun p u hs e => a.keep p u (fun z => hs (h p z)) e, a.fr, fun p u e => (a.nw p u e).imp id (fun q => q.imp id (h p)), fun p z => by
    rcases z with z | z
    · exact (a.fp p z).imp (h p) id
    · exact .inl z.1, a.fh⟩
end

/-! ### the slots -/
def SlOk (K : PySem.W.Frag) (cg : Str → Option Value) (F H : Hp) (pv : Pv) (σ : L2.St) (g : Gm) (i : Nat) (A : Addr → Prop) : Prop :=
  match gt g i with
  | .no => ∀ q, ¬ A q
  | .v o => ∃ v, σ[i]? = some (some v) ∧ Ow K cg F H v o A
  | .pin o => ∃ v, σ[i]? = some (some v) ∧ pv i = some v ∧ Ow K cg F H v o A
  | .al j n => (∃ v p k vs, σ[i]? = some (some v) ∧ pv j = some (.ref p) ∧ ShpF cg F p k vs ∧ vs[n]? = some v) ∧ ∀ q, ¬ A q
  | .xc => (∃ v, σ[i]? = some (some v) ∧ pv.x i = some v) ∧ ∀ q, ¬ A q
/-- the slots σ over the heap H hold the data g; pv: the arguments, S: what is owned -/
structure Rel (K : PySem.W.Frag) (cg : Cg) (pv : Pv) (g : Gm) (σ : L2.St) (S : Addr → Prop) (F H : Hp) : Prop where
  fh : Same F H
  len : g.length = σ.length
  z : cg.Z pv
  ex : ∃ L : Nat → Addr → Prop, (∀ i, SlOk K cg F H pv σ g i (L i)) ∧ (∀ i j q, i ≠ j → L i q → L j q → False) ∧ ∀ q, S q ↔ ∃ i, L i q
section
variable {K : PySem.W.Frag} {cg : Cg} {pvs : Pv} {g : Gm} {σ : L2.St} {S S' A : Addr → Prop} {F F' H H' : Hp} {v : V} {o : OD} {i : Nat}
theorem SlOk.at {p : Addr} (h : SlOk K cg F H pvs σ g i A) (hp : A p) : F p = none ∧ ∃ u, H p = some u := by
  unfold SlOk at h
  split at h
  · exact absurd hp (h p)
  · obtain ⟨v, _, q⟩ := h
    exact q.at hp
  · obtain ⟨v, _, _, q⟩ := h
    exact q.at hp
  · exact absurd hp (h.2 p)
  · exact absurd hp (h.2 p)
theorem SlOk.nn {p : Addr} (h : SlOk K cg F H pvs σ g i A) (hp : A p) : ¬ Nw H p := by
  unfold SlOk at h
  split at h
  · exact absurd hp (h p)
  · obtain ⟨v, _, q⟩ := h
    exact q.nn hp
  · obtain ⟨v, _, _, q⟩ := h
    exact q.nn hp
  · exact absurd hp (h.2 p)
  · exact absurd hp (h.2 p)
theorem SlOk.mo (h : SlOk K cg F H pvs σ g i A) (e : Same F F') (hk : ∀ p, A p → H' p = H p) (hf : ∀ p, A p → F' p = none) : SlOk K cg F' H' pvs σ g i A := by
  unfold SlOk at h ⊢
  split at h
  · exact h
  · obtain ⟨v, e1, q⟩ := h
    exact ⟨v, e1, q.mo e hk hf⟩
  · obtain ⟨v, e1, e2, q⟩ := h
    exact ⟨v, e1, e2, q.mo e hk hf⟩
  · obtain ⟨⟨v, p, k, vs, e1, e2, e3, e4⟩, q⟩ := h
    exact ⟨⟨v, p, k, vs, e1, e2, e3.mo e, e4⟩, q⟩
  · exact h
theorem Rel.at {p : Addr} (r : Rel K cg pvs g σ S F H) (hp : S p) : F p = none ∧ ∃ u, H p = some u := by
  obtain ⟨L, h1, h2, h3⟩ := r.ex
  obtain ⟨i, hi⟩ := (h3 p).mp hp
  exact (h1 i).at hi
theorem Rel.nn {p : Addr} (r : Rel K cg pvs g σ S F H) (hp : S p) : ¬ Nw H p := by
  obtain ⟨L, h1, h2, h3⟩ := r.ex
  obtain ⟨i, hi⟩ := (h3 p).mp hp
  exact (h1 i).nn hi
/-- what is not owned changes -/
theorem Rel.mo (r : Rel K cg pvs g σ S F H) (e : Same F F') (hk : ∀ p, S p → H' p = H p) (hf : ∀ p, S p → F' p = none) (fh : Same F' H') : Rel K cg pvs g σ S F' H' := by
  obtain ⟨L, h1, h2, h3⟩ := r.ex
  exact ⟨fh, r.len, r.z, L, fun i => (h1 i).mo e (fun p hp => hk p ((h3 p).mpr ⟨i, hp⟩)) (fun p hp => hf p ((h3 p).mpr ⟨i, hp⟩)), h2, h3⟩
theorem Rel.pst (r : Rel K cg pvs g σ S F H) (a : Pst F H F' H') : Rel K cg pvs g σ S F' H' := by
  refine r.mo a.fr (fun p hp => ?_) (fun p hp => ?_) a.fh
  · obtain ⟨_, u, e⟩ := r.at hp
    rw [e, a.keep p u e]
  · obtain ⟨f, u, e⟩ := r.at hp
    cases q : F' p with
    | none => rfl
    | some z =>
      rcases a.nw p z q with ⟨y, h⟩ | h
      · rw [f] at h
        cases h
      · exact absurd h (r.nn hp)
/-- a step of things that are owned apart -/
theorem Rel.stp (r : Rel K cg pvs g σ S F H) {A A' : Addr → Prop} (a : Stp A F H A' F' H') (hd : ∀ p, S p → A p → False) : Rel K cg pvs g σ S F' H' := by
  refine r.mo a.fr (fun p hp => ?_) (fun p hp => ?_) a.fh
  · obtain ⟨_, u, e⟩ := r.at hp
    rw [e, a.keep p u (fun z => hd p hp z) e]
  · obtain ⟨f, u, e⟩ := r.at hp
    cases q : F' p with
    | none => rfl
    | some z =>
      rcases a.nw p z q with ⟨y, h⟩ | h | h
      · rw [f] at h
        cases h
      · exact absurd h (r.nn hp)
      · exact (hd p hp h).elim
theorem Rel.val (r : Rel K cg pvs g σ S F H) (e : gt g i = .v o) : ∃ v A, σ[i]? = some (some v) ∧ Ow K cg F H v o A ∧ ∀ q, A q → S q := by
  obtain ⟨L, h1, h2, h3⟩ := r.ex
  have h := h1 i
  unfold SlOk at h
  rw [e] at h
  obtain ⟨v, e1, q⟩ := h
  exact ⟨v, L i, e1, q, fun q hq => (h3 q).mpr ⟨i, hq⟩⟩
def Sl.od : Sl → Option OD
  | .no => none
  | .v o => some o
  | .pin o => some o
  | .al _ _ => none
  | .xc => none
def Sl.with : Sl → OD → Sl
  | .no, _ => .no
  | .v _, o => .v o
  | .pin _, o => .pin o
  | .al i j, _ => .al i j
  | .xc, _ => .xc
/-- a slot is taken out: what it holds, and how a change of it comes back -/
theorem Rel.take (r : Rel K cg pvs g σ S F H) (e : (gt g i).od = some o) : ∃ (v : V) (A S1 : Addr → Prop), σ[i]? = some (some v) ∧ Ow K cg F H v o A ∧ (∀ q, S q ↔ A q ∨ S1 q) ∧ (∀ q, A q → S1 q → False) ∧
    ∀ o' A' F' H', Stp A F H A' F' H' → Ow K cg F' H' v o' A' → Rel K cg pvs (st g i ((gt g i).with o')) σ (fun q => A' q ∨ S1 q) F' H' ∧ Stp S F H (fun q => A' q ∨ S1 q) F' H' := by
  obtain ⟨L, h1, h2, h3⟩ := r.ex
  have hi : i < g.length := gt_lt fun z => by
    rw [z] at e
    cases e
  have h := h1 i
  unfold SlOk at h
  have key : ∃ v, σ[i]? = some (some v) ∧ Ow K cg F H v o (L i) ∧ ∀ o' A' F' H', Ow K cg F' H' v o' A' → SlOk K cg F' H' pvs σ (st g i ((gt g i).with o')) i A' := by
    cases q : gt g i with
    | no =>
      rw [q] at e
      cases e
    | v o1 =>
      rw [q] at e h
      cases e
      obtain ⟨v, e1, h⟩ := h
      refine ⟨v, e1, h, fun o' A' F' H' w => ?_⟩
      unfold SlOk
      rw [gt_st hi]
      exact ⟨v, e1, w⟩
    | pin o1 =>
      rw [q] at e h
      cases e
      obtain ⟨v, e1, e2, h⟩ := h
      refine ⟨v, e1, h, fun o' A' F' H' w => ?_⟩
      unfold SlOk
      rw [gt_st hi]
      exact ⟨v, e1, e2, w⟩
    | al j n =>
      rw [q] at e
      cases e
    | xc =>
      rw [q] at e
      cases e
  obtain ⟨v, e1, ow, back⟩ := key
  refine ⟨v, L i, fun q => ∃ j, j ≠ i ∧ L j q, e1, ow, fun q => ?_, fun q ha ⟨j, hj, hb⟩ => h2 j i q hj hb ha, fun o' A' F' H' a w => ?_⟩
  · refine ⟨fun hq => ?_, fun hq => ?_⟩
    · obtain ⟨j, hj⟩ := (h3 q).mp hq
      by_cases z : j = i
      · subst z
        exact .inl hj
      · exact .inr ⟨j, z, hj⟩
    · rcases hq with hq | ⟨j, _, hq⟩
      · exact (h3 q).mpr ⟨i, hq⟩
      · exact (h3 q).mpr ⟨j, hq⟩
  · have other : ∀ j, j ≠ i → ∀ p, L j p → H' p = H p ∧ F' p = none := fun j hj p hp => by
      obtain ⟨f, u, eu⟩ := (h1 j).at hp
      refine ⟨by rw [eu, a.keep p u (fun z => h2 j i p hj hp z) eu], ?_⟩
      cases q : F' p with
      | none => rfl
      | some z =>
        rcases a.nw p z q with ⟨y, hh⟩ | hh | hh
        · rw [f] at hh
          cases hh
        · exact absurd hh ((h1 j).nn hp)
        · exact (h2 j i p hj hp hh).elim
    refine ⟨⟨a.fh, by rw [st_len]; exact r.len, r.z, fun j => if j = i then A' else L j, fun j => ?_, fun j k q hjk hj hk => ?_, fun q => ?_⟩, ?_⟩
    · by_cases z : j = i
      · subst z
        simp only [if_true]
        exact back o' A' F' H' w
      · simp only [if_neg z]
        have b := (h1 j).mo a.fr (fun p hp => (other j z p hp).1) (fun p hp => (other j z p hp).2)
        unfold SlOk at b ⊢
        rw [gt_st_ne z]
        exact b
    · have cross : ∀ j, j ≠ i → L j q → A' q → False := fun j hj hl ha => by
        obtain ⟨_, u, eu⟩ := (h1 j).at hl
        rcases a.fp q ha with z | z
        · exact h2 j i q hj hl z
        · rw [eu] at z
          cases z
      by_cases z : j = i
      · subst z
        simp only [if_true] at hj
        by_cases y : k = j
        · exact hjk y.symm
        · simp only [if_neg y] at hk
          exact cross k y hk hj
      · simp only [if_neg z] at hj
        by_cases y : k = i
        · subst y
          simp only [if_true] at hk
          exact cross j z hj hk
        · simp only [if_neg y] at hk
          exact h2 j k q hjk hj hk
    · refine ⟨fun hq => ?_, fun ⟨j, hj⟩ => ?_⟩
      · rcases hq with hq | ⟨j, hj, hq⟩
        · exact ⟨i, by simp only [if_true]; exact hq⟩
        · exact ⟨j, by simp only [if_neg hj]; exact hq⟩
      · by_cases z : j = i
        · subst z
          simp only [if_true] at hj
          exact .inl hj
        · simp only [if_neg z] at hj
          exact .inr ⟨j, z, hj⟩
    · refine ⟨fun p u hs eu => a.keep p u (fun z => hs ((h3 p).mpr ⟨i, z⟩)) eu, a.fr, fun p u eu => ?_, fun p hp => ?_, a.fh⟩
      · rcases a.nw p u eu with z | z | z
        · exact .inl z
        · exact .inr (.inl z)
        · exact .inr (.inr ((h3 p).mpr ⟨i, z⟩))
      · rcases hp with z | ⟨j, _, z⟩
        · rcases a.fp p z with y | y
          · exact .inl ((h3 p).mpr ⟨i, y⟩)
          · exact .inr y
        · exact .inl ((h3 p).mpr ⟨j, z⟩)
/-- a slot is set -/
theorem Rel.set (r : Rel K cg pvs g σ S F H) (ow : Ow K cg F H v o A) (hd : ∀ q, A q → S q → False) (hi : i < σ.length) :
    ∃ S', Rel K cg pvs (st g i (.v o)) (σ.set i (some v)) S' F H ∧ ∀ q, S' q → S q ∨ A q := by
  obtain ⟨L, h1, h2, h3⟩ := r.ex
  have hg : i < g.length := by rw [r.len]; exact hi
  refine ⟨fun q => A q ∨ ∃ j, j ≠ i ∧ L j q, ⟨r.fh, by rw [st_len, List.length_set]; exact r.len, r.z, fun j => if j = i then A else L j, fun j => ?_, fun j k q hjk hj hk => ?_, fun q => ?_⟩, fun q hq => ?_⟩
  · by_cases z : j = i
    · subst z
      simp only [if_true]
      unfold SlOk
      rw [gt_st hg]
      exact ⟨v, by rw [List.getElem?_set_self hi], ow⟩
    · simp only [if_neg z]
      have b := h1 j
      unfold SlOk at b ⊢
      rw [gt_st_ne z, List.getElem?_set_ne (Ne.symm z)]
      exact b
  · have cross : ∀ j, L j q → A q → False := fun j hl ha => hd q ha ((h3 q).mpr ⟨j, hl⟩)
    by_cases z : j = i
    · subst z
      simp only [if_true] at hj
      by_cases y : k = j
      · exact hjk y.symm
      · simp only [if_neg y] at hk
        exact cross k hk hj
    · simp only [if_neg z] at hj
      by_cases y : k = i
      · subst y
        simp only [if_true] at hk
        exact cross j hj hk
      · simp only [if_neg y] at hk
        exact h2 j k q hjk hj hk
  · refine ⟨fun hq => ?_, fun ⟨j, hj⟩ => ?_⟩
    · rcases hq with hq | ⟨j, hj, hq⟩
      · exact ⟨i, by simp only [if_true]; exact hq⟩
      · exact ⟨j, by simp only [if_neg hj]; exact hq⟩
    · by_cases z : j = i
      · subst z
        simp only [if_true] at hj
        exact .inl hj
      · simp only [if_neg z] at hj
        exact .inr ⟨j, z, hj⟩
  · rcases hq with z | ⟨j, _, z⟩
    · exact .inr z
    · exact .inl ((h3 q).mpr ⟨j, z⟩)
/-- a slot is forgotten -/
theorem Rel.kill (r : Rel K cg pvs g σ S F H) (i : Nat) : ∃ S', Rel K cg pvs (st g i .no) σ S' F H ∧ ∀ q, S' q → S q := by
  obtain ⟨L, h1, h2, h3⟩ := r.ex
  refine ⟨fun q => ∃ j, j ≠ i ∧ L j q, ⟨r.fh, by rw [st_len]; exact r.len, r.z, fun j => if j = i then fun _ => False else L j, fun j => ?_, fun j k q hjk hj hk => ?_, fun q => ?_⟩, fun q ⟨j, _, hq⟩ => (h3 q).mpr ⟨j, hq⟩⟩
  · by_cases z : j = i
    · subst z
      simp only [if_true]
      unfold SlOk
      by_cases hg : j < g.length
      · rw [gt_st hg]
        exact fun q hq => hq
      · have e : gt (st g j .no) j = .no := by
          cases q : gt (st g j .no) j with
          | no => rfl
          | v o => exact absurd (gt_lt (g := st g j .no) (i := j) (by rw [q]; intro z; cases z)) (by rw [st_len]; exact hg)
          | pin o => exact absurd (gt_lt (g := st g j .no) (i := j) (by rw [q]; intro z; cases z)) (by rw [st_len]; exact hg)
          | al _ _ => exact absurd (gt_lt (g := st g j .no) (i := j) (by rw [q]; intro z; cases z)) (by rw [st_len]; exact hg)
          | xc => exact absurd (gt_lt (g := st g j .no) (i := j) (by rw [q]; intro z; cases z)) (by rw [st_len]; exact hg)
        rw [e]
        exact fun q hq => hq
    · simp only [if_neg z]
      have b := h1 j
      unfold SlOk at b ⊢
      rw [gt_st_ne z]
      exact b
  · by_cases z : j = i
    · simp only [if_pos z] at hj
    · by_cases y : k = i
      · simp only [if_pos y] at hk
      · simp only [if_neg z] at hj
        simp only [if_neg y] at hk
        exact h2 j k q hjk hj hk
  · refine ⟨fun ⟨j, hj, hq⟩ => ⟨j, by simp only [if_neg hj]; exact hq⟩, fun ⟨j, hj⟩ => ?_⟩
    by_cases z : j = i
    · simp only [if_pos z] at hj
    · simp only [if_neg z] at hj
      exact ⟨j, z, hj⟩
end
end VL
/-! The value layer, part 2: what an expression gives, as plain data. -/
namespace VL
open PySem L2

/-- the own dict of an exception -/
def XOk (K : PySem.W.Frag) (F : Hp) (xs : List (Str × PyData)) (dop : Option Addr) : Prop :=
  match xs with
  | [] => dop = none
  | _ => ∃ d vs, dop = some d ∧ F d = some (.xd ((xs.map (·.1)).zip vs)) ∧ DqA K F vs (xs.map (·.2))
/-- a list that may be owned, read as data -/
def Vw (K : PySem.W.Frag) (F H : Hp) (v : V) (d : PyData) : Prop :=
  match d with
  | .list ds => ∃ p vs, v = .ref p ∧ H p = some (.lst vs) ∧ DqA K F vs ds
  | _ => Dq K F v d
theorem Dq.vw {K : PySem.W.Frag} {F H : Hp} {v : V} {d : PyData} (h : Dq K F v d) (e : Same F H) : Vw K F H v d := by
  cases h with
  | lst h1 h2 => exact ⟨_, _, rfl, e _ _ h1, h2⟩
  | non => exact .non
  | bl b => exact .bl b
  | int i => exact .int i
  | str x => exact .str x
  | tup h1 h2 => exact Dq.tup h1 h2
theorem Vw.pst {K : PySem.W.Frag} {F H F' H' : Hp} {v : V} {d : PyData} (h : Vw K F H v d) (a : Pst F H F' H') : Vw K F' H' v d := by
  cases d with
  | list ds =>
    obtain ⟨p, vs, e, h1, h2⟩ := h
    exact ⟨p, vs, e, a.keep _ _ h1, dpa_mo h2 a.fr⟩
  | none => exact dp_mo h a.fr
  | bool b => exact dp_mo h a.fr
  | int i => exact dp_mo h a.fr
  | str x => exact dp_mo h a.fr
  | tuple ds => exact dp_mo h a.fr
  | dict kvs => exact dp_mo h a.fr

/-! ### the mirror's monads -/
def Out.bind {α β : Type} (x : Out α) (k : α → Gm → Out β) : Out β :=
  match x with
  | .ok a g => k a g
  | .err e g => .err e g
  | .stk => .stk
def Out.of {α : Type} (x : Option α) (g : Gm) : Out α :=
  match x with
  | some a => .ok a g
  | none => .stk
def Res.bind {α β : Type} (x : Res α) (k : α → Res β) : Res β :=
  match x with
  | .ok a => k a
  | .err e => .err e
  | .stk => .stk
def Res.of {α : Type} (x : Option α) : Res α :=
  match x with
  | some a => .ok a
  | none => .stk
def up {α : Type} (x : Res α) (g : Gm) : Out α :=
  match x with
  | .ok a => .ok a g
  | .err e => .err e g
  | .stk => .stk

section
variable (K : PySem.W.Frag) (cg : Cg) (W : WX)
/-! ### what is wanted of a mirror's answer -/
def ErrP (pvs : Pv) (σ : L2.St) (S : Addr → Prop) (F H : Hp) (e : Er) (g : Gm) : Prop :=
  ∀ C dop S' F' H', Stp S F H S' F' H' → Rel K cg pvs g σ S' F' H' → cg e.c = some (.ref C) → XOk K F' e.xs dop → W (.ref C) dop σ H'
def PoV (pvs : Pv) (σ : L2.St) (S : Addr → Prop) (F H : Hp) (Q : VK) : Out PyData → Prop
  | .ok d g => ∀ v S' F' H', Stp S F H S' F' H' → Rel K cg pvs g σ S' F' H' → Dq K F' v d → Q v H'
  | .err e g => ErrP K cg W pvs σ S F H e g
  | .stk => False
def PoO (pvs : Pv) (σ : L2.St) (S : Addr → Prop) (F H : Hp) (Q : VK) : Out OD → Prop
  | .ok o g => ∀ v A S' F' H', Stp S F H (fun p => S' p ∨ A p) F' H' → Rel K cg pvs g σ S' F' H' → Ow K cg F' H' v o A → (∀ q, A q → S' q → False) → Q v H'
  | .err e g => ErrP K cg W pvs σ S F H e g
  | .stk => False
def PoT (pvs : Pv) (σ : L2.St) (S : Addr → Prop) (F H : Hp) (Q : Bool → Hp → Prop) : Out Bool → Prop
  | .ok b g => ∀ S' F' H', Stp S F H S' F' H' → Rel K cg pvs g σ S' F' H' → Q b H'
  | .err e g => ErrP K cg W pvs σ S F H e g
  | .stk => False
def PoA (pvs : Pv) (σ : L2.St) (S : Addr → Prop) (F H : Hp) (Q : List V → Hp → Prop) : Out (List PyData) → Prop
  | .ok ds g => ∀ vs S' F' H', Stp S F H S' F' H' → Rel K cg pvs g σ S' F' H' → DqA K F' vs ds → Q vs H'
  | .err e g => ErrP K cg W pvs σ S F H e g
  | .stk => False
def ErrQ (σ : L2.St) (F H : Hp) (e : Er) : Prop :=
  ∀ C dop F' H', Pst F H F' H' → cg e.c = some (.ref C) → XOk K F' e.xs dop → W (.ref C) dop σ H'
def PoP (σ : L2.St) (F H : Hp) (Q : VK) : Res PyData → Prop
  | .ok d => ∀ v F' H', Pst F H F' H' → Dq K F' v d → Q v H'
  | .err e => ErrQ K cg W σ F H e
  | .stk => False
def PoW (σ : L2.St) (F H : Hp) (Q : VK) : Res PyData → Prop
  | .ok d => ∀ v F' H', Pst F H F' H' → Vw K F' H' v d → Q v H'
  | .err e => ErrQ K cg W σ F H e
  | .stk => False
def PoR (σ : L2.St) (F H : Hp) (Q : VK) : Res OD → Prop
  | .ok o => ∀ v A F' H', Pst F H F' H' → Ow K cg F' H' v o A → (∀ q, A q → H q = none) → Q v H'
  | .err e => ErrQ K cg W σ F H e
  | .stk => False
inductive VwA (K : PySem.W.Frag) (F H : Hp) : List V → List PyData → Prop
  | nil : VwA K F H [] []
  | cons {v : V} {vs : List V} {d : PyData} {ds : List PyData} : Vw K F H v d → VwA K F H vs ds → VwA K F H (v :: vs) (d :: ds)
def PoWA (σ : L2.St) (F H : Hp) (Q : List V → Hp → Prop) : Res (List PyData) → Prop
  | .ok ds => ∀ vs F' H', Pst F H F' H' → VwA K F' H' vs ds → Q vs H'
  | .err e => ErrQ K cg W σ F H e
  | .stk => False

/-! ### readings that mirror: V data, O owned, T a test, A arguments; P, R, W, WA the same without a change of the slots (W: a view) -/
def RV (t : TE) (m : Gm → Out PyData) : Prop := ∀ pvs g σ S F H Q, Rel K cg pvs g σ S F H → PoV K cg W pvs σ S F H Q (m g) → t σ H Q
def RO (t : TE) (m : Gm → Out OD) : Prop := ∀ pvs g σ S F H Q, Rel K cg pvs g σ S F H → PoO K cg W pvs σ S F H Q (m g) → t σ H Q
def RT (t : TT) (m : Gm → Out Bool) : Prop := ∀ pvs g σ S F H Q, Rel K cg pvs g σ S F H → PoT K cg W pvs σ S F H Q (m g) → t σ H Q
def RA (t : TA) (m : Gm → Out (List PyData)) : Prop := ∀ pvs g σ S F H Q, Rel K cg pvs g σ S F H → PoA K cg W pvs σ S F H Q (m g) → t σ H Q
def RP (t : TE) (m : Gm → Res PyData) : Prop := ∀ pvs g σ S F H Q, Rel K cg pvs g σ S F H → PoP K cg W σ F H Q (m g) → t σ H Q
def RW (t : TE) (m : Gm → Res PyData) : Prop := ∀ pvs g σ S F H Q, Rel K cg pvs g σ S F H → PoW K cg W σ F H Q (m g) → t σ H Q
def RR (t : TE) (m : Gm → Res OD) : Prop := ∀ pvs g σ S F H Q, Rel K cg pvs g σ S F H → PoR K cg W σ F H Q (m g) → t σ H Q
def RWA (t : TA) (m : Gm → Res (List PyData)) : Prop := ∀ pvs g σ S F H Q, Rel K cg pvs g σ S F H → PoWA K cg W σ F H Q (m g) → t σ H Q
end
section
variable {K : PySem.W.Frag} {cg : Cg} {W : WX} {pvs : Pv} {g : Gm} {σ : L2.St} {S S1 S' A : Addr → Prop} {F F1 F' H H1 H' : Hp}
theorem ErrP.st {e : Er} (h : ErrP K cg W pvs σ S F H e g) (a : Stp S F H S1 F1 H1) : ErrP K cg W pvs σ S1 F1 H1 e g := fun C dop S' F' H' b r c x => h C dop S' F' H' (a.trans b) r c x
theorem PoV.st {Q : VK} {x : Out PyData} (h : PoV K cg W pvs σ S F H Q x) (a : Stp S F H S1 F1 H1) : PoV K cg W pvs σ S1 F1 H1 Q x := by
  cases x with
  | ok d g => exact fun v S' F' H' b r c => h v S' F' H' (a.trans b) r c
  | err e g => exact ErrP.st h a
  | stk => exact h
theorem PoO.st {Q : VK} {x : Out OD} (h : PoO K cg W pvs σ S F H Q x) (a : Stp S F H S1 F1 H1) : PoO K cg W pvs σ S1 F1 H1 Q x := by
  cases x with
  | ok d g => exact fun v A S' F' H' b r c => h v A S' F' H' (a.trans b) r c
  | err e g => exact ErrP.st h a
  | stk => exact h
theorem PoT.st {Q : Bool → Hp → Prop} {x : Out Bool} (h : PoT K cg W pvs σ S F H Q x) (a : Stp S F H S1 F1 H1) : PoT K cg W pvs σ S1 F1 H1 Q x := by
  cases x with
  | ok d g => exact fun S' F' H' b r => h S' F' H' (a.trans b) r
  | err e g => exact ErrP.st h a
  | stk => exact h
theorem PoA.st {Q : List V → Hp → Prop} {x : Out (List PyData)} (h : PoA K cg W pvs σ S F H Q x) (a : Stp S F H S1 F1 H1) : PoA K cg W pvs σ S1 F1 H1 Q x := by
  cases x with
  | ok d g => exact fun v S' F' H' b r c => h v S' F' H' (a.trans b) r c
  | err e g => exact ErrP.st h a
  | stk => exact h
theorem ErrQ.ps {e : Er} (h : ErrQ K cg W σ F H e) (a : Pst F H F1 H1) : ErrQ K cg W σ F1 H1 e := fun C dop F' H' b c x => h C dop F' H' (a.trans b) c x
theorem ErrQ.up {e : Er} (h : ErrP K cg W pvs σ S F H e g) (r : Rel K cg pvs g σ S F H) : ErrQ K cg W σ F H e := fun C dop F' H' b c x => h C dop S F' H' b.stp (r.pst b) c x
theorem PoP.ps {Q : VK} {x : Res PyData} (h : PoP K cg W σ F H Q x) (a : Pst F H F1 H1) : PoP K cg W σ F1 H1 Q x := by
  cases x with
  | ok d => exact fun v F' H' b c => h v F' H' (a.trans b) c
  | err e => exact ErrQ.ps h a
  | stk => exact h
theorem PoW.ps {Q : VK} {x : Res PyData} (h : PoW K cg W σ F H Q x) (a : Pst F H F1 H1) : PoW K cg W σ F1 H1 Q x := by
  cases x with
  | ok d => exact fun v F' H' b c => h v F' H' (a.trans b) c
  | err e => exact ErrQ.ps h a
  | stk => exact h
theorem PoWA.ps {Q : List V → Hp → Prop} {x : Res (List PyData)} (h : PoWA K cg W σ F H Q x) (a : Pst F H F1 H1) : PoWA K cg W σ F1 H1 Q x := by
  cases x with
  | ok d => exact fun v F' H' b c => h v F' H' (a.trans b) c
  | err e => exact ErrQ.ps h a
  | stk => exact h
theorem PoR.ps {Q : VK} {x : Res OD} (h : PoR K cg W σ F H Q x) (a : Pst F H F1 H1) : PoR K cg W σ F1 H1 Q x := by
  cases x with
  | ok d => exact fun v A F' H' b c f => h v A F' H' (a.trans b) c fun q hq => a.keep.free (f q hq)
  | err e => exact ErrQ.ps h a
  | stk => exact h
theorem Pst.stpA (a : Pst F H F' H') (f : ∀ q, A q → H q = none) : Stp S F H (fun p => S p ∨ A p) F' H' :=
  ⟨fun p u _ e => a.keep p u e, a.fr, fun p u e => (a.nw p u e).elim .inl fun h => .inr (.inl h), fun p h => h.imp id (f p), a.fh⟩
/-- a new object is frozen at once -/
theorem pst_new {p : Addr} {o : HO} (e : Same F H) (hp : H p = none) : Pst F H (upd F p o) (upd H p o) := by
  have fp : F p = none := e.free hp
  refine ⟨fun b u h => ?_, fun b u h => ?_, fun b u h => ?_, fun b u h => ?_⟩
  · rw [upd_ne (ne_of_none h hp)]
    exact h
  · rw [upd_ne (ne_of_none h fp)]
    exact h
  · by_cases z : b = p
    · subst z
      exact .inr (.inl hp)
    · rw [upd_ne z] at h
      exact .inl ⟨u, h⟩
  · by_cases z : b = p
    · subst z
      rw [upd_same] at h ⊢
      exact h
    · rw [upd_ne z] at h ⊢
      exact e b u h
/-- a new object is owned -/
theorem pst_own {p : Addr} {o : HO} (e : Same F H) (hp : H p = none) : Pst F H F (upd H p o) := by
  refine ⟨fun b u h => ?_, fun b u h => h, fun b u h => .inl ⟨u, h⟩, fun b u h => ?_⟩
  · rw [upd_ne (ne_of_none h hp)]
    exact h
  · rw [upd_ne (ne_of_none (e b u h) hp)]
    exact e b u h
/-- what is owned is frozen -/
theorem stp_freeze {v : V} {o : OD} {d : PyData} (ow : Ow K cg F H v o A) (hd : o.frz = some d) (e : Same F H) : Dq K (more F H A) v d ∧ Stp (fun p => S p ∨ A p) F H S (more F H A) H := by
  refine ⟨ow.freeze hd (more_same fun p hp => (ow.at hp).1) fun p hp => more_in hp, fun p u _ h => h, more_same fun p hp => (ow.at hp).1, fun p u h => ?_, fun p h => .inl (.inl h), more_heap e⟩
  by_cases z : A p
  · exact .inr (.inr (.inr z))
  · rw [more_out z] at h
    exact .inl ⟨u, h⟩
theorem Rel.more {v : V} {o : OD} (r : Rel K cg pvs g σ S F H) (ow : Ow K cg F H v o A) (hd : ∀ q, A q → S q → False) : Rel K cg pvs g σ S (more F H A) H :=
  r.mo (more_same fun p hp => (ow.at hp).1) (fun _ _ => rfl) (fun p hp => by rw [more_out (fun z => hd p z hp)]; exact (r.at hp).1) (more_heap r.fh)

theorem Rel.apart (r : Rel K cg pvs g σ S F H) (f : ∀ q, A q → H q = none) : ∀ q, A q → S q → False := fun p hp hs => by
  obtain ⟨_, u, e⟩ := r.at hs
  rw [f p hp] at e
  cases e

/-! ### from one kind to another -/
theorem RP.v {t : TE} {m : Gm → Res PyData} (h : RP K cg W t m) : RV K cg W t (fun g => up (m g) g) := fun pvs g σ S F H Q r q => by
  refine h pvs g σ S F H Q r ?_
  revert q
  show PoV K cg W pvs σ S F H Q (up (m g) g) → _
  cases m g with
  | ok d => exact fun q v F' H' b c => q v S F' H' b.stp (r.pst b) c
  | err e => exact fun q => ErrQ.up q r
  | stk => exact fun q => q
theorem RP.w {t : TE} {m : Gm → Res PyData} (h : RP K cg W t m) : RW K cg W t m := fun pvs g σ S F H Q r q => by
  refine h pvs g σ S F H Q r ?_
  revert q
  cases m g with
  | ok d => exact fun q v F' H' b c => q v F' H' b (c.vw b.fh)
  | err e => exact fun q => q
  | stk => exact fun q => q
theorem RR.o {t : TE} {m : Gm → Res OD} (h : RR K cg W t m) : RO K cg W t (fun g => up (m g) g) := fun pvs g σ S F H Q r q => by
  refine h pvs g σ S F H Q r ?_
  revert q
  show PoO K cg W pvs σ S F H Q (up (m g) g) → _
  cases m g with
  | ok d => exact fun q v A F' H' b c f => q v A S F' H' (b.stpA f) (r.pst b) c (r.apart f)
  | err e => exact fun q => ErrQ.up q r
  | stk => exact fun q => q
theorem RV.o {t : TE} {m : Gm → Out PyData} (h : RV K cg W t m) : RO K cg W t (fun g => (m g).bind fun d g => .ok (.dat d) g) := fun pvs g σ S F H Q r q => by
  refine h pvs g σ S F H Q r ?_
  revert q
  show PoO K cg W pvs σ S F H Q ((m g).bind fun d g => .ok (.dat d) g) → _
  cases m g with
  | ok d g1 => exact fun q v S' F' H' b r' c => q v (fun _ => False) S' F' H' (b.sub fun p hp => hp.elim id False.elim) r' (.dat c fun _ z => z) fun _ z _ => z
  | err e g1 => exact fun q => q
  | stk => exact fun q => q
theorem RP.r {t : TE} {m : Gm → Res PyData} (h : RP K cg W t m) : RR K cg W t (fun g => (m g).bind fun d => .ok (.dat d)) := fun pvs g σ S F H Q r q => by
  refine h pvs g σ S F H Q r ?_
  revert q
  show PoR K cg W σ F H Q ((m g).bind fun d => .ok (.dat d)) → _
  cases m g with
  | ok d => exact fun q v F' H' b c => q v (fun _ => False) F' H' b (.dat c fun _ z => z) fun _ z => z.elim
  | err e => exact fun q => q
  | stk => exact fun q => q
/-- what is owned, frozen: data -/
theorem RO.v {t : TE} {m : Gm → Out OD} (h : RO K cg W t m) : RV K cg W t (fun g => (m g).bind fun o g => .of o.frz g) := fun pvs g σ S F H Q r q => by
  refine h pvs g σ S F H Q r ?_
  revert q
  show PoV K cg W pvs σ S F H Q ((m g).bind fun o g => .of o.frz g) → _
  cases m g with
  | ok o g1 =>
    intro q v A S' F' H' b r' ow hd
    have q : PoV K cg W pvs σ S F H Q (.of o.frz g1) := q
    cases e : o.frz with
    | none =>
      rw [e] at q
      exact q.elim
    | some d =>
      rw [e] at q
      obtain ⟨dd, s1⟩ := stp_freeze (S := S') ow e r'.fh
      exact q v S' _ H' (b.trans s1) (r'.more ow hd) dd
  | err e g1 => exact fun q => q
  | stk => exact fun q => q
theorem RR.p {t : TE} {m : Gm → Res OD} (h : RR K cg W t m) : RP K cg W t (fun g => (m g).bind fun o => .of o.frz) := fun pvs g σ S F H Q r q => by
  refine h pvs g σ S F H Q r ?_
  revert q
  show PoP K cg W σ F H Q ((m g).bind fun o => .of o.frz) → _
  cases m g with
  | ok o =>
    intro q v A F' H' b ow f
    have q : PoP K cg W σ F H Q (.of o.frz) := q
    cases e : o.frz with
    | none =>
      rw [e] at q
      exact q.elim
    | some d =>
      rw [e] at q
      obtain ⟨dd, s1⟩ := stp_freeze (S := fun _ => False) ow e b.fh
      refine q v _ H' ⟨b.keep, fun p u z => s1.fr p u (b.fr p u z), fun p u z => ?_, s1.fh⟩ dd
      by_cases y : A p
      · exact .inr (.inl (f p y))
      · rw [more_out y] at z
        exact b.nw p u z
  | err e => exact fun q => q
  | stk => exact fun q => q

/-! ### names and constants -/
def pVar (i : Nat) (g : Gm) : Res PyData :=
  match gt g i with
  | .v (.dat d) => .ok d
  | .pin (.dat d) => .ok d
  | _ => .stk
theorem rp_var (i : Nat) : RP K cg W (tVar i) (pVar i) := fun pvs g σ S F H Q r q => by
  revert q
  unfold pVar
  obtain ⟨L, h1, h2, h3⟩ := r.ex
  have h := h1 i
  unfold SlOk at h
  split
  · rename_i d e
    rw [e] at h
    obtain ⟨v, e1, ow⟩ := h
    cases ow with
    | dat hd _ => exact fun q => ⟨v, e1, q v F H (.refl r.fh) hd⟩
  · rename_i d e
    rw [e] at h
    obtain ⟨v, e1, _, ow⟩ := h
    cases ow with
    | dat hd _ => exact fun q => ⟨v, e1, q v F H (.refl r.fh) hd⟩
  · exact fun q => q.elim
def wVar (i : Nat) (g : Gm) : Res PyData :=
  match (gt g i).od with
  | some (.dat d) => .ok d
  | some (.lst ds) => .ok (.list ds)
  | _ => .stk
theorem rw_var (i : Nat) : RW K cg W (tVar i) (wVar i) := fun pvs g σ S F H Q r q => by
  revert q
  unfold wVar
  split
  · rename_i d e
    obtain ⟨v, A, S1, e1, ow, _⟩ := r.take e
    cases ow with
    | dat hd _ => exact fun q => ⟨v, e1, q v F H (.refl r.fh) (hd.vw r.fh)⟩
  · rename_i ds e
    obtain ⟨v, A, S1, e1, ow, _⟩ := r.take e
    cases ow with
    | lst a1 a2 a3 a4 => exact fun q => ⟨_, e1, q _ F H (.refl r.fh) ⟨_, _, rfl, a1, a3⟩⟩
  · exact fun q => q.elim
def pC (d : PyData) (_ : Gm) : Res PyData := .ok d
theorem rp_c {v : V} {d : PyData} (h : ∀ F, Dq K F v d) : RP K cg W (tC v) (pC d) := fun pvs g σ S F H Q r q => q v F H (.refl r.fh) (h F)

/-! ### operations on data -/
def OpG (K : PySem.W.Frag) (cg : Str → Option Value) (r : R2) (f : PyData → PyData → Option OD) : Prop := ∀ (F H : Hp) (x y : V) (a b : PyData) (o : OD) (Q : VK), Same F H → Vw K F H x a → Vw K F H y b → f a b = some o →
  (∀ v A F' H', Pst F H F' H' → Ow K cg F' H' v o A → (∀ q, A q → H q = none) → Q v H') → r x y H Q
def CaG (K : PySem.W.Frag) (cg : Str → Option Value) (r : List V → Hp → VK → Prop) (f : List PyData → Option OD) : Prop := ∀ (F H : Hp) (xs : List V) (as : List PyData) (o : OD) (Q : VK), Same F H → VwA K F H xs as → f as = some o →
  (∀ v A F' H', Pst F H F' H' → Ow K cg F' H' v o A → (∀ q, A q → H q = none) → Q v H') → r xs H Q
def oOp (f : PyData → PyData → Option OD) (ma mb : Gm → Out PyData) (g : Gm) : Out OD := (ma g).bind fun a g1 => (mb g1).bind fun b g2 => .of (f a b) g2
def rOp (f : PyData → PyData → Option OD) (ma mb : Gm → Res PyData) (g : Gm) : Res OD := (ma g).bind fun a => (mb g).bind fun b => .of (f a b)
theorem RV.op {r : R2} {f : PyData → PyData → Option OD} {ta tb : TE} {ma mb : Gm → Out PyData} (ho : OpG K cg r f) (ha : RV K cg W ta ma) (hb : RV K cg W tb mb) : RO K cg W (tOp r ta tb) (oOp f ma mb) := fun pvs g σ S F H Q rl q => by
  refine ha pvs g σ S F H _ rl ?_
  unfold oOp at q
  cases e : ma g with
  | ok a g1 =>
    rw [e] at q
    intro v S1 F1 H1 s1 r1 d1
    refine hb pvs g1 σ S1 F1 H1 _ r1 ?_
    have q : PoO K cg W pvs σ S F H Q ((mb g1).bind fun b g2 => .of (f a b) g2) := q
    have q := PoO.st q s1
    cases e2 : mb g1 with
    | ok b g2 =>
      rw [e2] at q
      intro w S2 F2 H2 s2 r2 d2
      have q : PoO K cg W pvs σ S1 F1 H1 Q (.of (f a b) g2) := q
      have q := PoO.st q s2
      cases e3 : f a b with
      | none =>
        rw [e3] at q
        exact q.elim
      | some o =>
        rw [e3] at q
        refine ho F2 H2 v w a b o Q r2.fh ((dp_mo d1 s2.fr).vw r2.fh) (d2.vw r2.fh) e3 fun u A F3 H3 p3 ow fr => q u A S2 F3 H3 (p3.stpA fr) (r2.pst p3) ow (r2.apart fr)
    | err e' g2 =>
      rw [e2] at q
      exact q
    | stk =>
      rw [e2] at q
      exact q.elim
  | err e' g1 =>
    rw [e] at q
    exact q
  | stk =>
    rw [e] at q
    exact q.elim
theorem RW.op {r : R2} {f : PyData → PyData → Option OD} {ta tb : TE} {ma mb : Gm → Res PyData} (ho : OpG K cg r f) (ha : RW K cg W ta ma) (hb : RW K cg W tb mb) : RR K cg W (tOp r ta tb) (rOp f ma mb) := fun pvs g σ S F H Q rl q => by
  refine ha pvs g σ S F H _ rl ?_
  unfold rOp at q
  cases e : ma g with
  | ok a =>
    rw [e] at q
    intro v F1 H1 s1 d1
    refine hb pvs g σ S F1 H1 _ (rl.pst s1) ?_
    have q : PoR K cg W σ F H Q ((mb g).bind fun b => .of (f a b)) := q
    have q := PoR.ps q s1
    cases e2 : mb g with
    | ok b =>
      rw [e2] at q
      intro w F2 H2 s2 d2
      have q : PoR K cg W σ F1 H1 Q (.of (f a b)) := q
      have q := PoR.ps q s2
      cases e3 : f a b with
      | none =>
        rw [e3] at q
        exact q.elim
      | some o =>
        rw [e3] at q
        exact ho F2 H2 v w a b o Q s2.fh (d1.pst s2) d2 e3 q
    | err e' =>
      rw [e2] at q
      exact q
    | stk =>
      rw [e2] at q
      exact q.elim
  | err e' =>
    rw [e] at q
    exact q
  | stk =>
    rw [e] at q
    exact q.elim
/-! ### argument lists -/
def aNil (g : Gm) : Out (List PyData) := .ok [] g
def aCons (m : Gm → Out PyData) (r : Gm → Out (List PyData)) (g : Gm) : Out (List PyData) := (m g).bind fun a g1 => (r g1).bind fun as g2 => .ok (a :: as) g2
def waNil (_ : Gm) : Res (List PyData) := .ok []
def waCons (m : Gm → Res PyData) (r : Gm → Res (List PyData)) (g : Gm) : Res (List PyData) := (m g).bind fun a => (r g).bind fun as => .ok (a :: as)
theorem ra_nil : RA K cg W tNil aNil := fun pvs g σ S F H Q r q => q [] S F H (.refl r.fh) r .nil
theorem ra_cons {ta : TE} {tr : TA} {m : Gm → Out PyData} {mr : Gm → Out (List PyData)} (ha : RV K cg W ta m) (hr : RA K cg W tr mr) : RA K cg W (tCons ta tr) (aCons m mr) := fun pvs g σ S F H Q rl q => by
  refine ha pvs g σ S F H _ rl ?_
  unfold aCons at q
  cases e : m g with
  | ok a g1 =>
    rw [e] at q
    intro v S1 F1 H1 s1 r1 d1
    refine hr pvs g1 σ S1 F1 H1 _ r1 ?_
    have q : PoA K cg W pvs σ S F H Q ((mr g1).bind fun as g2 => .ok (a :: as) g2) := q
    have q := PoA.st q s1
    cases e2 : mr g1 with
    | ok as g2 =>
      rw [e2] at q
      exact fun vs S2 F2 H2 s2 r2 d2 => q (v :: vs) S2 F2 H2 s2 r2 (.cons (dp_mo d1 s2.fr) d2)
    | err e' g2 =>
      rw [e2] at q
      exact q
    | stk =>
      rw [e2] at q
      exact q.elim
  | err e' g1 =>
    rw [e] at q
    exact q
  | stk =>
    rw [e] at q
    exact q.elim
theorem VwA.pst : ∀ {vs : List V} {ds : List PyData}, VwA K F H vs ds → Pst F H F' H' → VwA K F' H' vs ds
  | _, _, .nil, _ => .nil
  | _, _, .cons h t, a => .cons (h.pst a) (VwA.pst t a)
theorem rwa_nil : RWA K cg W tNil waNil := fun pvs g σ S F H Q r q => q [] F H (.refl r.fh) .nil
theorem rwa_cons {ta : TE} {tr : TA} {m : Gm → Res PyData} {mr : Gm → Res (List PyData)} (ha : RW K cg W ta m) (hr : RWA K cg W tr mr) : RWA K cg W (tCons ta tr) (waCons m mr) := fun pvs g σ S F H Q rl q => by
  refine ha pvs g σ S F H _ rl ?_
  unfold waCons at q
  cases e : m g with
  | ok a =>
    rw [e] at q
    intro v F1 H1 s1 d1
    refine hr pvs g σ S F1 H1 _ (rl.pst s1) ?_
    have q : PoWA K cg W σ F H Q ((mr g).bind fun as => .ok (a :: as)) := q
    have q := PoWA.ps q s1
    cases e2 : mr g with
    | ok as =>
      rw [e2] at q
      exact fun vs F2 H2 s2 d2 => q (v :: vs) F2 H2 s2 (.cons (d1.pst s2) d2)
    | err e' =>
      rw [e2] at q
      exact q
    | stk =>
      rw [e2] at q
      exact q.elim
  | err e' =>
    rw [e] at q
    exact q
  | stk =>
    rw [e] at q
    exact q.elim
theorem vwa_of : ∀ {vs : List V} {ds : List PyData}, DqA K F vs ds → Same F H → VwA K F H vs ds
  | _, [], h, _ => by
    cases h
    exact .nil
  | _, d :: ds, h, e => by
    cases h with
    | cons h1 h2 => exact .cons (h1.vw e) (vwa_of h2 e)
def oCa (f : List PyData → Option OD) (m : Gm → Out (List PyData)) (g : Gm) : Out OD := (m g).bind fun as g1 => .of (f as) g1
def rCa (f : List PyData → Option OD) (m : Gm → Res (List PyData)) (g : Gm) : Res OD := (m g).bind fun as => .of (f as)
theorem RA.ca {r : List V → Hp → VK → Prop} {f : List PyData → Option OD} {t : TA} {m : Gm → Out (List PyData)} (ho : CaG K cg r f) (ha : RA K cg W t m) : RO K cg W (tCB r t) (oCa f m) := fun pvs g σ S F H Q rl q => by
  refine ha pvs g σ S F H _ rl ?_
  unfold oCa at q
  cases e : m g with
  | ok as g1 =>
    rw [e] at q
    intro vs S1 F1 H1 s1 r1 d1
    have q : PoO K cg W pvs σ S F H Q (.of (f as) g1) := q
    have q := PoO.st q s1
    cases e3 : f as with
    | none =>
      rw [e3] at q
      exact q.elim
    | some o =>
      rw [e3] at q
      refine ho F1 H1 vs as o Q r1.fh (vwa_of d1 r1.fh) e3 fun u A F3 H3 p3 ow fr => q u A S1 F3 H3 (p3.stpA fr) (r1.pst p3) ow (r1.apart fr)
  | err e' g1 =>
    rw [e] at q
    exact q
  | stk =>
    rw [e] at q
    exact q.elim
theorem RWA.ca {r : List V → Hp → VK → Prop} {f : List PyData → Option OD} {t : TA} {m : Gm → Res (List PyData)} (ho : CaG K cg r f) (ha : RWA K cg W t m) : RR K cg W (tCB r t) (rCa f m) := fun pvs g σ S F H Q rl q => by
  refine ha pvs g σ S F H _ rl ?_
  unfold rCa at q
  cases e : m g with
  | ok as =>
    rw [e] at q
    intro vs F1 H1 s1 d1
    have q : PoR K cg W σ F H Q (.of (f as)) := q
    have q := PoR.ps q s1
    cases e3 : f as with
    | none =>
      rw [e3] at q
      exact q.elim
    | some o =>
      rw [e3] at q
      exact ho F1 H1 vs as o Q s1.fh d1 e3 q
  | err e' =>
    rw [e] at q
    exact q
  | stk =>
    rw [e] at q
    exact q.elim
end
end VL
/-! The value layer, part 3: the operations on data. -/
namespace VL
open PySem L2

def zl : Nat := 1000000
theorem zl_le {n : Nat} (h : n ≤ zl) : n ≤ sizeLine := by
  rw [sizeLine_eq]
  unfold zl at h
  omega
theorem zl_lt {n : Nat} (h : n < zl) : n < sizeLine := by
  rw [sizeLine_eq]
  unfold zl at h
  omega
section
variable {K : PySem.W.Frag} {cg : Str → Option Value} {F H : Hp} {Q : VK} {v : V} {d : PyData}
theorem fin_s (k : ∀ v A F' H', Pst F H F' H' → Ow K cg F' H' v (.dat d) A → (∀ q, A q → H q = none) → Q v H') (e : Same F H) (h : Dq K F v d) : Q v H :=
  k v (fun _ => False) F H (.refl e) (.dat h fun _ z => z) fun _ z => z.elim
theorem fin_l {p : Addr} {vs : List V} {ds : List PyData} (k : ∀ v A F' H', Pst F H F' H' → Ow K cg F' H' v (.lst ds) A → (∀ q, A q → H q = none) → Q v H') (e : Same F H) (hp : H p = none) (h : DqA K F vs ds) : Q (.ref p) (upd H p (.lst vs)) :=
  k (.ref p) (fun q => q = p) F _ (pst_own e hp) (.lst upd_same (e.free hp) h fun _ => Iff.rfl) fun q hq => by
    rw [hq]
    exact hp
theorem fin_t {p : Addr} {vs : List V} {ds : List PyData} (k : ∀ v A F' H', Pst F H F' H' → Ow K cg F' H' v (.dat (.tuple ds)) A → (∀ q, A q → H q = none) → Q v H') (e : Same F H) (hp : H p = none) (h : DqA K F vs ds) : Q (.ref p) (upd H p (.tup vs)) :=
  k (.ref p) (fun _ => False) (upd F p (.tup vs)) _ (pst_new e hp) (.dat (.tup (.of upd_same) (dpa_mo h (pst_new (o := .tup vs) e hp).fr)) fun _ z => z) fun _ z => z.elim
theorem Vw.int {x : V} {i : Int} (h : Vw K F H x (.int i)) : x = .int i := by
  have h : Dq K F x (.int i) := h
  cases h
  rfl
theorem Vw.str {x : V} {i : Str} (h : Vw K F H x (.str i)) : x = .str i := by
  have h : Dq K F x (.str i) := h
  cases h
  rfl
theorem Vw.bool {x : V} {i : Bool} (h : Vw K F H x (.bool i)) : x = .bl i := by
  have h : Dq K F x (.bool i) := h
  cases h
  rfl
theorem Vw.non {x : V} (h : Vw K F H x .none) : x = .non := by
  have h : Dq K F x .none := h
  cases h
  rfl
theorem Vw.tup {x : V} {ds : List PyData} (h : Vw K F H x (.tuple ds)) : ∃ a vs, x = .ref a ∧ SqT K F a vs ∧ DqA K F vs ds := by
  have h : Dq K F x (.tuple ds) := h
  cases h with
  | tup h1 h2 => exact ⟨_, _, rfl, h1, h2⟩
mutual
theorem Dq.dp (e : Same F H) : ∀ (d : PyData) {v : V}, Dq K F v d → Dp K H v d
  | .none, _, h => by
    cases h
    exact .non
  | .bool b, _, h => by
    cases h
    exact .bl b
  | .int i, _, h => by
    cases h
    exact .int i
  | .str x, _, h => by
    cases h
    exact .str x
  | .list ds, _, h => by
    cases h with
    | lst h1 h2 => exact .lst (.of (e _ _ h1)) (DqA.dp e ds h2)
  | .tuple ds, _, h => by
    cases h with
    | tup h1 h2 => exact .tup (sqt_mono e h1) (DqA.dp e ds h2)
  | .dict _, _, h => by cases h
theorem DqA.dp (e : Same F H) : ∀ (ds : List PyData) {vs : List V}, DqA K F vs ds → DpAll K H vs ds
  | [], _, h => by
    cases h
    exact .nil
  | d :: ds, _, h => by
    cases h with
    | cons h1 h2 => exact .cons (Dq.dp e d h1) (DqA.dp e ds h2)
end
theorem Vw.dp {x : V} (e : Same F H) (h : Vw K F H x d) : Dp K H x d := by
  cases d with
  | list ds =>
    obtain ⟨p, vs, rfl, h1, h2⟩ := h
    exact .lst (.of h1) (DqA.dp e ds h2)
  | none => exact Dq.dp e _ h
  | bool b => exact Dq.dp e _ h
  | int i => exact Dq.dp e _ h
  | str x => exact Dq.dp e _ h
  | tuple ds => exact Dq.dp e _ h
  | dict kvs => exact Dq.dp e _ h
end

/-! ### arithmetic -/
def oi (i : Int) : Option OD := some (.dat (.int i))
def ob (b : Bool) : Option OD := some (.dat (.bool b))
def fAdd : PyData → PyData → Option OD
  | .int i, .int j => oi (i + j)
  | .str a, .str b => if a.length + b.length ≤ zl then some (.dat (.str (a ++ b))) else none
  | .list a, .list b => if a.length + b.length ≤ zl then some (.lst (a ++ b)) else none
  | .tuple a, .tuple b => if a.length + b.length ≤ zl then some (.dat (.tuple (a ++ b))) else none
  | _, _ => none
def fSub : PyData → PyData → Option OD
  | .int i, .int j => oi (i - j)
  | _, _ => none
def mulOk (i j : Int) : Bool := decide (i.natAbs.log2 + j.natAbs.log2 < 1000000) || (decide (-(2 ^ 64) < i) && decide (i < 2 ^ 64)) || (decide (-(2 ^ 64) < j) && decide (j < 2 ^ 64))
def fMul : PyData → PyData → Option OD
  | .int i, .int j => if mulOk i j = true then oi (i * j) else none
  | .list a, .int k => if 0 ≤ k ∧ a.length * k.toNat ≤ zl ∧ k < 2 ^ 63 then some (.lst (List.replicate k.toNat a).flatten) else none
  | _, _ => none
def fFdiv : PyData → PyData → Option OD
  | .int i, .int j => if 0 < j ∧ j.natAbs.log2 < 9000 then oi (i / j) else none
  | _, _ => none
def fMod : PyData → PyData → Option OD
  | .int i, .int j => if 0 < j then oi (i % j) else none
  | _, _ => none
def fPow : PyData → PyData → Option OD
  | .int i, .int j => if 0 ≤ j ∧ j ≤ 1000000 ∧ i.natAbs < 2 ^ 64 then oi (i ^ j.toNat) else none
  | _, _ => none
def rAddG (K : PySem.W.Frag) : R2 := fun x y H Q => (rI0 fun i j => .int (i + j)) x y H Q ∨ ((∃ i j, x = .str i ∧ y = .str j ∧ i.length + j.length ≤ sizeLine ∧ Q (.str (i ++ j)) H) ∨ (rCat x y H Q ∨ rCatA K x y H Q))
def rMulG : R2 := fun x y H Q => rI CMulW (fun i j => .int (i * j)) x y H Q ∨ (rI CMul (fun i j => .int (i * j)) x y H Q ∨ rRep x y H Q)
theorem op_addG {X : Cx} : OpR X (binaryOp .Add) (rAddG X.K) := op_add.or (op_add_str.or (op_cat.or op_catA))
theorem op_mulG {X : Cx} : OpR X (binaryOp .Mult) rMulG := op_mulW.or (op_mul.or op_rep)
section
variable {K : PySem.W.Frag} {cg : Str → Option Value}
theorem g_add : OpG K cg (rAddG K) fAdd := fun F H x y a b o Q e hx hy hf k => by
  unfold fAdd at hf
  split at hf
  · cases hf
    rw [hx.int, hy.int]
    exact .inl ⟨_, _, rfl, rfl, fin_s k e (.int _)⟩
  · split at hf
    · rename_i hz
      cases hf
      rw [hx.str, hy.str]
      exact .inr (.inl ⟨_, _, rfl, rfl, zl_le hz, fin_s k e (.str _)⟩)
    · cases hf
  · split at hf
    · rename_i hz
      cases hf
      obtain ⟨p, vs, rfl, h1, h2⟩ := hx
      obtain ⟨p', vs', rfl, h1', h2'⟩ := hy
      refine .inr (.inr (.inl ⟨_, _, _, _, rfl, rfl, h1, h1', ?_, fun p hp => fin_l k e hp (dpa_app h2 h2')⟩))
      rw [dpa_len h2, dpa_len h2']
      exact zl_le hz
    · cases hf
  · split at hf
    · rename_i hz
      cases hf
      obtain ⟨p, vs, rfl, h1, h2⟩ := hx.tup
      obtain ⟨p', vs', rfl, h1', h2'⟩ := hy.tup
      refine .inr (.inr (.inr ⟨_, _, _, _, rfl, rfl, sqt_mono e h1, sqt_mono e h1', ?_, fun z => ?_, fun _ z => ?_, fun _ _ p hp => fin_t k e hp (dpa_app h2 h2')⟩))
      · rw [dpa_len h2, dpa_len h2']
        exact zl_le hz
      · subst z
        cases h2
        exact fin_s k e (.tup h1' h2')
      · subst z
        cases h2'
        rw [List.append_nil] at k
        exact fin_s k e (.tup h1 h2)
    · cases hf
  · cases hf
theorem g_sub : OpG K cg (rI0 fun i j => .int (i - j)) fSub := fun F H x y a b o Q e hx hy hf k => by
  unfold fSub at hf
  split at hf
  · cases hf
    rw [hx.int, hy.int]
    exact ⟨_, _, rfl, rfl, fin_s k e (.int _)⟩
  · cases hf
theorem g_mul : OpG K cg rMulG fMul := fun F H x y a b o Q e hx hy hf k => by
  unfold fMul at hf
  split at hf
  · split at hf
    · rename_i hz
      cases hf
      rw [hx.int, hy.int]
      unfold mulOk at hz
      simp only [Bool.or_eq_true, Bool.and_eq_true, decide_eq_true_eq] at hz
      rcases hz with (hz | hz) | hz
      · exact .inl ⟨_, _, rfl, rfl, hz, fin_s k e (.int _)⟩
      · exact .inr (.inl ⟨_, _, rfl, rfl, .inl hz, fin_s k e (.int _)⟩)
      · exact .inr (.inl ⟨_, _, rfl, rfl, .inr hz, fin_s k e (.int _)⟩)
    · cases hf
  · split at hf
    · rename_i ds n hz
      cases hf
      obtain ⟨p, vs, rfl, h1, h2⟩ := hx
      rw [hy.int]
      refine .inr (.inr ⟨_, _, _, rfl, rfl, h1, by omega, hz.2.2, ?_, fun p hp => fin_l k e hp ?_⟩)
      · rw [dpa_len h2]
        exact zl_le hz.2.1
      · generalize n.toNat = m
        induction m with
        | zero => exact .nil
        | succ m ih => exact dpa_app h2 ih
    · cases hf
  · cases hf
theorem g_fdiv : OpG K cg (rI CDivW fun i j => .int (i / j)) fFdiv := fun F H x y a b o Q e hx hy hf k => by
  unfold fFdiv at hf
  split at hf
  · split at hf
    · rename_i hz
      cases hf
      rw [hx.int, hy.int]
      exact ⟨_, _, rfl, rfl, hz, fin_s k e (.int _)⟩
    · cases hf
  · cases hf
theorem g_mod : OpG K cg (rI (fun _ j => 0 < j) fun i j => .int (i % j)) fMod := fun F H x y a b o Q e hx hy hf k => by
  unfold fMod at hf
  split at hf
  · split at hf
    · rename_i hz
      cases hf
      rw [hx.int, hy.int]
      exact ⟨_, _, rfl, rfl, hz, fin_s k e (.int _)⟩
    · cases hf
  · cases hf
theorem g_pow : OpG K cg (rI CPow fun i j => .int (i ^ j.toNat)) fPow := fun F H x y a b o Q e hx hy hf k => by
  unfold fPow at hf
  split at hf
  · split at hf
    · rename_i hz
      cases hf
      rw [hx.int, hy.int]
      exact ⟨_, _, rfl, rfl, hz, fin_s k e (.int _)⟩
    · cases hf
  · cases hf
end

/-! ### comparisons -/
/-- tuples of whole numbers -/
def intsD : List PyData → Option (List Int)
  | [] => some []
  | .int i :: r => (intsD r).map (i :: ·)
  | _ :: _ => none
theorem ints_map : ∀ {ds : List PyData} {ns : List Int}, intsD ds = some ns → ds = ns.map PyData.int
  | [], _, h => by
    cases h
    rfl
  | .int i :: r, ns, h => by
    unfold intsD at h
    cases e : intsD r with
    | none =>
      rw [e] at h
      cases h
    | some ms =>
      rw [e] at h
      cases h
      rw [ints_map e]
      rfl
  | .none :: _, _, h => by cases h
  | .bool _ :: _, _, h => by cases h
  | .str _ :: _, _, h => by cases h
  | .list _ :: _, _, h => by cases h
  | .tuple _ :: _, _, h => by cases h
  | .dict _ :: _, _, h => by cases h
theorem ints_of : ∀ ns : List Int, intsD (ns.map PyData.int) = some ns
  | [] => rfl
  | n :: ns => by
    show (intsD (ns.map PyData.int)).map (n :: ·) = some (n :: ns)
    rw [ints_of ns]
    rfl
def lexGt : List Int → List Int → Bool
  | [], _ => false
  | _ :: _, [] => true
  | x :: xs, y :: ys => if x = y then lexGt xs ys else decide (y < x)
def fLt : PyData → PyData → Option OD
  | .int i, .int j => ob (decide (i < j))
  | _, _ => none
def fLe : PyData → PyData → Option OD
  | .int i, .int j => ob (decide (i ≤ j))
  | _, _ => none
def fGt : PyData → PyData → Option OD
  | .int i, .int j => ob (decide (j < i))
  | .tuple a, .tuple b => match intsD a, intsD b with
    | some ns, some ms => ob (lexGt ns ms)
    | _, _ => none
  | _, _ => none
def fGe : PyData → PyData → Option OD
  | .int i, .int j => ob (decide (j ≤ i))
  | _, _ => none
def fEq (a b : PyData) : Option OD := if SeqAt.shaped a = true ∧ SeqAt.shaped b = true then ob (PyData.eqv a b) else none
def fNe (a b : PyData) : Option OD := if SeqAt.shaped a = true ∧ SeqAt.shaped b = true then ob (!PyData.eqv a b) else none
def isNone : PyData → Bool
  | .none => true
  | _ => false
def fIsN (a b : PyData) : Option OD := if isNone b = true then ob (isNone a) else none
def fNotN (a b : PyData) : Option OD := if isNone b = true then ob (!isNone a) else none

theorem lexAt_gt : ∀ (ns ms : List Int) (i : Nat) (e r : Nat → Bool), (∀ j, e (i + j) = decide (ns.getD j 0 = ms.getD j 0)) → (∀ j, r (i + j) = decide (ms.getD j 0 < ns.getD j 0)) →
    Ob.lexAt e r (decide (ns.length > ms.length)) i (min ns.length ms.length) = lexGt ns ms
  | [], ms, i, e, r, _, _ => by
    have z : min ([] : List Int).length ms.length = 0 := by simp
    rw [z]
    show decide (([] : List Int).length > ms.length) = false
    simp
  | a :: ns, [], i, e, r, _, _ => by
    have z : min (a :: ns).length ([] : List Int).length = 0 := by simp
    rw [z]
    show decide ((a :: ns).length > ([] : List Int).length) = true
    simp
  | a :: ns, b :: ms, i, e, r, he, hr => by
    have z : min (a :: ns).length (b :: ms).length = min ns.length ms.length + 1 := by
      simp only [List.length_cons]
      omega
    have ih := lexAt_gt ns ms (i + 1) e r (fun j => by
      have := he (j + 1)
      rw [show i + 1 + j = i + (j + 1) by omega]
      simpa using this) (fun j => by
      have := hr (j + 1)
      rw [show i + 1 + j = i + (j + 1) by omega]
      simpa using this)
    rw [z, Ob.lexAt_succ]
    have e0 : e i = decide (a = b) := by simpa using he 0
    have r0 : r i = decide (b < a) := by simpa using hr 0
    have q : decide ((a :: ns).length > (b :: ms).length) = decide (ns.length > ms.length) := by simp
    rw [q, ih, e0, r0]
    show _ = if a = b then lexGt ns ms else decide (b < a)
    by_cases h : a = b
    · rw [if_pos (decide_eq_true h), if_pos h]
    · rw [if_neg (by simp [h]), if_neg h]
def rGtT (K : PySem.W.Frag) : R2 := fun x y H Q => ∃ (a b : Addr) (ns ms : List Int), x = .ref a ∧ y = .ref b ∧ SqT K H a (ns.map V.int) ∧ SqT K H b (ms.map V.int) ∧ Q (.bl (lexGt ns ms)) H
theorem op_gtT {X : Cx} (hu : X.A.units < cLine) : OpR X (compareOp .Gt) (rGtT X.K) := by
  intro pins s σ H x y v u Q I rx ry h
  obtain ⟨a, b, ns, ms, rfl, rfl, ha, hb, q⟩ := h
  cases rx
  cases ry
  obtain ⟨its, r1, p1, _⟩ := I.tuple ha
  obtain ⟨its2, r2, p2, _⟩ := I.tuple hb
  have i1 : PyProof.Rows.IntsAre its ns := Vals.ints r1
  have i2 : PyProof.Rows.IntsAre its2 ms := Vals.ints r2
  have e1 : its.toArray.size = ns.length := by rw [List.size_toArray]; exact i1.length
  have e2 : its2.toArray.size = ms.length := by rw [List.size_toArray]; exact i2.length
  have at1 : ∀ j (h1 : j < its.toArray.size), ∃ t, its.toArray[j] = .int (ns.getD j 0) t := fun j h1 => PyProof.Rows.IntsAre.int_at i1 _ _ (by simp at h1; simp [h1])
  have at2 : ∀ j (h1 : j < its2.toArray.size), ∃ t, its2.toArray[j] = .int (ms.getD j 0) t := fun j h1 => PyProof.Rows.IntsAre.int_at i2 _ _ (by simp at h1; simp [h1])
  have R := Ob.RcOp.tuples_gt (A := X.A) (s := s) (e := fun j => decide (ns.getD j 0 = ms.getD j 0)) (r := fun j => decide (ms.getD j 0 < ns.getD j 0)) p1 p2 hu (fun j h1 h2 => by
    obtain ⟨t, et⟩ := at1 j h1
    obtain ⟨t', et'⟩ := at2 j h2
    rw [et, et']
    have z : (ns.getD j 0 == ms.getD j 0) = decide (ns.getD j 0 = ms.getD j 0) := by
      by_cases q : ns.getD j 0 = ms.getD j 0
      · rw [decide_eq_true q]; exact beq_iff_eq.mpr q
      · rw [decide_eq_false q]; exact beq_eq_false_iff_ne.mpr q
    rw [← z]
    exact SeqAt.EqAt.int_int _ _ _ _) (fun j h1 h2 _ => by
    obtain ⟨t, et⟩ := at1 j h1
    obtain ⟨t', et'⟩ := at2 j h2
    rw [et, et']
    exact Ob.RcOp.gt_int _ _ _ _)
  rw [e1, e2, lexAt_gt ns ms 0 _ _ (fun j => by rw [Nat.zero_add]) (fun j => by rw [Nat.zero_add])] at R
  exact R X.prog X.w X.xe (EP X pins σ Q) ⟨.bl _, H, I, rfl, q⟩
def rGtG (K : PySem.W.Frag) : R2 := fun x y H Q => (rI0 fun i j => .bl (decide (j < i))) x y H Q ∨ rGtT K x y H Q
theorem op_gtG {X : Cx} (hu : X.A.units < cLine) : OpR X (compareOp .Gt) (rGtG X.K) := op_gt.or (op_gtT hu)
section
variable {K : PySem.W.Frag} {cg : Str → Option Value}
theorem g_lt : OpG K cg (rI0 fun i j => .bl (decide (i < j))) fLt := fun F H x y a b o Q e hx hy hf k => by
  unfold fLt at hf
  split at hf
  · cases hf
    rw [hx.int, hy.int]
    exact ⟨_, _, rfl, rfl, fin_s k e (.bl _)⟩
  · cases hf
theorem g_le : OpG K cg (rI0 fun i j => .bl (decide (i ≤ j))) fLe := fun F H x y a b o Q e hx hy hf k => by
  unfold fLe at hf
  split at hf
  · cases hf
    rw [hx.int, hy.int]
    exact ⟨_, _, rfl, rfl, fin_s k e (.bl _)⟩
  · cases hf
theorem g_ge : OpG K cg (rI0 fun i j => .bl (decide (j ≤ i))) fGe := fun F H x y a b o Q e hx hy hf k => by
  unfold fGe at hf
  split at hf
  · cases hf
    rw [hx.int, hy.int]
    exact ⟨_, _, rfl, rfl, fin_s k e (.bl _)⟩
  · cases hf
theorem g_gt : OpG K cg (rGtG K) fGt := fun F H x y a b o Q e hx hy hf k => by
  unfold fGt at hf
  split at hf
  · cases hf
    rw [hx.int, hy.int]
    exact .inl ⟨_, _, rfl, rfl, fin_s k e (.bl _)⟩
  · split at hf
    · rename_i ns ms e1 e2
      cases hf
      obtain ⟨p, vs, rfl, h1, h2⟩ := hx.tup
      obtain ⟨p', vs', rfl, h1', h2'⟩ := hy.tup
      rw [ints_map e1] at h2
      rw [ints_map e2] at h2'
      have z := dpa_ints_of _ h2
      have z' := dpa_ints_of _ h2'
      subst z
      subst z'
      exact .inr ⟨_, _, _, _, rfl, rfl, sqt_mono e h1, sqt_mono e h1', fin_s k e (.bl _)⟩
    · cases hf
  · cases hf
theorem g_eq : OpG K cg (rEqD K) fEq := fun F H x y a b o Q e hx hy hf k => by
  unfold fEq at hf
  split at hf
  · rename_i hz
    cases hf
    exact ⟨a, b, hx.dp e, hy.dp e, hz.1, hz.2, fin_s k e (.bl _)⟩
  · cases hf
theorem g_ne : OpG K cg (rNeD K) fNe := fun F H x y a b o Q e hx hy hf k => by
  unfold fNe at hf
  split at hf
  · rename_i hz
    cases hf
    exact ⟨a, b, hx.dp e, hy.dp e, hz.1, hz.2, fin_s k e (.bl _)⟩
  · cases hf
theorem Vw.isN {F H : Hp} {x : V} {d : PyData} (h : Vw K F H x d) : decide (x = V.non) = isNone d := by
  cases d with
  | none =>
    rw [h.non]
    rfl
  | list ds =>
    obtain ⟨p, vs, rfl, _⟩ := h
    rfl
  | int i =>
    rw [h.int]
    rfl
  | str i =>
    rw [h.str]
    rfl
  | bool i =>
    rw [h.bool]
    rfl
  | tuple ds =>
    obtain ⟨p, vs, rfl, _⟩ := h.tup
    rfl
  | dict kvs => cases (show Dq K F x (.dict kvs) from h)
theorem g_isN : OpG K cg (fun x y H Q => y = .non ∧ Q (.bl (decide (x = .non))) H) fIsN := fun F H x y a b o Q e hx hy hf k => by
  unfold fIsN at hf
  split at hf
  · rename_i hz
    cases hf
    have w := hy.isN
    rw [hz] at w
    refine ⟨of_decide_eq_true w, ?_⟩
    rw [hx.isN]
    exact fin_s k e (.bl _)
  · cases hf
theorem g_notN : OpG K cg (fun x y H Q => y = .non ∧ Q (.bl (!decide (x = .non))) H) fNotN := fun F H x y a b o Q e hx hy hf k => by
  unfold fNotN at hf
  split at hf
  · rename_i hz
    cases hf
    have w := hy.isN
    rw [hz] at w
    refine ⟨of_decide_eq_true w, ?_⟩
    rw [hx.isN]
    exact fin_s k e (.bl _)
  · cases hf
end

/-! ### items, slices -/
def od : Option PyData → Option OD
  | some d => some (.dat d)
  | none => none
def fIx : PyData → PyData → Option OD
  | .list ds, .int i => od (atI ds i)
  | .tuple ds, .int i => od (atI ds i)
  | .str z, .int i => if z.length ≤ zl then od ((atI z.cps.toList i).map fun c => .str ⟨#[c]⟩) else none
  | _, _ => none
theorem atI_dp {K : PySem.W.Frag} {F : Hp} {vs : List V} {ds : List PyData} {i : Int} {d : PyData} (h : DqA K F vs ds) (e : atI ds i = some d) : ∃ v, atI vs i = some v ∧ Dq K F v d := by
  unfold atI at e ⊢
  rw [dpa_len h]
  cases q : ixN ds.length i with
  | none =>
    rw [q] at e
    cases e
  | some j =>
    rw [q] at e
    exact dpa_get' h e
section
variable {K : PySem.W.Frag} {cg : Str → Option Value}
theorem g_ix : OpG K cg (rIx K) fIx := fun F H x y a b o Q e hx hy hf k => by
  unfold fIx at hf
  split at hf
  · rename_i ds i
    cases q : atI ds i with
    | none =>
      rw [q] at hf
      cases hf
    | some d =>
      rw [q] at hf
      cases hf
      obtain ⟨p, vs, rfl, h1, h2⟩ := hx
      rw [hy.int]
      obtain ⟨v, e1, e2⟩ := atI_dp h2 q
      exact .inl ⟨_, _, _, v, rfl, rfl, .of h1, e1, fin_s k e e2⟩
  · rename_i ds i
    cases q : atI ds i with
    | none =>
      rw [q] at hf
      cases hf
    | some d =>
      rw [q] at hf
      cases hf
      obtain ⟨p, vs, rfl, h1, h2⟩ := hx.tup
      rw [hy.int]
      obtain ⟨v, e1, e2⟩ := atI_dp h2 q
      exact .inr (.inl ⟨_, _, _, v, rfl, rfl, sqt_mono e h1, e1, fin_s k e e2⟩)
  · rename_i z i
    split at hf
    · rename_i hz
      cases q : atI z.cps.toList i with
      | none =>
        rw [q] at hf
        cases hf
      | some c =>
        rw [q] at hf
        cases hf
        rw [hx.str, hy.int]
        exact .inr (.inr ⟨_, _, c, rfl, rfl, zl_le hz, q, fin_s k e (.str _)⟩)
    · cases hf
  · cases hf
end
def cutD {α : Type} (xs : List α) (lo hi : Option Int) : List α := (xs.drop (HT.sIx xs.length 0 lo)).take (HT.sIx xs.length xs.length hi - HT.sIx xs.length 0 lo)
def fSl (d : PyData) (lo hi : Option Int) : Option OD :=
  match d with
  | .list ds => some (.lst (cutD ds lo hi))
  | .tuple ds => some (.dat (.tuple (cutD ds lo hi)))
  | _ => none
def rSlG (K : PySem.W.Frag) : V → Option Int → Option Int → Hp → VK → Prop := fun x lo hi H Q => rSlL K x lo hi H Q ∨ rSlA K x lo hi H Q
theorem sl_G {X : Cx} : SlR X (rSlG X.K) := sl_list.or sl_tupA
theorem dpa_cut {K : PySem.W.Frag} {F : Hp} {vs : List V} {ds : List PyData} (h : DqA K F vs ds) (lo hi : Option Int) : DqA K F (cutV vs lo hi) (cutD ds lo hi) := by
  unfold cutV cutD
  rw [dpa_len h]
  exact dpa_take _ (dpa_drop _ h)
theorem g_sl {K : PySem.W.Frag} {cg : Str → Option Value} {F H : Hp} {x : V} {a : PyData} {lo hi : Option Int} {o : OD} {Q : VK} (e : Same F H) (hx : Vw K F H x a) (hf : fSl a lo hi = some o)
    (k : ∀ v A F' H', Pst F H F' H' → Ow K cg F' H' v o A → (∀ q, A q → H q = none) → Q v H') : rSlG K x lo hi H Q := by
  unfold fSl at hf
  split at hf
  · cases hf
    obtain ⟨p, vs, rfl, h1, h2⟩ := hx
    exact .inl ⟨_, _, rfl, .of h1, fun p hp => fin_l k e hp (dpa_cut h2 lo hi)⟩
  · rename_i ds
    cases hf
    obtain ⟨p, vs, rfl, h1, h2⟩ := hx.tup
    refine .inr ⟨_, _, rfl, sqt_mono e h1, fun z => ?_, fun _ p hp => fin_t k e hp (dpa_cut h2 lo hi)⟩
    have w : cutD ds lo hi = ds := by
      unfold cutD
      rw [dpa_len h2] at z
      rw [z.1, z.2]
      simp
    rw [w] at k
    exact fin_s k e (.tup h1 h2)
  · cases hf

/-! ### built-in functions -/
def fLen : List PyData → Option OD
  | [.list ds] => oi ds.length
  | [.tuple ds] => oi ds.length
  | [.str z] => if z.length ≤ zl then oi z.length else none
  | _ => none
def fAbs : List PyData → Option OD
  | [.int i] => oi (if i < 0 then -i else i)
  | _ => none
def fMax2 : List PyData → Option OD
  | [.int i, .int j] => oi (if j > i then j else i)
  | _ => none
def fMin2 : List PyData → Option OD
  | [.int i, .int j] => oi (if j < i then j else i)
  | _ => none
def fInt : List PyData → Option OD
  | [.int i] => oi i
  | [.bool b] => oi (if b then 1 else 0)
  | _ => none
def fList : List PyData → Option OD
  | [.list ds] => some (.lst ds)
  | [.tuple ds] => some (.lst ds)
  | _ => none
def fTuple : List PyData → Option OD
  | [.list ds] => some (.dat (.tuple ds))
  | [.tuple ds] => some (.dat (.tuple ds))
  | _ => none
def bools : List PyData → Option (List Bool)
  | [] => some []
  | .bool b :: r => (bools r).map (b :: ·)
  | _ :: _ => none
theorem bools_map : ∀ {ds : List PyData} {ns : List Bool}, bools ds = some ns → ds = ns.map PyData.bool
  | [], _, h => by
    cases h
    rfl
  | .bool i :: r, ns, h => by
    unfold bools at h
    cases e : bools r with
    | none =>
      rw [e] at h
      cases h
    | some ms =>
      rw [e] at h
      cases h
      rw [bools_map e]
      rfl
  | .none :: _, _, h => by cases h
  | .int _ :: _, _, h => by cases h
  | .str _ :: _, _, h => by cases h
  | .list _ :: _, _, h => by cases h
  | .tuple _ :: _, _, h => by cases h
  | .dict _ :: _, _, h => by cases h
theorem bools_of : ∀ ns : List Bool, bools (ns.map PyData.bool) = some ns
  | [] => rfl
  | n :: ns => by
    show (bools (ns.map PyData.bool)).map (n :: ·) = some (n :: ns)
    rw [bools_of ns]
    rfl
theorem dpa_bools_of {K : PySem.W.Frag} {F : Hp} : ∀ (ns : List Bool) {vs : List V}, DqA K F vs (ns.map PyData.bool) → vs = ns.map V.bl
  | [], _, h => by
    cases h
    rfl
  | n :: ns, _, h => by
    cases h with
    | cons h1 h2 =>
      cases h1
      rw [dpa_bools_of ns h2]
      rfl
def fAll : List PyData → Option OD
  | [.list ds] => match bools ds with
    | some bs => ob (bs.all id)
    | none => none
  | _ => none
def fAny : List PyData → Option OD
  | [.list ds] => match bools ds with
    | some bs => ob (bs.any id)
    | none => none
  | _ => none
def fSum : List PyData → Option OD
  | [.list ds] => match intsD ds with
    | some ns => oi ns.sum
    | none => none
  | _ => none
def maxI : List Int → Int
  | [] => 0
  | [a] => a
  | a :: r => if maxI r > a then maxI r else a
def minI : List Int → Int
  | [] => 0
  | [a] => a
  | a :: r => if minI r < a then minI r else a
theorem maxI_is : ∀ {l : List Int} {m : Int}, m ∈ l → (∀ y ∈ l, y ≤ m) → m = maxI l
  | [], _, h, _ => by cases h
  | [a], m, h, _ => by
    rcases List.mem_singleton.mp h with rfl
    rfl
  | a :: b :: r, m, h, hm => by
    have ha := hm a (by simp)
    unfold maxI
    rcases List.mem_cons.mp h with e | h'
    · have hb : maxI (b :: r) ≤ m := by
        have : ∀ (l : List Int), l ≠ [] → maxI l ∈ l := by
          intro l
          induction l with
          | nil => intro z; exact absurd rfl z
          | cons x xs ih =>
            intro _
            cases xs with
            | nil => simp [maxI]
            | cons y ys =>
              unfold maxI
              split
              · exact List.mem_cons_of_mem _ (ih (by simp))
              · simp
        exact hm _ (List.mem_cons_of_mem _ (this (b :: r) (by simp)))
      rw [if_neg (by omega)]
      exact e
    · have ih := maxI_is (l := b :: r) h' fun y hy => hm y (List.mem_cons_of_mem _ hy)
      rw [← ih]
      split <;> omega
theorem minI_is : ∀ {l : List Int} {m : Int}, m ∈ l → (∀ y ∈ l, m ≤ y) → m = minI l
  | [], _, h, _ => by cases h
  | [a], m, h, _ => by
    rcases List.mem_singleton.mp h with rfl
    rfl
  | a :: b :: r, m, h, hm => by
    have ha := hm a (by simp)
    unfold minI
    rcases List.mem_cons.mp h with e | h'
    · have hb : m ≤ minI (b :: r) := by
        have : ∀ (l : List Int), l ≠ [] → minI l ∈ l := by
          intro l
          induction l with
          | nil => intro z; exact absurd rfl z
          | cons x xs ih =>
            intro _
            cases xs with
            | nil => simp [minI]
            | cons y ys =>
              unfold minI
              split
              · exact List.mem_cons_of_mem _ (ih (by simp))
              · simp
        exact hm _ (List.mem_cons_of_mem _ (this (b :: r) (by simp)))
      rw [if_neg (by omega)]
      exact e
    · have ih := minI_is (l := b :: r) h' fun y hy => hm y (List.mem_cons_of_mem _ hy)
      rw [← ih]
      split <;> omega
def fMaxL : List PyData → Option OD
  | [.list ds] => match intsD ds with
    | some (a :: r) => oi (maxI (a :: r))
    | _ => none
  | _ => none
def fMinL : List PyData → Option OD
  | [.list ds] => match intsD ds with
    | some (a :: r) => oi (minI (a :: r))
    | _ => none
  | _ => none
section
variable {K : PySem.W.Frag} {cg : Str → Option Value}
theorem g_len : CaG K cg (fun xs H Q => ∃ x n, xs = [x] ∧ LenV K x H n ∧ Q (.int n) H) fLen := fun F H xs as o Q e hx hf k => by
  unfold fLen at hf
  split at hf
  · rename_i ds
    cases hf
    cases hx with
    | cons h t =>
      cases t
      obtain ⟨p, vs, rfl, h1, h2⟩ := h
      refine ⟨_, ds.length, rfl, .inl ⟨vs, .of h1, (dpa_len h2).symm⟩, fin_s k e (.int _)⟩
  · rename_i ds
    cases hf
    cases hx with
    | cons h t =>
      cases t
      obtain ⟨p, vs, rfl, h1, h2⟩ := h.tup
      refine ⟨_, ds.length, rfl, .inr ⟨vs, sqt_mono e h1, (dpa_len h2).symm⟩, fin_s k e (.int _)⟩
  · rename_i z
    split at hf
    · rename_i hz
      cases hf
      cases hx with
      | cons h t =>
        cases t
        rw [h.str]
        exact ⟨_, z.length, rfl, ⟨zl_le hz, rfl⟩, fin_s k e (.int _)⟩
    · cases hf
  · cases hf
theorem g_abs : CaG K cg (fun xs H Q => ∃ i, xs = [.int i] ∧ Q (.int (if i < 0 then -i else i)) H) fAbs := fun F H xs as o Q e hx hf k => by
  unfold fAbs at hf
  split at hf
  · cases hf
    cases hx with
    | cons h t =>
      cases t
      rw [h.int]
      exact ⟨_, rfl, fin_s k e (.int _)⟩
  · cases hf
theorem g_max2 : CaG K cg (fun xs H Q => ∃ i j, xs = [.int i, .int j] ∧ Q (.int (if j > i then j else i)) H) fMax2 := fun F H xs as o Q e hx hf k => by
  unfold fMax2 at hf
  split at hf
  · cases hf
    cases hx with
    | cons h t =>
      cases t with
      | cons h' t =>
        cases t
        rw [h.int, h'.int]
        exact ⟨_, _, rfl, fin_s k e (.int _)⟩
  · cases hf
theorem g_min2 : CaG K cg (fun xs H Q => ∃ i j, xs = [.int i, .int j] ∧ Q (.int (if j < i then j else i)) H) fMin2 := fun F H xs as o Q e hx hf k => by
  unfold fMin2 at hf
  split at hf
  · cases hf
    cases hx with
    | cons h t =>
      cases t with
      | cons h' t =>
        cases t
        rw [h.int, h'.int]
        exact ⟨_, _, rfl, fin_s k e (.int _)⟩
  · cases hf
theorem g_int : CaG K cg (fun xs H Q => (∃ i, xs = [.int i] ∧ Q (.int i) H) ∨ ∃ k, xs = [.bl k] ∧ Q (.int (if k then 1 else 0)) H) fInt := fun F H xs as o Q e hx hf k => by
  unfold fInt at hf
  split at hf
  · cases hf
    cases hx with
    | cons h t =>
      cases t
      rw [h.int]
      exact .inl ⟨_, rfl, fin_s k e (.int _)⟩
  · cases hf
    cases hx with
    | cons h t =>
      cases t
      rw [h.bool]
      exact .inr ⟨_, rfl, fin_s k e (.int _)⟩
  · cases hf
theorem g_list : CaG K cg (fun xs H Q => ∃ p ys, xs = [.ref p] ∧ (SqL K H p ys ∨ SqT K H p ys) ∧ ∀ l, H l = none → Q (.ref l) (upd H l (.lst ys))) fList := fun F H xs as o Q e hx hf k => by
  unfold fList at hf
  split at hf
  · cases hf
    cases hx with
    | cons h t =>
      cases t
      obtain ⟨p, vs, rfl, h1, h2⟩ := h
      exact ⟨_, _, rfl, .inl (.of h1), fun p hp => fin_l k e hp h2⟩
  · cases hf
    cases hx with
    | cons h t =>
      cases t
      obtain ⟨p, vs, rfl, h1, h2⟩ := h.tup
      exact ⟨_, _, rfl, .inr (sqt_mono e h1), fun p hp => fin_l k e hp h2⟩
  · cases hf
theorem g_tuple : CaG K cg (fun xs H Q => ∃ p ys, xs = [.ref p] ∧ ((SqL K H p ys ∧ ∀ l, H l = none → Q (.ref l) (upd H l (.tup ys))) ∨ (SqT K H p ys ∧ Q (.ref p) H))) fTuple := fun F H xs as o Q e hx hf k => by
  unfold fTuple at hf
  split at hf
  · cases hf
    cases hx with
    | cons h t =>
      cases t
      obtain ⟨p, vs, rfl, h1, h2⟩ := h
      exact ⟨_, _, rfl, .inl ⟨.of h1, fun p hp => fin_t k e hp h2⟩⟩
  · cases hf
    cases hx with
    | cons h t =>
      cases t
      obtain ⟨p, vs, rfl, h1, h2⟩ := h.tup
      exact ⟨_, _, rfl, .inr ⟨sqt_mono e h1, fin_s k e (.tup h1 h2)⟩⟩
  · cases hf
theorem g_all : CaG K cg (rAll K) fAll := fun F H xs as o Q e hx hf k => by
  unfold fAll at hf
  split at hf
  · split at hf
    · rename_i bs eb
      cases hf
      cases hx with
      | cons h t =>
        cases t
        obtain ⟨p, vs, rfl, h1, h2⟩ := h
        rw [bools_map eb] at h2
        have z := dpa_bools_of _ h2
        subst z
        exact ⟨_, _, rfl, .of h1, fin_s k e (.bl _)⟩
    · cases hf
  · cases hf
theorem g_any : CaG K cg (rAny K) fAny := fun F H xs as o Q e hx hf k => by
  unfold fAny at hf
  split at hf
  · split at hf
    · rename_i bs eb
      cases hf
      cases hx with
      | cons h t =>
        cases t
        obtain ⟨p, vs, rfl, h1, h2⟩ := h
        rw [bools_map eb] at h2
        have z := dpa_bools_of _ h2
        subst z
        exact ⟨_, _, rfl, .of h1, fin_s k e (.bl _)⟩
    · cases hf
  · cases hf
theorem g_sum : CaG K cg (rSum K) fSum := fun F H xs as o Q e hx hf k => by
  unfold fSum at hf
  split at hf
  · split at hf
    · rename_i bs eb
      cases hf
      cases hx with
      | cons h t =>
        cases t
        obtain ⟨p, vs, rfl, h1, h2⟩ := h
        rw [ints_map eb] at h2
        have z := dpa_ints_of _ h2
        subst z
        exact ⟨_, _, rfl, .of h1, fin_s k e (.int _)⟩
    · cases hf
  · cases hf
theorem g_maxL : CaG K cg (rMax K) fMaxL := fun F H xs as o Q e hx hf k => by
  unfold fMaxL at hf
  split at hf
  · split at hf
    · rename_i a r eb
      cases hf
      cases hx with
      | cons h t =>
        cases t
        obtain ⟨p, vs, rfl, h1, h2⟩ := h
        rw [ints_map eb] at h2
        have z := dpa_ints_of _ h2
        subst z
        exact ⟨_, _, rfl, .of h1, by simp, fun m hm hy => fin_s k e (by rw [← maxI_is hm hy]; exact .int _)⟩
    · cases hf
  · cases hf
theorem g_minL : CaG K cg (rMin K) fMinL := fun F H xs as o Q e hx hf k => by
  unfold fMinL at hf
  split at hf
  · split at hf
    · rename_i a r eb
      cases hf
      cases hx with
      | cons h t =>
        cases t
        obtain ⟨p, vs, rfl, h1, h2⟩ := h
        rw [ints_map eb] at h2
        have z := dpa_ints_of _ h2
        subst z
        exact ⟨_, _, rfl, .of h1, by simp, fun m hm hy => fin_s k e (by rw [← minI_is hm hy]; exact .int _)⟩
    · cases hf
  · cases hf
end

/-! ### isinstance of a built-in class -/
def tyN : PyData → String
  | .none => "NoneType"
  | .bool _ => "bool"
  | .int _ => "int"
  | .str _ => "str"
  | .list _ => "list"
  | .tuple _ => "tuple"
  | .dict _ => "dict"
def fIs (T : String) (d : PyData) : Option Bool := kitB (tyN d) T
theorem Vw.ty {K : PySem.W.Frag} {F H : Hp} {x : V} {d : PyData} (e : Same F H) (h : Vw K F H x d) : TyX K H x (.type (tyN d)) := by
  cases d with
  | none =>
    rw [h.non]
    exact .base .non
  | list ds =>
    obtain ⟨p, vs, rfl, h1, _⟩ := h
    exact .base (.lst h1)
  | int i =>
    rw [h.int]
    exact .base (.int i)
  | str i =>
    rw [h.str]
    exact .base (.str i)
  | bool i =>
    rw [h.bool]
    exact .base (.bl i)
  | tuple ds =>
    obtain ⟨p, vs, rfl, h1, _⟩ := h.tup
    rcases h1 with (h1 | ⟨ob, h1⟩) | ⟨ob, its, n, h1, h2, _⟩
    · exact .base (.tup (e _ _ h1))
    · exact .fTuple (e _ _ h1)
    · exact .kTuple h1 h2
  | dict kvs => cases (show Dq K F x (.dict kvs) from h)
end VL
/-! The value layer, part 4: expressions of the text, their mirrors. -/
namespace VL
open PySem L2

/-- what an exception is wished to do, and what is known of the fixed values -/
structure Wz where
  x : WX
  Z : Pv → Prop
abbrev cgX (X : Cx) (W : Wz) : Cg := ⟨X.mg, W.Z⟩
def DV (X : Cx) (W : Wz) (e : Expr) (m : Gm → Out PyData) : Prop := ∃ t, PE X e t ∧ RV X.K (cgX X W) W.x t m
def DO (X : Cx) (W : Wz) (e : Expr) (m : Gm → Out OD) : Prop := ∃ t, PE X e t ∧ RO X.K (cgX X W) W.x t m
def DP (X : Cx) (W : Wz) (e : Expr) (m : Gm → Res PyData) : Prop := ∃ t, PE X e t ∧ RP X.K (cgX X W) W.x t m
def DW (X : Cx) (W : Wz) (e : Expr) (m : Gm → Res PyData) : Prop := ∃ t, PE X e t ∧ RW X.K (cgX X W) W.x t m
def DR (X : Cx) (W : Wz) (e : Expr) (m : Gm → Res OD) : Prop := ∃ t, PE X e t ∧ RR X.K (cgX X W) W.x t m
def DT (X : Cx) (W : Wz) (e : Expr) (m : Gm → Out Bool) : Prop := ∃ t, PT X e t ∧ RT X.K (cgX X W) W.x t m
def DA (X : Cx) (W : Wz) (es : List Expr) (m : Gm → Out (List PyData)) : Prop := ∃ t, PA X es t ∧ RA X.K (cgX X W) W.x t m
def DWA (X : Cx) (W : Wz) (es : List Expr) (m : Gm → Res (List PyData)) : Prop := ∃ t, PA X es t ∧ RWA X.K (cgX X W) W.x t m
/-- a test made of and, or -/
def DQ (X : Cx) (W : Wz) (e : Expr) (m : Gm → Out Bool) : Prop := ∃ t, PW X e t ∧ RT X.K (cgX X W) W.x t m

/-! ### mirrors -/
def vP (m : Gm → Res PyData) (g : Gm) : Out PyData := up (m g) g
def oR (m : Gm → Res OD) (g : Gm) : Out OD := up (m g) g
def oV (m : Gm → Out PyData) (g : Gm) : Out OD := (m g).bind fun d g => .ok (.dat d) g
def rP (m : Gm → Res PyData) (g : Gm) : Res OD := (m g).bind fun d => .ok (.dat d)
def vO (m : Gm → Out OD) (g : Gm) : Out PyData := (m g).bind fun o g => .of o.frz g
def pR (m : Gm → Res OD) (g : Gm) : Res PyData := (m g).bind fun o => .of o.frz
section
variable {X : Cx} {W : Wz} {e : Expr}
theorem DP.v {m : Gm → Res PyData} (h : DP X W e m) : DV X W e (vP m) := let ⟨t, a, b⟩ := h; ⟨t, a, b.v⟩
theorem DP.w {m : Gm → Res PyData} (h : DP X W e m) : DW X W e m := let ⟨t, a, b⟩ := h; ⟨t, a, b.w⟩
theorem DR.o {m : Gm → Res OD} (h : DR X W e m) : DO X W e (oR m) := let ⟨t, a, b⟩ := h; ⟨t, a, b.o⟩
theorem DV.o {m : Gm → Out PyData} (h : DV X W e m) : DO X W e (oV m) := let ⟨t, a, b⟩ := h; ⟨t, a, b.o⟩
theorem DP.r {m : Gm → Res PyData} (h : DP X W e m) : DR X W e (rP m) := let ⟨t, a, b⟩ := h; ⟨t, a, b.r⟩
theorem DO.v {m : Gm → Out OD} (h : DO X W e m) : DV X W e (vO m) := let ⟨t, a, b⟩ := h; ⟨t, a, b.v⟩
theorem DR.p {m : Gm → Res OD} (h : DR X W e m) : DP X W e (pR m) := let ⟨t, a, b⟩ := h; ⟨t, a, b.p⟩
end

/-! ### a name -/
section
variable {K : PySem.W.Frag} {cg : Cg} {W : WX}
def vFrz (i : Nat) (g : Gm) : Out PyData :=
  match (gt g i).od with
  | some o => match o.frz with
    | some d => .ok d (st g i ((gt g i).with (.dat d)))
    | none => .stk
  | none => .stk
theorem rv_frz (i : Nat) : RV K cg W (tVar i) (vFrz i) := fun pvs g σ S F H Q r q => by
  unfold vFrz at q
  cases e : (gt g i).od with
  | none =>
    rw [e] at q
    exact q.elim
  | some o =>
    rw [e] at q
    simp only at q
    obtain ⟨v, A, S1, e1, ow, hS, hd, back⟩ := r.take e
    cases ef : o.frz with
    | none =>
      rw [ef] at q
      exact q.elim
    | some d =>
      rw [ef] at q
      obtain ⟨dd, s1⟩ := stp_freeze (S := fun _ => False) ow ef r.fh
      have s2 : Stp A F H (fun _ => False) (more F H A) H := ⟨fun p u hs z => z, s1.fr, fun p u z => by
        rcases s1.nw p u z with y | y | y
        · exact .inl y
        · exact .inr (.inl y)
        · exact .inr (.inr (y.elim False.elim id)), fun p z => z.elim, s1.fh⟩
      obtain ⟨r2, s3⟩ := back (.dat d) (fun _ => False) (more F H A) H s2 (.dat dd fun _ z => z)
      exact ⟨v, e1, q v _ _ _ s3 r2 dd⟩
theorem Rel.mov {pvs : Pv} {g : Gm} {σ : L2.St} {S : Addr → Prop} {F H : Hp} {i : Nat} {o : OD} (r : Rel K cg pvs g σ S F H) (e : (gt g i).od = some o) :
    ∃ (v : V) (A S1 : Addr → Prop), σ[i]? = some (some v) ∧ Ow K cg F H v o A ∧ Rel K cg pvs (st g i .no) σ S1 F H ∧ (∀ q, A q → S1 q → False) ∧ ∀ q, S1 q ∨ A q → S q := by
  obtain ⟨L, h1, h2, h3⟩ := r.ex
  have hi : i < g.length := gt_lt fun z => by
    rw [z] at e
    cases e
  have key : ∃ v, σ[i]? = some (some v) ∧ Ow K cg F H v o (L i) := by
    have h := h1 i
    unfold SlOk at h
    cases q : gt g i with
    | no =>
      rw [q] at e
      cases e
    | v o1 =>
      rw [q] at e h
      cases e
      exact h
    | pin o1 =>
      rw [q] at e h
      cases e
      obtain ⟨v, e1, _, h⟩ := h
      exact ⟨v, e1, h⟩
    | al j n =>
      rw [q] at e
      cases e
    | xc =>
      rw [q] at e
      cases e
  obtain ⟨v, e1, ow⟩ := key
  refine ⟨v, L i, fun q => ∃ j, j ≠ i ∧ L j q, e1, ow, ⟨r.fh, by rw [st_len]; exact r.len, r.z, fun j => if j = i then fun _ => False else L j, fun j => ?_, fun j k q hjk hj hk => ?_, fun q => ?_⟩, fun q ha ⟨j, hj, hb⟩ => h2 j i q hj hb ha, fun q hq => ?_⟩
  · by_cases z : j = i
    · subst z
      simp only [if_true]
      unfold SlOk
      rw [gt_st hi]
      exact fun q hq => hq
    · simp only [if_neg z]
      have b := h1 j
      unfold SlOk at b ⊢
      rw [gt_st_ne z]
      exact b
  · by_cases z : j = i
    · simp only [if_pos z] at hj
    · by_cases y : k = i
      · simp only [if_pos y] at hk
      · simp only [if_neg z] at hj
        simp only [if_neg y] at hk
        exact h2 j k q hjk hj hk
  · refine ⟨fun ⟨j, hj, hq⟩ => ⟨j, by simp only [if_neg hj]; exact hq⟩, fun ⟨j, hj⟩ => ?_⟩
    by_cases z : j = i
    · simp only [if_pos z] at hj
    · simp only [if_neg z] at hj
      exact ⟨j, z, hj⟩
  · rcases hq with ⟨j, _, hq⟩ | hq
    · exact (h3 q).mpr ⟨j, hq⟩
    · exact (h3 q).mpr ⟨i, hq⟩
def oMov (i : Nat) (g : Gm) : Out OD :=
  match (gt g i).od with
  | some o => .ok o (st g i .no)
  | none => .stk
theorem ro_mov (i : Nat) : RO K cg W (tVar i) (oMov i) := fun pvs g σ S F H Q r q => by
  unfold oMov at q
  cases e : (gt g i).od with
  | none =>
    rw [e] at q
    exact q.elim
  | some o =>
    rw [e] at q
    obtain ⟨v, A, S1, e1, ow, r1, hd, hs⟩ := r.mov e
    exact ⟨v, e1, q v A S1 F H ((Stp.refl (S := S) r.fh).sub hs) r1 ow hd⟩
end
section
variable {X : Cx} {W : Wz}
theorem dp_var (i : Nat) {x : Str} {pos : Pos} (hN : X.N[i]? = some x := by rfl) (hv : Vis X.env.scope x := by first | exact Or.inl rfl | exact Or.inr (Or.inl rfl) | exact Or.inr (Or.inr rfl)) (hd : (x == ("__debug__" : Str)) = false := by decide)
    (hcd : (x == ("__classdict__" : Str)) = false := by decide) : DP X W (.Name x pos) (pVar i) := ⟨_, pv i hN hv hd hcd, rp_var i⟩
theorem dw_var (i : Nat) {x : Str} {pos : Pos} (hN : X.N[i]? = some x := by rfl) (hv : Vis X.env.scope x := by first | exact Or.inl rfl | exact Or.inr (Or.inl rfl) | exact Or.inr (Or.inr rfl)) (hd : (x == ("__debug__" : Str)) = false := by decide)
    (hcd : (x == ("__classdict__" : Str)) = false := by decide) : DW X W (.Name x pos) (wVar i) := ⟨_, pv i hN hv hd hcd, rw_var i⟩
theorem dv_frz (i : Nat) {x : Str} {pos : Pos} (hN : X.N[i]? = some x := by rfl) (hv : Vis X.env.scope x := by first | exact Or.inl rfl | exact Or.inr (Or.inl rfl) | exact Or.inr (Or.inr rfl)) (hd : (x == ("__debug__" : Str)) = false := by decide)
    (hcd : (x == ("__classdict__" : Str)) = false := by decide) : DV X W (.Name x pos) (vFrz i) := ⟨_, pv i hN hv hd hcd, rv_frz i⟩
theorem do_mov (i : Nat) {x : Str} {pos : Pos} (hN : X.N[i]? = some x := by rfl) (hv : Vis X.env.scope x := by first | exact Or.inl rfl | exact Or.inr (Or.inl rfl) | exact Or.inr (Or.inr rfl)) (hd : (x == ("__debug__" : Str)) = false := by decide)
    (hcd : (x == ("__classdict__" : Str)) = false := by decide) : DO X W (.Name x pos) (oMov i) := ⟨_, pv i hN hv hd hcd, ro_mov i⟩
theorem dp_int {i : Int} {j pos} : DP X W (.Constant (.int i) j pos) (pC (.int i)) := ⟨_, pe_int, rp_c fun _ => .int i⟩
theorem dp_bl {b : Bool} {j pos} : DP X W (.Constant (.bool b) j pos) (pC (.bool b)) := ⟨_, pe_bl, rp_c fun _ => .bl b⟩
theorem dp_non {j pos} : DP X W (.Constant .none j pos) (pC .none) := ⟨_, pe_non, rp_c fun _ => .non⟩
theorem dp_str {x : Str} {j pos} : DP X W (.Constant (.str x) j pos) (pC (.str x)) := ⟨_, pe_str, rp_c fun _ => .str x⟩
/-- a constant of the module -/
theorem dp_glob {x : Str} {v : V} {u : Value} {d : PyData} {pos : Pos} (hm : X.mg x = some u) (r : RelV v u) (h : ∀ F, Dq X.K F v d) (hg : Gl X x := by rfl) (hd : (x == ("__debug__" : Str)) = false := by decide) : DP X W (.Name x pos) (pC d) :=
  ⟨_, pe_glob hg hm r hd, rp_c h⟩
variable {a b c : Expr} {pos : Pos}
/-! ### operations -/
theorem dr_bin {op : Operator} {r : R2} {f : PyData → PyData → Option OD} {ma mb : Gm → Res PyData} (ho : OpR X (binaryOp op) r) (hg : OpG X.K X.mg r f) (ha : DW X W a ma) (hb : DW X W b mb) : DR X W (.BinOp a op b pos) (rOp f ma mb) :=
  let ⟨_, a1, a2⟩ := ha; let ⟨_, b1, b2⟩ := hb; ⟨_, pe_op ho a1 b1, RW.op hg a2 b2⟩
theorem do_bin {op : Operator} {r : R2} {f : PyData → PyData → Option OD} {ma mb : Gm → Out PyData} (ho : OpR X (binaryOp op) r) (hg : OpG X.K X.mg r f) (ha : DV X W a ma) (hb : DV X W b mb) : DO X W (.BinOp a op b pos) (oOp f ma mb) :=
  let ⟨_, a1, a2⟩ := ha; let ⟨_, b1, b2⟩ := hb; ⟨_, pe_op ho a1 b1, RV.op hg a2 b2⟩
theorem dr_cmp {op : CmpOp} {r : R2} {f : PyData → PyData → Option OD} {ma mb : Gm → Res PyData} (ho : OpR X (compareOp op) r) (hg : OpG X.K X.mg r f) (ha : DW X W a ma) (hb : DW X W b mb) (hm : behindInMarks op b = false := by first | exact nomark _ | with_unfolding_all rfl) : DR X W (.Compare a [op] [b] pos) (rOp f ma mb) :=
  let ⟨_, a1, a2⟩ := ha; let ⟨_, b1, b2⟩ := hb; ⟨_, pe_cmpR ho a1 b1 hm, RW.op hg a2 b2⟩
theorem do_cmp {op : CmpOp} {r : R2} {f : PyData → PyData → Option OD} {ma mb : Gm → Out PyData} (ho : OpR X (compareOp op) r) (hg : OpG X.K X.mg r f) (ha : DV X W a ma) (hb : DV X W b mb) (hm : behindInMarks op b = false := by first | exact nomark _ | with_unfolding_all rfl) : DO X W (.Compare a [op] [b] pos) (oOp f ma mb) :=
  let ⟨_, a1, a2⟩ := ha; let ⟨_, b1, b2⟩ := hb; ⟨_, pe_cmpR ho a1 b1 hm, RV.op hg a2 b2⟩
theorem dr_ix {ma mb : Gm → Res PyData} (ha : DW X W a ma) (hb : DW X W b mb) (hs : PlainIx b := by exact fun _ _ => rfl) : DR X W (.Subscript a b pos) (rOp fIx ma mb) :=
  let ⟨_, a1, a2⟩ := ha; let ⟨_, b1, b2⟩ := hb; ⟨_, pe_ix ix_seq a1 b1 hs, RW.op g_ix a2 b2⟩
theorem do_ix {ma mb : Gm → Out PyData} (ha : DV X W a ma) (hb : DV X W b mb) (hs : PlainIx b := by exact fun _ _ => rfl) : DO X W (.Subscript a b pos) (oOp fIx ma mb) :=
  let ⟨_, a1, a2⟩ := ha; let ⟨_, b1, b2⟩ := hb; ⟨_, pe_ix ix_seq a1 b1 hs, RV.op g_ix a2 b2⟩
end
/-! ### a op b op' c -/
def tst (d : PyData) (g : Gm) : Out Bool :=
  match d with
  | .bool b => .ok b g
  | _ => .stk
def vChain (f f' : PyData → PyData → Option OD) (ma mb mc : Gm → Out PyData) (g : Gm) : Out OD :=
  (ma g).bind fun a g1 => (mb g1).bind fun b g2 => match f a b with
    | some (.dat (.bool true)) => (mc g2).bind fun c g3 => .of (f' b c) g3
    | some (.dat (.bool false)) => .ok (.dat (.bool false)) g2
    | _ => .stk
section
variable {K : PySem.W.Frag} {cg : Cg} {W : WX} {pvs : Pv} {g : Gm} {σ : L2.St} {S S1 S' A : Addr → Prop} {F F1 F' H H1 H' : Hp}
/-- the owned post at a value of plain data -/
theorem PoO.dat {Q : VK} {d : PyData} {v : V} (q : PoO K cg W pvs σ S F H Q (.ok (.dat d) g)) (s : Stp S F H S' F' H') (r : Rel K cg pvs g σ S' F' H') (h : Dq K F' v d) : Q v H' :=
  q v (fun _ => False) S' F' H' (s.sub fun p hp => hp.elim id False.elim) r (.dat h fun _ z => z) fun _ z _ => z
theorem RV.chain {r r' : R2} {f f' : PyData → PyData → Option OD} {ta tb tc : TE} {ma mb mc : Gm → Out PyData} (ho : OpG K cg r f) (ho' : OpG K cg r' f') (ha : RV K cg W ta ma) (hb : RV K cg W tb mb) (hc : RV K cg W tc mc) :
    RO K cg W (tChain r r' ta tb tc) (vChain f f' ma mb mc) := fun pvs g σ S F H Q rl q => by
  refine ha pvs g σ S F H _ rl ?_
  unfold vChain at q
  cases e : ma g with
  | ok a g1 =>
    rw [e] at q
    intro v S1 F1 H1 s1 r1 d1
    refine hb pvs g1 σ S1 F1 H1 _ r1 ?_
    simp only [Out.bind] at q
    have q := PoO.st q s1
    cases e2 : mb g1 with
    | ok b g2 =>
      rw [e2] at q
      intro w S2 F2 H2 s2 r2 d2
      simp only at q
      have q := PoO.st q s2
      cases e3 : f a b with
      | none =>
        rw [e3] at q
        exact q.elim
      | some o =>
        rw [e3] at q
        refine ho F2 H2 v w a b o _ r2.fh ((dp_mo d1 s2.fr).vw r2.fh) (d2.vw r2.fh) e3 fun z A F3 H3 p3 ow fr => ?_
        have q := PoO.st q (p3.stp (S := S2))
        cases ow with
        | dat hd _ =>
          rename_i d
          cases hd with
          | bl k =>
            cases k with
            | true =>
              refine ⟨true, rfl, ?_⟩
              rw [if_pos rfl]
              refine hc pvs g2 σ S2 F3 H3 _ (r2.pst p3) ?_
              simp only at q
              cases e4 : mc g2 with
              | ok c g3 =>
                rw [e4] at q
                intro w' S4 F4 H4 s4 r4 d4
                simp only at q
                have q := PoO.st q s4
                cases e5 : f' b c with
                | none =>
                  rw [e5] at q
                  exact q.elim
                | some o' =>
                  rw [e5] at q
                  exact ho' F4 H4 w w' b c o' Q r4.fh ((dp_mo (dp_mo d2 p3.fr) s4.fr).vw r4.fh) (d4.vw r4.fh) e5 fun u A F5 H5 p5 ow5 fr5 => q u A S4 F5 H5 (p5.stpA fr5) (r4.pst p5) ow5 (r4.apart fr5)
              | err e' g3 =>
                rw [e4] at q
                exact q
              | stk =>
                rw [e4] at q
                exact q.elim
            | false =>
              refine ⟨false, rfl, ?_⟩
              rw [if_neg Bool.false_ne_true]
              exact PoO.dat q (.refl p3.fh) (r2.pst p3) (.bl false)
          | non => exact q.elim
          | int i => exact q.elim
          | str x => exact q.elim
          | lst h1 h2 => exact q.elim
          | tup h1 h2 => exact q.elim
        | lst h1 h2 h3 h4 => exact q.elim
        | dk h1 h2 h3 h4 h5 => exact q.elim
        | dt h1 h2 h3 h4 h5 => exact q.elim
        | nd h1 h2 h3 h4 h5 h6 h7 h8 => exact q.elim
        | scr h1 h2 => exact q.elim
        | exc h2 => exact q.elim
        | tk h1 h2 => exact q.elim
        | fz h1 h3 h4 h5 h7 h8 => exact q.elim
    | err e' g2 =>
      rw [e2] at q
      exact q
    | stk =>
      rw [e2] at q
      exact q.elim
  | err e' g1 =>
    rw [e] at q
    exact q
  | stk =>
    rw [e] at q
    exact q.elim
/-! ### tests -/
def tV (m : Gm → Out PyData) (g : Gm) : Out Bool := (m g).bind tst
theorem rt_b {t : TE} {m : Gm → Out PyData} (h : RV K cg W t m) : RT K cg W (tB t) (tV m) := fun pvs g σ S F H Q r q => by
  refine h pvs g σ S F H _ r ?_
  unfold tV at q
  cases e : m g with
  | ok d g1 =>
    rw [e] at q
    intro v S1 F1 H1 s1 r1 d1
    cases d1 with
    | bl b => exact ⟨b, rfl, q S1 F1 H1 s1 r1⟩
    | non => exact q.elim
    | int i => exact q.elim
    | str x => exact q.elim
    | lst h1 h2 => exact q.elim
    | tup h1 h2 => exact q.elim
  | err e' g1 =>
    rw [e] at q
    exact q
  | stk =>
    rw [e] at q
    exact q.elim
def tAndM (ma mb : Gm → Out Bool) (g : Gm) : Out Bool := (ma g).bind fun a g1 => if a = true then mb g1 else .ok false g1
def tOrM (ma mb : Gm → Out Bool) (g : Gm) : Out Bool := (ma g).bind fun a g1 => if a = true then .ok true g1 else mb g1
def tNotM (ma : Gm → Out Bool) (g : Gm) : Out Bool := (ma g).bind fun a g1 => .ok (!a) g1
theorem rt_and {t u : TT} {ma mb : Gm → Out Bool} (ha : RT K cg W t ma) (hb : RT K cg W u mb) : RT K cg W (tAnd t u) (tAndM ma mb) := fun pvs g σ S F H Q r q => by
  refine ha pvs g σ S F H _ r ?_
  unfold tAndM at q
  cases e : ma g with
  | ok a g1 =>
    rw [e] at q
    intro S1 F1 H1 s1 r1
    have q := PoT.st q s1
    cases a with
    | true => exact hb pvs g1 σ S1 F1 H1 Q r1 q
    | false => exact q S1 F1 H1 (.refl r1.fh) r1
  | err e' g1 =>
    rw [e] at q
    exact q
  | stk =>
    rw [e] at q
    exact q.elim
theorem rt_or {t u : TT} {ma mb : Gm → Out Bool} (ha : RT K cg W t ma) (hb : RT K cg W u mb) : RT K cg W (tOr t u) (tOrM ma mb) := fun pvs g σ S F H Q r q => by
  refine ha pvs g σ S F H _ r ?_
  unfold tOrM at q
  cases e : ma g with
  | ok a g1 =>
    rw [e] at q
    intro S1 F1 H1 s1 r1
    have q := PoT.st q s1
    cases a with
    | false => exact hb pvs g1 σ S1 F1 H1 Q r1 q
    | true => exact q S1 F1 H1 (.refl r1.fh) r1
  | err e' g1 =>
    rw [e] at q
    exact q
  | stk =>
    rw [e] at q
    exact q.elim
theorem rt_not {t : TT} {ma : Gm → Out Bool} (ha : RT K cg W t ma) : RT K cg W (tNot t) (tNotM ma) := fun pvs g σ S F H Q r q => by
  refine ha pvs g σ S F H _ r ?_
  unfold tNotM at q
  cases e : ma g with
  | ok a g1 =>
    rw [e] at q
    exact fun S1 F1 H1 s1 r1 => q S1 F1 H1 s1 r1
  | err e' g1 =>
    rw [e] at q
    exact q
  | stk =>
    rw [e] at q
    exact q.elim
/-! ### and, or, not of bools as values -/
def vAnd (ma mb : Gm → Out PyData) (g : Gm) : Out PyData := (ma g).bind fun d g1 => match d with
  | .bool true => mb g1
  | .bool false => .ok (.bool false) g1
  | _ => .stk
def vOr (ma mb : Gm → Out PyData) (g : Gm) : Out PyData := (ma g).bind fun d g1 => match d with
  | .bool false => mb g1
  | .bool true => .ok (.bool true) g1
  | _ => .stk
def vNot (ma : Gm → Out PyData) (g : Gm) : Out PyData := (ma g).bind fun d g1 => match d with
  | .bool b => .ok (.bool (!b)) g1
  | _ => .stk
theorem rv_and {t u : TE} {ma mb : Gm → Out PyData} (ha : RV K cg W t ma) (hb : RV K cg W u mb) : RV K cg W (tAndV t u) (vAnd ma mb) := fun pvs g σ S F H Q r q => by
  refine ha pvs g σ S F H _ r ?_
  unfold vAnd at q
  cases e : ma g with
  | ok d g1 =>
    rw [e] at q
    intro v S1 F1 H1 s1 r1 d1
    have q := PoV.st q s1
    cases d1 with
    | bl b =>
      refine ⟨b, rfl, ?_⟩
      cases b with
      | true => exact hb pvs g1 σ S1 F1 H1 Q r1 q
      | false => exact q _ S1 F1 H1 (.refl r1.fh) r1 (.bl false)
    | non => exact q.elim
    | int i => exact q.elim
    | str x => exact q.elim
    | lst h1 h2 => exact q.elim
    | tup h1 h2 => exact q.elim
  | err e' g1 =>
    rw [e] at q
    exact q
  | stk =>
    rw [e] at q
    exact q.elim
theorem rv_or {t u : TE} {ma mb : Gm → Out PyData} (ha : RV K cg W t ma) (hb : RV K cg W u mb) : RV K cg W (tOrV t u) (vOr ma mb) := fun pvs g σ S F H Q r q => by
  refine ha pvs g σ S F H _ r ?_
  unfold vOr at q
  cases e : ma g with
  | ok d g1 =>
    rw [e] at q
    intro v S1 F1 H1 s1 r1 d1
    have q := PoV.st q s1
    cases d1 with
    | bl b =>
      refine ⟨b, rfl, ?_⟩
      cases b with
      | false => exact hb pvs g1 σ S1 F1 H1 Q r1 q
      | true => exact q _ S1 F1 H1 (.refl r1.fh) r1 (.bl true)
    | non => exact q.elim
    | int i => exact q.elim
    | str x => exact q.elim
    | lst h1 h2 => exact q.elim
    | tup h1 h2 => exact q.elim
  | err e' g1 =>
    rw [e] at q
    exact q
  | stk =>
    rw [e] at q
    exact q.elim
theorem rv_not {t : TE} {ma : Gm → Out PyData} (ha : RV K cg W t ma) : RV K cg W (tNotV t) (vNot ma) := fun pvs g σ S F H Q r q => by
  refine ha pvs g σ S F H _ r ?_
  unfold vNot at q
  cases e : ma g with
  | ok d g1 =>
    rw [e] at q
    intro v S1 F1 H1 s1 r1 d1
    have q := PoV.st q s1
    cases d1 with
    | bl b => exact ⟨b, rfl, q _ S1 F1 H1 (.refl r1.fh) r1 (.bl _)⟩
    | non => exact q.elim
    | int i => exact q.elim
    | str x => exact q.elim
    | lst h1 h2 => exact q.elim
    | tup h1 h2 => exact q.elim
  | err e' g1 =>
    rw [e] at q
    exact q
  | stk =>
    rw [e] at q
    exact q.elim
def vIf (mt : Gm → Out Bool) (ma mb : Gm → Out PyData) (g : Gm) : Out PyData := (mt g).bind fun b g1 => if b = true then ma g1 else mb g1
theorem rv_if {tt : TT} {t u : TE} {mt : Gm → Out Bool} {ma mb : Gm → Out PyData} (ht : RT K cg W tt mt) (ha : RV K cg W t ma) (hb : RV K cg W u mb) : RV K cg W (tIf tt t u) (vIf mt ma mb) := fun pvs g σ S F H Q r q => by
  refine ht pvs g σ S F H _ r ?_
  unfold vIf at q
  cases e : mt g with
  | ok b g1 =>
    rw [e] at q
    intro S1 F1 H1 s1 r1
    have q := PoV.st q s1
    cases b with
    | true => exact ha pvs g1 σ S1 F1 H1 Q r1 q
    | false => exact hb pvs g1 σ S1 F1 H1 Q r1 q
  | err e' g1 =>
    rw [e] at q
    exact q
  | stk =>
    rw [e] at q
    exact q.elim
/-! ### x or y of any values, by truth -/
def tru : PyData → Option Bool
  | .none => some false
  | .bool b => some b
  | .int i => some (i != 0)
  | .str y => if y.length ≤ zl then some ((y.length : Int) != 0) else none
  | .list ds => some (!ds.isEmpty)
  | .tuple ds => some (!ds.isEmpty)
  | .dict _ => none
theorem dpa_empty {vs : List V} {ds : List PyData} (h : DqA K F vs ds) : vs.isEmpty = ds.isEmpty := by
  cases h <;> rfl
theorem tru_v {v : V} {d : PyData} {b : Bool} (h : Dq K F v d) (e : Same F H) (hb : tru d = some b) : TruV K v H b := by
  cases h with
  | non =>
    cases hb
    rfl
  | bl b =>
    cases hb
    rfl
  | int i =>
    cases hb
    rfl
  | str x =>
    have hb : (if x.length ≤ zl then some ((x.length : Int) != 0) else none) = some b := hb
    split at hb
    · rename_i hz
      cases hb
      exact ⟨zl_le hz, rfl⟩
    · cases hb
  | lst h1 h2 =>
    cases hb
    exact .inl ⟨_, .of (e _ _ h1), by rw [dpa_empty h2]⟩
  | tup h1 h2 =>
    cases hb
    exact .inr (.inl ⟨_, sqt_mono e h1, by rw [dpa_empty h2]⟩)
def vOrT (ma mb : Gm → Out PyData) (g : Gm) : Out PyData := (ma g).bind fun d g1 => match tru d with
  | some true => .ok d g1
  | some false => mb g1
  | none => .stk
theorem rv_orT {t u : TE} {ma mb : Gm → Out PyData} (ha : RV K cg W t ma) (hb : RV K cg W u mb) : RV K cg W (tOrT K t u) (vOrT ma mb) := fun pvs g σ S F H Q r q => by
  refine ha pvs g σ S F H _ r ?_
  unfold vOrT at q
  cases e : ma g with
  | ok d g1 =>
    rw [e] at q
    intro v S1 F1 H1 s1 r1 d1
    have q := PoV.st q s1
    cases eb : tru d with
    | none =>
      simp only [Out.bind, eb] at q
      exact q.elim
    | some b =>
      simp only [Out.bind, eb] at q
      refine ⟨b, tru_v d1 r1.fh eb, ?_⟩
      cases b with
      | false => exact hb pvs g1 σ S1 F1 H1 Q r1 q
      | true => exact q _ S1 F1 H1 (.refl r1.fh) r1 d1
  | err e' g1 =>
    rw [e] at q
    exact q
  | stk =>
    rw [e] at q
    exact q.elim
def vNotT (ma : Gm → Out PyData) (g : Gm) : Out PyData := (ma g).bind fun d g1 => match tru d with
  | some b => .ok (.bool (!b)) g1
  | none => .stk
/-! ### displays -/
def oTup (m : Gm → Out (List PyData)) (g : Gm) : Out OD := (m g).bind fun ds g1 => if ds.length ≤ zl then .ok (.dat (.tuple ds)) g1 else .stk
def oLst (m : Gm → Out (List PyData)) (g : Gm) : Out OD := (m g).bind fun ds g1 => if ds.length ≤ zl then .ok (.lst ds) g1 else .stk
theorem ro_tup {t : TA} {m : Gm → Out (List PyData)} (h : RA K cg W t m) : RO K cg W (tTup t) (oTup m) := fun pvs g σ S F H Q r q => by
  refine h pvs g σ S F H _ r ?_
  unfold oTup at q
  cases e : m g with
  | ok ds g1 =>
    rw [e] at q
    intro vs S1 F1 H1 s1 r1 d1
    simp only [Out.bind] at q
    have q := PoO.st q s1
    split at q
    · rename_i hz
      refine ⟨by rw [dpa_len d1]; exact zl_le hz, fun p hp => ?_⟩
      exact fin_t (fun v A F' H' p3 ow fr => q v A S1 F' H' (p3.stpA fr) (r1.pst p3) ow (r1.apart fr)) r1.fh hp d1
    · exact q.elim
  | err e' g1 =>
    rw [e] at q
    exact q
  | stk =>
    rw [e] at q
    exact q.elim
theorem ro_lst {t : TA} {m : Gm → Out (List PyData)} (h : RA K cg W t m) : RO K cg W (tLst t) (oLst m) := fun pvs g σ S F H Q r q => by
  refine h pvs g σ S F H _ r ?_
  unfold oLst at q
  cases e : m g with
  | ok ds g1 =>
    rw [e] at q
    intro vs S1 F1 H1 s1 r1 d1
    simp only [Out.bind] at q
    have q := PoO.st q s1
    split at q
    · rename_i hz
      refine ⟨by rw [dpa_len d1]; exact zl_le hz, fun p hp => ?_⟩
      exact fin_l (fun v A F' H' p3 ow fr => q v A S1 F' H' (p3.stpA fr) (r1.pst p3) ow (r1.apart fr)) r1.fh hp d1
    · exact q.elim
  | err e' g1 =>
    rw [e] at q
    exact q
  | stk =>
    rw [e] at q
    exact q.elim
/-! ### slices -/
def PoN (K : PySem.W.Frag) (cg : Cg) (W : WX) (pvs : Pv) (σ : L2.St) (S : Addr → Prop) (F H : Hp) (Q : Option Int → Hp → Prop) : Out (Option Int) → Prop
  | .ok n g => ∀ S' F' H', Stp S F H S' F' H' → Rel K cg pvs g σ S' F' H' → Q n H'
  | .err e g => ErrP K cg W pvs σ S F H e g
  | .stk => False
def RN (K : PySem.W.Frag) (cg : Cg) (W : WX) (t : L2.TO) (m : Gm → Out (Option Int)) : Prop := ∀ pvs g σ S F H Q, Rel K cg pvs g σ S F H → PoN K cg W pvs σ S F H Q (m g) → t σ H Q
theorem PoN.st {Q : Option Int → Hp → Prop} {x : Out (Option Int)} (h : PoN K cg W pvs σ S F H Q x) (a : Stp S F H S1 F1 H1) : PoN K cg W pvs σ S1 F1 H1 Q x := by
  cases x with
  | ok d g => exact fun S' F' H' b r => h S' F' H' (a.trans b) r
  | err e g => exact ErrP.st h a
  | stk => exact h
def nNone (g : Gm) : Out (Option Int) := .ok none g
def nSome (m : Gm → Out PyData) (g : Gm) : Out (Option Int) := (m g).bind fun d g1 => match d with
  | .int i => .ok (some i) g1
  | _ => .stk
theorem rn_none : RN K cg W tNoPart nNone := fun pvs g σ S F H Q r q => q S F H (.refl r.fh) r
theorem rn_some {t : TE} {m : Gm → Out PyData} (h : RV K cg W t m) : RN K cg W (tPart t) (nSome m) := fun pvs g σ S F H Q r q => by
  refine h pvs g σ S F H _ r ?_
  unfold nSome at q
  cases e : m g with
  | ok d g1 =>
    rw [e] at q
    intro v S1 F1 H1 s1 r1 d1
    cases d1 with
    | int i => exact ⟨i, rfl, q S1 F1 H1 s1 r1⟩
    | bl b => exact q.elim
    | non => exact q.elim
    | str x => exact q.elim
    | lst h1 h2 => exact q.elim
    | tup h1 h2 => exact q.elim
  | err e' g1 =>
    rw [e] at q
    exact q
  | stk =>
    rw [e] at q
    exact q.elim
def oSl (m : Gm → Out PyData) (ml mh : Gm → Out (Option Int)) (g : Gm) : Out OD := (m g).bind fun d g1 => (ml g1).bind fun lo g2 => (mh g2).bind fun hi g3 => .of (fSl d lo hi) g3
theorem ro_sl {t : TE} {tl th : L2.TO} {m : Gm → Out PyData} {ml mh : Gm → Out (Option Int)} (h : RV K cg W t m) (hl : RN K cg W tl ml) (hh : RN K cg W th mh) : RO K cg W (tSl (rSlG K) t tl th) (oSl m ml mh) := fun pvs g σ S F H Q r q => by
  refine h pvs g σ S F H _ r ?_
  unfold oSl at q
  cases e : m g with
  | ok d g1 =>
    rw [e] at q
    intro v S1 F1 H1 s1 r1 d1
    refine hl pvs g1 σ S1 F1 H1 _ r1 ?_
    simp only [Out.bind] at q
    have q := PoO.st q s1
    cases e2 : ml g1 with
    | ok lo g2 =>
      rw [e2] at q
      intro S2 F2 H2 s2 r2
      refine hh pvs g2 σ S2 F2 H2 _ r2 ?_
      simp only at q
      have q := PoO.st q s2
      cases e3 : mh g2 with
      | ok hi g3 =>
        rw [e3] at q
        intro S3 F3 H3 s3 r3
        simp only at q
        have q := PoO.st q s3
        cases e4 : fSl d lo hi with
        | none =>
          rw [e4] at q
          exact q.elim
        | some o =>
          rw [e4] at q
          exact g_sl r3.fh ((dp_mo (dp_mo d1 s2.fr) s3.fr).vw r3.fh) e4 fun u A F5 H5 p5 ow5 fr5 => q u A S3 F5 H5 (p5.stpA fr5) (r3.pst p5) ow5 (r3.apart fr5)
      | err e' g3 =>
        rw [e3] at q
        exact q
      | stk =>
        rw [e3] at q
        exact q.elim
    | err e' g2 =>
      rw [e2] at q
      exact q
    | stk =>
      rw [e2] at q
      exact q.elim
  | err e' g1 =>
    rw [e] at q
    exact q
  | stk =>
    rw [e] at q
    exact q.elim
/-- a slice of a list that is owned: bounds without effects -/
def rSl (m : Gm → Res PyData) (lo hi : Option Int) (g : Gm) : Res OD := (m g).bind fun d => .of (fSl d lo hi)
/-! ### isinstance -/
def vIs (T : String) (m : Gm → Out PyData) (g : Gm) : Out PyData := (m g).bind fun d g1 => match fIs T d with
  | some b => .ok (.bool b) g1
  | none => .stk
theorem rv_is {t : TE} {m : Gm → Out PyData} {T : String} (h : RV K cg W t m) : RV K cg W (tCB (rIsi K) (tCons t (tCons (tC (.ty T)) tNil))) (vIs T m) := fun pvs g σ S F H Q r q => by
  refine h pvs g σ S F H _ r ?_
  unfold vIs at q
  cases e : m g with
  | ok d g1 =>
    rw [e] at q
    intro v S1 F1 H1 s1 r1 d1
    cases eb : fIs T d with
    | none =>
      simp only [eb, Out.bind] at q
      exact q.elim
    | some b =>
      simp only [eb, Out.bind] at q
      exact ⟨v, .ty T, .type (tyN d), .type T, b, rfl, .ty T, (d1.vw r1.fh).ty r1.fh, kit_ty eb, q _ S1 F1 H1 s1 r1 (.bl b)⟩
  | err e' g1 =>
    rw [e] at q
    exact q
  | stk =>
    rw [e] at q
    exact q.elim
end
section
variable {X : Cx} {W : Wz} {a b c : Expr} {pos : Pos}
theorem do_chain {op op' : CmpOp} {r r' : R2} {f f' : PyData → PyData → Option OD} {ma mb mc : Gm → Out PyData} (ho : OpR X (compareOp op) r) (ho' : OpR X (compareOp op') r') (hg : OpG X.K X.mg r f) (hg' : OpG X.K X.mg r' f') (ha : DV X W a ma) (hb : DV X W b mb) (hc : DV X W c mc)
    (hm : lastMarks [op, op'] [b, c] = false := by with_unfolding_all rfl) : DO X W (.Compare a [op, op'] [b, c] pos) (vChain f f' ma mb mc) :=
  let ⟨_, a1, a2⟩ := ha; let ⟨_, b1, b2⟩ := hb; let ⟨_, c1, c2⟩ := hc; ⟨_, pe_chain ho ho' a1 b1 c1 hm, RV.chain hg hg' a2 b2 c2⟩
theorem dt_val {m : Gm → Out PyData} (h : DV X W a m) (he : ∀ whole, isTrue a X.env whole = (do let v ← whole; standAt a.pos; holding [v] (truthy v)) := by intro _; rfl) : DT X W a (tV m) := let ⟨_, h1, h2⟩ := h; ⟨_, pt_val h1 he, rt_b h2⟩
theorem rt_test {K : PySem.W.Frag} {cg : Cg} {W : WX} {t : TE} {m : Gm → Out PyData} (h : RV K cg W t m) : RT K cg W (tTest t) (tV m) := rt_b h
theorem dt_cmp {op : CmpOp} {r : R2} {f : PyData → PyData → Option OD} {ma mb : Gm → Out PyData} (ho : OpR X (compareOp op) r) (hg : OpG X.K X.mg r f) (ha : DV X W a ma) (hb : DV X W b mb) (hm : behindInMarks op b = false := by first | exact nomark _ | with_unfolding_all rfl) : DT X W (.Compare a [op] [b] pos) (tV (vO (oOp f ma mb))) :=
  let ⟨_, a1, a2⟩ := ha; let ⟨_, b1, b2⟩ := hb; ⟨_, pt_cmpR ho a1 b1 hm, rt_test (RO.v (RV.op hg a2 b2))⟩
theorem dt_cmpW {op : CmpOp} {r : R2} {f : PyData → PyData → Option OD} {ma mb : Gm → Res PyData} (ho : OpR X (compareOp op) r) (hg : OpG X.K X.mg r f) (ha : DW X W a ma) (hb : DW X W b mb) (hm : behindInMarks op b = false := by first | exact nomark _ | with_unfolding_all rfl) : DT X W (.Compare a [op] [b] pos) (tV (vP (pR (rOp f ma mb)))) :=
  let ⟨_, a1, a2⟩ := ha; let ⟨_, b1, b2⟩ := hb; ⟨_, pt_cmpR ho a1 b1 hm, rt_test (RP.v (RR.p (RW.op hg a2 b2)))⟩
theorem dt_chain {op op' : CmpOp} {r r' : R2} {f f' : PyData → PyData → Option OD} {ma mb mc : Gm → Out PyData} (ho : OpR X (compareOp op) r) (ho' : OpR X (compareOp op') r') (hg : OpG X.K X.mg r f) (hg' : OpG X.K X.mg r' f') (ha : DV X W a ma) (hb : DV X W b mb) (hc : DV X W c mc)
    (hm : lastMarks [op, op'] [b, c] = false := by with_unfolding_all rfl) : DT X W (.Compare a [op, op'] [b, c] pos) (tV (vO (vChain f f' ma mb mc))) :=
  let ⟨_, a1, a2⟩ := ha; let ⟨_, b1, b2⟩ := hb; let ⟨_, c1, c2⟩ := hc; ⟨_, pt_chain ho ho' a1 b1 c1 hm, rt_test (RO.v (RV.chain hg hg' a2 b2 c2))⟩
theorem dt_not {m : Gm → Out Bool} (h : DT X W a m) : DT X W (.UnaryOp .Not a pos) (tNotM m) := let ⟨_, h1, h2⟩ := h; ⟨_, pt_not h1, rt_not h2⟩
theorem DQ.t {m : Gm → Out Bool} (h : DQ X W a m) : DT X W a m := let ⟨_, h1, h2⟩ := h; ⟨_, h1.pt, h2⟩
variable {rest : List Expr}
theorem dq_and1 {m : Gm → Out Bool} (h : DT X W a m) : DQ X W (.BoolOp .And [a] pos) m := let ⟨_, h1, h2⟩ := h; ⟨_, pw_and1 h1, h2⟩
theorem dq_or1 {m : Gm → Out Bool} (h : DT X W a m) : DQ X W (.BoolOp .Or [a] pos) m := let ⟨_, h1, h2⟩ := h; ⟨_, pw_or1 h1, h2⟩
theorem dq_and {ma mb : Gm → Out Bool} (h : DT X W a ma) (h' : DQ X W (.BoolOp .And (b :: rest) pos) mb) : DQ X W (.BoolOp .And (a :: b :: rest) pos) (tAndM ma mb) := let ⟨_, h1, h2⟩ := h; let ⟨_, k1, k2⟩ := h'; ⟨_, pw_and h1 k1, rt_and h2 k2⟩
theorem dq_or {ma mb : Gm → Out Bool} (h : DT X W a ma) (h' : DQ X W (.BoolOp .Or (b :: rest) pos) mb) : DQ X W (.BoolOp .Or (a :: b :: rest) pos) (tOrM ma mb) := let ⟨_, h1, h2⟩ := h; let ⟨_, k1, k2⟩ := h'; ⟨_, pw_or h1 k1, rt_or h2 k2⟩
theorem dv_one {op} {m : Gm → Out PyData} (h : DV X W a m) : DV X W (.BoolOp op [a] pos) m := let ⟨_, h1, h2⟩ := h; ⟨_, pe_one h1, h2⟩
theorem dv_and {ma mb : Gm → Out PyData} (h : DV X W a ma) (h' : DV X W (.BoolOp .And (b :: rest) pos) mb) : DV X W (.BoolOp .And (a :: b :: rest) pos) (vAnd ma mb) := let ⟨_, h1, h2⟩ := h; let ⟨_, k1, k2⟩ := h'; ⟨_, pe_and h1 k1, rv_and h2 k2⟩
theorem dv_or {ma mb : Gm → Out PyData} (h : DV X W a ma) (h' : DV X W (.BoolOp .Or (b :: rest) pos) mb) : DV X W (.BoolOp .Or (a :: b :: rest) pos) (vOr ma mb) := let ⟨_, h1, h2⟩ := h; let ⟨_, k1, k2⟩ := h'; ⟨_, pe_or h1 k1, rv_or h2 k2⟩
theorem dv_orT {ma mb : Gm → Out PyData} (h : DV X W a ma) (h' : DV X W (.BoolOp .Or (b :: rest) pos) mb) : DV X W (.BoolOp .Or (a :: b :: rest) pos) (vOrT ma mb) := let ⟨_, h1, h2⟩ := h; let ⟨_, k1, k2⟩ := h'; ⟨_, pe_orT h1 k1, rv_orT h2 k2⟩
theorem dv_not {ma : Gm → Out PyData} (h : DV X W a ma) : DV X W (.UnaryOp .Not a pos) (vNot ma) := let ⟨_, h1, h2⟩ := h; ⟨_, pe_not h1, rv_not h2⟩
theorem dv_if {mt : Gm → Out Bool} {ma mb : Gm → Out PyData} (ht : DT X W c mt) (h : DV X W a ma) (h' : DV X W b mb) : DV X W (.IfExp c a b pos) (vIf mt ma mb) := let ⟨_, t1, t2⟩ := ht; let ⟨_, h1, h2⟩ := h; let ⟨_, k1, k2⟩ := h'; ⟨_, pe_ifExp t1 h1 k1, rv_if t2 h2 k2⟩
variable {e : Expr} {es : List Expr}
theorem da_nil : DA X W [] aNil := ⟨_, pa_nil, ra_nil⟩
theorem da_cons {m : Gm → Out PyData} {mr : Gm → Out (List PyData)} (h : DV X W e m) (hr : DA X W es mr) (hs : starEach (e :: es) X.env = (false, eval e X.env) :: starEach es X.env := by rfl) : DA X W (e :: es) (aCons m mr) :=
  let ⟨_, h1, h2⟩ := h; let ⟨_, k1, k2⟩ := hr; ⟨_, pa_cons h1 k1 hs, ra_cons h2 k2⟩
theorem dwa_nil : DWA X W [] waNil := ⟨_, pa_nil, rwa_nil⟩
theorem dwa_cons {m : Gm → Res PyData} {mr : Gm → Res (List PyData)} (h : DW X W e m) (hr : DWA X W es mr) (hs : starEach (e :: es) X.env = (false, eval e X.env) :: starEach es X.env := by rfl) : DWA X W (e :: es) (waCons m mr) :=
  let ⟨_, h1, h2⟩ := h; let ⟨_, k1, k2⟩ := hr; ⟨_, pa_cons h1 k1 hs, rwa_cons h2 k2⟩
theorem do_tup {m : Gm → Out (List PyData)} {x1} (h : DA X W es m) : DO X W (.Tuple es x1 pos) (oTup m) := let ⟨_, h1, h2⟩ := h; ⟨_, pe_tup h1, ro_tup h2⟩
theorem do_lst {m : Gm → Out (List PyData)} (h : DA X W es m) : DO X W (.List es pos) (oLst m) := let ⟨_, h1, h2⟩ := h; ⟨_, pe_lst h1, ro_lst h2⟩
def DN (X : Cx) (W : Wz) (e : Option Expr) (m : Gm → Out (Option Int)) : Prop := ∃ t, L2.PO X e t ∧ RN X.K (cgX X W) W.x t m
theorem dn_none : DN X W none nNone := ⟨_, po_none, rn_none⟩
theorem dn_some {m : Gm → Out PyData} (h : DV X W e m) : DN X W (some e) (nSome m) := let ⟨_, h1, h2⟩ := h; ⟨_, po_some h1, rn_some h2⟩
theorem do_sl {lo hi : Option Expr} {p2 : Pos} {m : Gm → Out PyData} {ml mh : Gm → Out (Option Int)} (h : DV X W e m) (hl : DN X W lo ml) (hh : DN X W hi mh) : DO X W (.Subscript e (.Slice lo hi none p2) pos) (oSl m ml mh) :=
  let ⟨_, h1, h2⟩ := h; let ⟨_, k1, k2⟩ := hl; let ⟨_, l1, l2⟩ := hh; ⟨_, pe_slice sl_G h1 k1 l1, ro_sl h2 k2 l2⟩
/-! ### calls of built-ins -/
variable {x : Str} {p : Pos} {id T : String} {r : List V → Hp → VK → Prop} {f : List PyData → Option OD}
theorem do_callB {m : Gm → Out (List PyData)} (hc : CallR X (.builtin id) r) (hf : CaG X.K X.mg r f) (hm : X.mg x = none) (hv : bootBuiltins x = some (.builtin id)) (ha : DA X W (e :: es) m) (hg : Gl X x := by rfl) (hn : x ≠ "__name__" := by decide) (hdb : (x == ("__debug__" : Str)) = false := by decide)
    (he : starEach (e :: es) X.env = (false, eval e X.env) :: starEach es X.env := by rfl) (hpl : (backTo pos (starEach es X.env)).any (·.1) = false := by rfl) : DO X W (.Call (.Name x p) (e :: es) [] pos) (oCa f m) :=
  let ⟨_, h1, h2⟩ := ha; ⟨_, pe_callB hc hg hm hv h1 hn hdb he hpl, RA.ca hf h2⟩
theorem do_callTy {m : Gm → Out (List PyData)} (hc : CallR X (.type T) r) (hf : CaG X.K X.mg r f) (hm : X.mg x = none) (hv : bootBuiltins x = some (.type T)) (ha : DA X W (e :: es) m) (hg : Gl X x := by rfl) (hn : x ≠ "__name__" := by decide) (hdb : (x == ("__debug__" : Str)) = false := by decide)
    (he : starEach (e :: es) X.env = (false, eval e X.env) :: starEach es X.env := by rfl) (hpl : (backTo pos (starEach es X.env)).any (·.1) = false := by rfl) : DO X W (.Call (.Name x p) (e :: es) [] pos) (oCa f m) :=
  let ⟨_, h1, h2⟩ := ha; ⟨_, pe_callTy hc hg hm hv h1 hn hdb he hpl, RA.ca hf h2⟩
theorem dr_callB {m : Gm → Res (List PyData)} (hc : CallR X (.builtin id) r) (hf : CaG X.K X.mg r f) (hm : X.mg x = none) (hv : bootBuiltins x = some (.builtin id)) (ha : DWA X W (e :: es) m) (hg : Gl X x := by rfl) (hn : x ≠ "__name__" := by decide) (hdb : (x == ("__debug__" : Str)) = false := by decide)
    (he : starEach (e :: es) X.env = (false, eval e X.env) :: starEach es X.env := by rfl) (hpl : (backTo pos (starEach es X.env)).any (·.1) = false := by rfl) : DR X W (.Call (.Name x p) (e :: es) [] pos) (rCa f m) :=
  let ⟨_, h1, h2⟩ := ha; ⟨_, pe_callB hc hg hm hv h1 hn hdb he hpl, RWA.ca hf h2⟩
theorem dr_callTy {m : Gm → Res (List PyData)} (hc : CallR X (.type T) r) (hf : CaG X.K X.mg r f) (hm : X.mg x = none) (hv : bootBuiltins x = some (.type T)) (ha : DWA X W (e :: es) m) (hg : Gl X x := by rfl) (hn : x ≠ "__name__" := by decide) (hdb : (x == ("__debug__" : Str)) = false := by decide)
    (he : starEach (e :: es) X.env = (false, eval e X.env) :: starEach es X.env := by rfl) (hpl : (backTo pos (starEach es X.env)).any (·.1) = false := by rfl) : DR X W (.Call (.Name x p) (e :: es) [] pos) (rCa f m) :=
  let ⟨_, h1, h2⟩ := ha; ⟨_, pe_callTy hc hg hm hv h1 hn hdb he hpl, RWA.ca hf h2⟩
theorem dv_is {m : Gm → Out PyData} {y : Str} {p2 : Pos} (hm : X.mg "isinstance" = none) (hy : X.mg y = none) (hv : bootBuiltins y = some (.type T)) (h : DV X W e m) (hg : Gl X "isinstance" := by rfl) (hgy : Gl X y := by rfl) (hny : y ≠ "__name__" := by decide) (hdy : (y == ("__debug__" : Str)) = false := by decide)
    (hs : starEach [e, .Name y p2] X.env = (false, eval e X.env) :: starEach [.Name y p2] X.env := by rfl) (hs2 : starEach [.Name y p2] X.env = (false, eval (.Name y p2) X.env) :: starEach [] X.env := by rfl) (hpl : (backTo pos (starEach [.Name y p2] X.env)).any (·.1) = false := by rfl) :
    DV X W (.Call (.Name "isinstance" p) [e, .Name y p2] [] pos) (vIs T m) :=
  let ⟨_, h1, h2⟩ := h; ⟨_, pe_callB call_isi hg hm (by decide +kernel) (pa_cons h1 (pa_cons (pe_bltn (v := .ty T) hgy hy hv rfl hny hdy) pa_nil hs2) hs) (by decide) (by decide) hs hpl, rv_is h2⟩
end
end VL
/-! The value layer, part 5: statements. -/
namespace VL
open PySem L2
section
variable (K : PySem.W.Frag) (cg : Cg) (W : WX)
def ErrS (pvs : Pv) (S : Addr → Prop) (F H : Hp) (e : Er) (g : Gm) : Prop :=
  ∀ C dop σ' S' F' H', Stp S F H S' F' H' → Rel K cg pvs g σ' S' F' H' → cg e.c = some (.ref C) → XOk K F' e.xs dop → W (.ref C) dop σ' H'
def PoS (pvs : Pv) (S : Addr → Prop) (F H : Hp) (D : Ends) : SOut → Prop
  | .nx g => ∀ σ' S' F' H', Stp S F H S' F' H' → Rel K cg pvs g σ' S' F' H' → D.nx σ' H'
  | .rt o g => ∀ v A σ' S' F' H', Stp S F H (fun p => S' p ∨ A p) F' H' → Rel K cg pvs g σ' S' F' H' → Ow K cg F' H' v o A → (∀ q, A q → S' q → False) → D.rt v H'
  | .br g => ∀ σ' S' F' H', Stp S F H S' F' H' → Rel K cg pvs g σ' S' F' H' → D.bk σ' H'
  | .ct g => ∀ σ' S' F' H', Stp S F H S' F' H' → Rel K cg pvs g σ' S' F' H' → D.ct σ' H'
  | .err e g => ErrS K cg W pvs S F H e g
  | .stk => False
def RS (t : TS) (m : Gm → SOut) : Prop := ∀ pvs g σ S F H D, Rel K cg pvs g σ S F H → PoS K cg W pvs S F H D (m g) → t D σ H
end
def DS (X : Cx) (W : Wz) (s : Stmt) (m : Gm → SOut) : Prop := ∃ t, PS X s t ∧ RS X.K (cgX X W) W.x t m
def DSs (X : Cx) (W : Wz) (s : List Stmt) (m : Gm → SOut) : Prop := ∃ t, PSs X s t ∧ RS X.K (cgX X W) W.x t m
section
variable {K : PySem.W.Frag} {cg : Cg} {W : WX} {pvs : Pv} {g : Gm} {σ : L2.St} {S S1 S' A : Addr → Prop} {F F1 F' H H1 H' : Hp} {D : Ends}
theorem ErrS.st {e : Er} (h : ErrS K cg W pvs S F H e g) (a : Stp S F H S1 F1 H1) : ErrS K cg W pvs S1 F1 H1 e g := fun C dop σ' S' F' H' b r c x => h C dop σ' S' F' H' (a.trans b) r c x
theorem ErrS.p {e : Er} (h : ErrS K cg W pvs S F H e g) : ErrP K cg W pvs σ S F H e g := fun C dop S' F' H' b r c x => h C dop σ S' F' H' b r c x
theorem PoS.st {x : SOut} (h : PoS K cg W pvs S F H D x) (a : Stp S F H S1 F1 H1) : PoS K cg W pvs S1 F1 H1 D x := by
  cases x with
  | nx g => exact fun σ' S' F' H' b r => h σ' S' F' H' (a.trans b) r
  | rt o g => exact fun v A σ' S' F' H' b r => h v A σ' S' F' H' (a.trans b) r
  | br g => exact fun σ' S' F' H' b r => h σ' S' F' H' (a.trans b) r
  | ct g => exact fun σ' S' F' H' b r => h σ' S' F' H' (a.trans b) r
  | err e g => exact ErrS.st h a
  | stk => exact h

/-! ### blocks -/
def sNx (g : Gm) : SOut := .nx g
def SOut.bind (x : SOut) (k : Gm → SOut) : SOut :=
  match x with
  | .nx g => k g
  | y => y
def sSeq (m n : Gm → SOut) (g : Gm) : SOut := (m g).bind n
theorem rs_next : RS K cg W tNext sNx := fun pvs g σ S F H D r q => q σ S F H (.refl r.fh) r
theorem rs_seq {t u : TS} {m n : Gm → SOut} (h : RS K cg W t m) (h' : RS K cg W u n) : RS K cg W (tSeq t u) (sSeq m n) := fun pvs g σ S F H D r q => by
  refine h pvs g σ S F H _ r ?_
  unfold sSeq at q
  cases e : m g with
  | nx g1 =>
    rw [e] at q
    exact fun σ' S' F' H' b r' => h' pvs g1 σ' S' F' H' D r' (PoS.st q b)
  | rt o g1 =>
    rw [e] at q
    exact q
  | br g1 =>
    rw [e] at q
    exact q
  | ct g1 =>
    rw [e] at q
    exact q
  | err e' g1 =>
    rw [e] at q
    exact q
  | stk =>
    rw [e] at q
    exact q
/-- a slot is frozen ahead of a statement -/
def frz1 (i : Nat) (g : Gm) : Gm :=
  match (gt g i).od with
  | some o => match o.frz with
    | some d => st g i ((gt g i).with (.dat d))
    | none => g
  | none => g
theorem Rel.frz1 (r : Rel K cg pvs g σ S F H) (i : Nat) : ∃ S' F', Stp S F H S' F' H ∧ Rel K cg pvs (frz1 i g) σ S' F' H := by
  unfold VL.frz1
  cases e : (gt g i).od with
  | none => exact ⟨S, F, .refl r.fh, r⟩
  | some o =>
    obtain ⟨v, A, S1, e1, ow, hS, hd, back⟩ := r.take e
    cases ef : o.frz with
    | none =>
      simp only [ef]
      exact ⟨S, F, .refl r.fh, r⟩
    | some d =>
      simp only [ef]
      obtain ⟨dd, s1⟩ := stp_freeze (S := fun _ => False) ow ef r.fh
      have s2 : Stp A F H (fun _ => False) (VL.more F H A) H := ⟨fun p u hs z => z, s1.fr, fun p u z => by
        rcases s1.nw p u z with y | y | y
        · exact .inl y
        · exact .inr (.inl y)
        · exact .inr (.inr (y.elim False.elim id)), fun p z => z.elim, s1.fh⟩
      obtain ⟨r2, s3⟩ := back (.dat d) (fun _ => False) (VL.more F H A) H s2 (.dat dd fun _ z => z)
      exact ⟨_, _, s3, r2⟩
def sFrz (i : Nat) (m : Gm → SOut) (g : Gm) : SOut := m (frz1 i g)
theorem rs_frz {t : TS} {m : Gm → SOut} (i : Nat) (h : RS K cg W t m) : RS K cg W t (sFrz i m) := fun pvs g σ S F H D r q => by
  obtain ⟨S', F', s1, r1⟩ := r.frz1 i
  exact h pvs _ σ S' F' H D r1 (PoS.st q s1)
/-- slots are forgotten -/
def kl : List Nat → Gm → Gm
  | [], g => g
  | i :: is, g => kl is (st g i .no)
theorem Rel.kl (r : Rel K cg pvs g σ S F H) : ∀ is : List Nat, ∃ S', Rel K cg pvs (VL.kl is g) σ S' F H ∧ ∀ q, S' q → S q := fun is => by
  induction is generalizing g S with
  | nil => exact ⟨S, r, fun _ z => z⟩
  | cons i is ih =>
    obtain ⟨S1, r1, h1⟩ := r.kill i
    obtain ⟨S2, r2, h2⟩ := ih r1
    exact ⟨S2, r2, fun q z => h1 q (h2 q z)⟩
theorem Rel.klS (r : Rel K cg pvs g σ S F H) (is : List Nat) : ∃ S', Rel K cg pvs (VL.kl is g) σ S' F H ∧ Stp S F H S' F H := by
  obtain ⟨S', r', h⟩ := r.kl is
  exact ⟨S', r', (Stp.refl r.fh).sub h⟩

/-! ### small statements -/
def sDrop {α : Type} (m : Gm → Out α) (g : Gm) : SOut :=
  match m g with
  | .ok _ g1 => .nx g1
  | .err e g1 => .err e g1
  | .stk => .stk
def sRet (m : Gm → Out OD) (g : Gm) : SOut :=
  match m g with
  | .ok o g1 => .rt o g1
  | .err e g1 => .err e g1
  | .stk => .stk
def sAsg (i : Nat) (m : Gm → Out OD) (g : Gm) : SOut :=
  match m g with
  | .ok o g1 => .nx (st g1 i (.v o))
  | .err e g1 => .err e g1
  | .stk => .stk
def sIf (mt : Gm → Out Bool) (ma mb : Gm → SOut) (g : Gm) : SOut :=
  match mt g with
  | .ok b g1 => if b = true then ma g1 else mb g1
  | .err e g1 => .err e g1
  | .stk => .stk
theorem rs_drop {t : TE} {m : Gm → Out OD} (h : RO K cg W t m) : RS K cg W (tDrop t) (sDrop m) := fun pvs g σ S F H D r q => by
  refine h pvs g σ S F H _ r ?_
  unfold sDrop at q
  cases e : m g with
  | ok d g1 =>
    rw [e] at q
    exact fun v A S1 F1 H1 s1 r1 ow hd => q σ S1 F1 H1 (s1.sub fun p z => .inl z) r1
  | err e' g1 =>
    rw [e] at q
    exact ErrS.p q
  | stk =>
    rw [e] at q
    exact q.elim
theorem rs_ret {t : TE} {m : Gm → Out OD} (h : RO K cg W t m) : RS K cg W (tRet t) (sRet m) := fun pvs g σ S F H D r q => by
  refine h pvs g σ S F H _ r ?_
  unfold sRet at q
  cases e : m g with
  | ok d g1 =>
    rw [e] at q
    exact fun v A S1 F1 H1 s1 r1 ow hd => q v A σ S1 F1 H1 s1 r1 ow hd
  | err e' g1 =>
    rw [e] at q
    exact ErrS.p q
  | stk =>
    rw [e] at q
    exact q.elim
def sRetN (g : Gm) : SOut := .rt (.dat .none) g
theorem rs_retN : RS K cg W tRetN sRetN := fun pvs g σ S F H D r q =>
  q .non (fun _ => False) σ S F H ((Stp.refl r.fh).sub fun p hp => hp.elim id False.elim) r (.dat .non fun _ z => z) fun _ z _ => z
theorem Rel.asg {v : V} {o : OD} {i : Nat} (r : Rel K cg pvs g σ S F H) (ow : Ow K cg F H v o A) (hd : ∀ q, A q → S q → False) : ∃ S', Rel K cg pvs (st g i (.v o)) (σ.set i (some v)) S' F H ∧ ∀ q, S' q → S q ∨ A q := by
  by_cases hi : i < σ.length
  · exact r.set ow hd hi
  · have e1 : σ.set i (some v) = σ := List.set_eq_of_length_le (by omega)
    have e2 : ∀ (g : Gm) (i : Nat) (s : Sl), g.length ≤ i → st g i s = g := by
      intro g
      induction g with
      | nil => intro _ _ _; rfl
      | cons a g ih =>
        intro i s h
        cases i with
        | zero => simp at h
        | succ i => exact congrArg (a :: ·) (ih i s (by simpa using h))
    rw [e1, e2 g i _ (by rw [r.len]; omega)]
    exact ⟨S, r, fun _ z => .inl z⟩
theorem rs_asg {t : TE} {m : Gm → Out OD} {i : Nat} (h : RO K cg W t m) : RS K cg W (tAsg t (gName i)) (sAsg i m) := fun pvs g σ S F H D r q => by
  refine h pvs g σ S F H _ r ?_
  unfold sAsg at q
  cases e : m g with
  | ok d g1 =>
    rw [e] at q
    intro v A S1 F1 H1 s1 r1 ow hd
    obtain ⟨S2, r2, h2⟩ := r1.asg (i := i) ow hd
    exact q _ S2 F1 H1 (s1.sub h2) r2
  | err e' g1 =>
    rw [e] at q
    exact ErrS.p q
  | stk =>
    rw [e] at q
    exact q.elim
theorem rs_if {tt : TT} {t u : TS} {mt : Gm → Out Bool} {ma mb : Gm → SOut} (ht : RT K cg W tt mt) (ha : RS K cg W t ma) (hb : RS K cg W u mb) : RS K cg W (tIfS tt t u) (sIf mt ma mb) := fun pvs g σ S F H D r q => by
  refine ht pvs g σ S F H _ r ?_
  unfold sIf at q
  cases e : mt g with
  | ok b g1 =>
    rw [e] at q
    intro S1 F1 H1 s1 r1
    have q := PoS.st q s1
    cases b with
    | true => exact ha pvs g1 σ S1 F1 H1 D r1 q
    | false => exact hb pvs g1 σ S1 F1 H1 D r1 q
  | err e' g1 =>
    rw [e] at q
    exact ErrS.p q
  | stk =>
    rw [e] at q
    exact q.elim
theorem rs_break : RS K cg W tBreak (fun g => .br g) := fun pvs g σ S F H D r q => q σ S F H (.refl r.fh) r
theorem rs_cont : RS K cg W tCont (fun g => .ct g) := fun pvs g σ S F H D r q => q σ S F H (.refl r.fh) r

/-! ### targets -/
abbrev Tg := PyData → Gm → Option Gm
/-- the slots ts alone turn -/
def Turns (ts : List Nat) (σ σ' : L2.St) : Prop := σ'.length = σ.length ∧ ∀ j : Nat, j ∉ ts → σ'[j]? = σ[j]?
theorem Turns.trans {ts us : List Nat} {σ σ1 σ2 : L2.St} (a : Turns ts σ σ1) (b : Turns us σ1 σ2) : Turns (ts ++ us) σ σ2 :=
  ⟨b.1.trans a.1, fun j hj => (b.2 j fun z => hj (List.mem_append_right _ z)).trans (a.2 j fun z => hj (List.mem_append_left _ z))⟩
def RG (K : PySem.W.Frag) (cg : Cg) (ts : List Nat) (t : TG) (m : Tg) : Prop := ∀ pvs g g' σ S F H v d (Q : L2.St → Hp → Prop), Rel K cg pvs g σ S F H → Dq K F v d → m d g = some g' → (∀ σ' S', Rel K cg pvs g' σ' S' F H → (∀ q, S' q → S q) → Turns ts σ σ' → Q σ' H) → t v σ H Q
def RGs (K : PySem.W.Frag) (cg : Cg) (ts : List Nat) (t : TGs) (m : List PyData → Gm → Option Gm) : Prop := ∀ pvs g g' σ S F H vs ds (Q : L2.St → Hp → Prop), Rel K cg pvs g σ S F H → DqA K F vs ds → m ds g = some g' → (∀ σ' S', Rel K cg pvs g' σ' S' F H → (∀ q, S' q → S q) → Turns ts σ σ' → Q σ' H) → t vs σ H Q
def gN (i : Nat) : Tg := fun d g => some (st g i (.v (.dat d)))
theorem rg_n (i : Nat) : RG K cg [i] (gName i) (gN i) := fun pvs g g' σ S F H v d Q r hd e q => by
  cases e
  obtain ⟨S2, r2, h2⟩ := r.asg (i := i) (A := fun _ => False) (Ow.dat hd fun _ z => z) fun _ z => z.elim
  exact q _ S2 r2 (fun p hp => (h2 p hp).elim id False.elim) ⟨List.length_set, fun j hj => List.getElem?_set_ne fun z => hj (by simp [z])⟩
def gsNil : List PyData → Gm → Option Gm
  | [], g => some g
  | _, _ => none
def gsCons (t : Tg) (u : List PyData → Gm → Option Gm) : List PyData → Gm → Option Gm
  | d :: ds, g => match t d g with
    | some g1 => u ds g1
    | none => none
  | [], _ => none
theorem rgs_nil : RGs K cg [] gNil gsNil := fun pvs g g' σ S F H vs ds Q r hd e q => by
  cases hd with
  | nil =>
    cases e
    exact ⟨rfl, q σ S r (fun _ z => z) ⟨rfl, fun _ _ => rfl⟩⟩
  | cons h t => cases e
theorem rgs_cons {ts us : List Nat} {t : TG} {u : TGs} {m : Tg} {n : List PyData → Gm → Option Gm} (h : RG K cg ts t m) (h' : RGs K cg us u n) : RGs K cg (ts ++ us) (gCons t u) (gsCons m n) := fun pvs g g' σ S F H vs ds Q r hd e q => by
  cases hd with
  | nil => cases e
  | cons h1 t1 =>
    rename_i v vs d ds
    have e : (match m d g with | some g1 => n ds g1 | none => none) = some g' := e
    cases e1 : m d g with
    | none =>
      rw [e1] at e
      cases e
    | some g1 =>
      rw [e1] at e
      exact ⟨v, vs, rfl, h pvs g g1 σ S F H v d _ r h1 e1 fun σ' S' r' s' t' => h' pvs g1 g' σ' S' F H vs ds Q r' t1 e fun σ2 S2 r2 s2 t2 => q σ2 S2 r2 (fun p z => s' p (s2 p z)) (t'.trans t2)⟩
def gT (n : Nat) (m : List PyData → Gm → Option Gm) : Tg := fun d g => match d with
  | .tuple ds => if ds.length = n then m ds g else none
  | _ => none
theorem rg_t {ts : List Nat} {t : TGs} {m : List PyData → Gm → Option Gm} {n : Nat} (h : RGs K cg ts t m) : RG K cg ts (gTup K n t) (gT n m) := fun pvs g g' σ S F H v d Q r hd e q => by
  cases hd with
  | tup h1 h2 =>
    rename_i a xs ds
    unfold gT at e
    simp only at e
    split at e
    · rename_i hn
      exact ⟨a, xs, rfl, sqt_mono r.fh h1, by rw [dpa_len h2]; exact hn, h pvs g g' σ S F H xs ds Q r h2 e q⟩
    · cases e
  | non => cases e
  | bl b => cases e
  | int i => cases e
  | str x => cases e
  | lst h1 h2 => cases e
def sUnp (tg : Tg) (m : Gm → Out PyData) (g : Gm) : SOut :=
  match m g with
  | .ok d g1 => match tg d g1 with
    | some g2 => .nx g2
    | none => .stk
  | .err e g1 => .err e g1
  | .stk => .stk
theorem rs_unp {t : TE} {tg : TG} {m : Gm → Out PyData} {n : Tg} {ts : List Nat} (h : RV K cg W t m) (h' : RG K cg ts tg n) : RS K cg W (tAsg t tg) (sUnp n m) := fun pvs g σ S F H D r q => by
  refine h pvs g σ S F H _ r ?_
  unfold sUnp at q
  cases e : m g with
  | ok d g1 =>
    rw [e] at q
    intro v S1 F1 H1 s1 r1 d1
    cases e2 : n d g1 with
    | none =>
      simp only [e2] at q
      exact q.elim
    | some g2 =>
      simp only [e2] at q
      exact h' pvs g1 g2 σ S1 F1 H1 v d _ r1 d1 e2 fun σ' S' r' s' _ => q σ' S' F1 H1 (s1.sub s') r'
  | err e' g1 =>
    rw [e] at q
    exact ErrS.p q
  | stk =>
    rw [e] at q
    exact q.elim
/-- a, b = x, y -/
def sPar (i j : Nat) (m : Gm → Out (List PyData)) (g : Gm) : SOut :=
  match m g with
  | .ok [a, b] g1 => .nx (st (st g1 i (.v (.dat a))) j (.v (.dat b)))
  | .ok _ _ => .stk
  | .err e g1 => .err e g1
  | .stk => .stk
theorem rs_par {t : TA} {m : Gm → Out (List PyData)} {i j : Nat} (h : RA K cg W t m) : RS K cg W (tPar i j t) (sPar i j m) := fun pvs g σ S F H D r q => by
  refine h pvs g σ S F H _ r ?_
  unfold sPar at q
  cases e : m g with
  | ok ds g1 =>
    rw [e] at q
    intro vs S1 F1 H1 s1 r1 d1
    cases d1 with
    | nil => exact q.elim
    | cons h1 t1 =>
      cases t1 with
      | nil => exact q.elim
      | cons h2 t2 =>
        cases t2 with
        | nil =>
          refine ⟨_, _, rfl, ?_⟩
          obtain ⟨S2, r2, hs2⟩ := r1.asg (i := i) (A := fun _ => False) (Ow.dat h1 fun _ z => z) fun _ z => z.elim
          obtain ⟨S3, r3, hs3⟩ := r2.asg (i := j) (A := fun _ => False) (Ow.dat h2 fun _ z => z) fun _ z => z.elim
          exact q _ S3 F1 H1 (s1.sub fun p z => (hs2 p ((hs3 p z).elim id False.elim)).elim id False.elim) r3
        | cons h3 t3 => exact q.elim
  | err e' g1 =>
    rw [e] at q
    exact ErrS.p q
  | stk =>
    rw [e] at q
    exact q.elim
/-- x += e, of whole numbers -/
def sAug (i : Nat) (f : Int → Int → Int) (m : Gm → Out PyData) (g : Gm) : SOut :=
  match pVar i g with
  | .ok (.int a) => match m g with
    | .ok (.int b) g1 => .nx (st g1 i (.v (.dat (.int (f a b)))))
    | .ok _ _ => .stk
    | .err e g1 => .err e g1
    | .stk => .stk
  | _ => .stk
theorem rs_aug {t : TE} {m : Gm → Out PyData} {i : Nat} {f : Int → Int → Int} (h : RV K cg W t m) : RS K cg W (tAug i t (ipI f)) (sAug i f m) := fun pvs g σ S F H D r q => by
  unfold sAug at q
  cases e0 : pVar i g with
  | err e' =>
    rw [e0] at q
    exact q.elim
  | stk =>
    rw [e0] at q
    exact q.elim
  | ok a0 =>
    rw [e0] at q
    cases a0 with
    | int a =>
      simp only at q
      have hv : ∃ v, σ[i]? = some (some v) ∧ v = V.int a := by
        have z : tVar i σ H fun v H' => v = V.int a := rp_var (K := K) (cg := cg) (W := W) i pvs g σ S F H _ r (by
          rw [e0]
          exact fun v F' H' _ hd => by
            cases hd
            rfl)
        obtain ⟨v, e1, e2⟩ := z
        exact ⟨v, e1, e2⟩
      obtain ⟨v, e1, rfl⟩ := hv
      refine ⟨_, e1, h pvs g σ S F H _ r ?_⟩
      cases e : m g with
      | ok d g1 =>
        rw [e] at q
        intro w S1 F1 H1 s1 r1 d1
        cases d1 with
        | int b =>
          refine ⟨a, b, rfl, rfl, ?_⟩
          obtain ⟨S2, r2, hs2⟩ := r1.asg (i := i) (A := fun _ => False) (Ow.dat (.int (f a b)) fun _ z => z) fun _ z => z.elim
          exact q _ S2 F1 H1 (s1.sub fun p z => (hs2 p z).elim id False.elim) r2
        | non => exact q.elim
        | bl b => exact q.elim
        | str x => exact q.elim
        | lst h1 h2 => exact q.elim
        | tup h1 h2 => exact q.elim
      | err e' g1 =>
        rw [e] at q
        exact ErrS.p q
      | stk =>
        rw [e] at q
        exact q.elim
    | none => exact q.elim
    | bool b => exact q.elim
    | str x => exact q.elim
    | list ds => exact q.elim
    | tuple ds => exact q.elim
    | dict kvs => exact q.elim

/-! ### changes in place: x[i] = e, x.append(e) .. of a slot -/
theorem stp_upd {p : Addr} {o : HO} (e : Same F H) (hf : F p = none) : Stp (fun q => q = p) F H (fun q => q = p) F (upd H p o) := by
  refine ⟨fun b u hb h => ?_, fun _ _ h => h, fun b u h => .inl ⟨u, h⟩, fun _ h => .inl h, fun b u h => ?_⟩
  · rw [upd_ne hb]
    exact h
  · rw [upd_ne (ne_of_none h hf)]
    exact e b u h
def sSet (i : Nat) (mi me : Gm → Out PyData) (g : Gm) : SOut :=
  match me g with
  | .ok d g1 => match (gt g1 i).od with
    | none => .stk
    | some _ => match mi g1 with
      | .ok (.int n) g2 => match (gt g2 i).od with
        | some (.lst ds) => match ixN ds.length n with
          | some j => .nx (st g2 i ((gt g2 i).with (.lst (ds.set j d))))
          | none => .stk
        | _ => .stk
      | .ok _ _ => .stk
      | .err e g2 => .err e g2
      | .stk => .stk
  | .err e g1 => .err e g1
  | .stk => .stk
theorem Rel.slot {i : Nat} {o : OD} (r : Rel K cg pvs g σ S F H) (e : (gt g i).od = some o) : ∃ v, σ[i]? = some (some v) := by
  obtain ⟨v, A, S1, e1, _⟩ := r.take e
  exact ⟨v, e1⟩
/-- the list in a slot is changed -/
theorem Rel.relst {i : Nat} {ds : List PyData} {w : V} (r : Rel K cg pvs g σ S F H) (e : (gt g i).od = some (.lst ds)) (hw : σ[i]? = some (some w)) : ∃ p vs, w = .ref p ∧ H p = some (.lst vs) ∧ DqA K F vs ds ∧
    ∀ vs' ds', DqA K F vs' ds' → ∃ S', Rel K cg pvs (st g i ((gt g i).with (.lst ds'))) σ S' F (upd H p (.lst vs')) ∧ Stp S F H S' F (upd H p (.lst vs')) := by
  obtain ⟨v, A, S1, e1, ow, hS, hd, back⟩ := r.take e
  rw [hw] at e1
  cases e1
  cases ow with
  | lst h1 h2 h3 h4 =>
    rename_i p vs
    refine ⟨p, vs, rfl, h1, h3, fun vs' ds' h' => ?_⟩
    have s1 : Stp A F H (fun q => q = p) F (upd H p (.lst vs')) := by
      have s0 := stp_upd (o := .lst vs') r.fh h2
      exact ⟨fun b u hb hh => s0.keep b u (fun z => hb ((h4 b).mpr z)) hh, s0.fr, fun b u hh => .inl ⟨u, hh⟩, fun b hb => .inl ((h4 b).mpr hb), s0.fh⟩
    obtain ⟨r2, s2⟩ := back (.lst ds') (fun q => q = p) F (upd H p (.lst vs')) s1 (.lst upd_same h2 h' fun _ => Iff.rfl)
    exact ⟨_, r2, s2⟩
theorem rs_set {te ti : TE} {me mi : Gm → Out PyData} {i : Nat} (h : RV K cg W te me) (h' : RV K cg W ti mi) : RS K cg W (tAsg te (gSub (tVar i) ti rSetL)) (sSet i mi me) := fun pvs g σ S F H D r q => by
  refine h pvs g σ S F H _ r ?_
  unfold sSet at q
  cases e : me g with
  | ok d g1 =>
    rw [e] at q
    intro v S1 F1 H1 s1 r1 d1
    simp only at q
    have q := PoS.st q s1
    cases e0 : (gt g1 i).od with
    | none =>
      simp only [e0] at q
      exact q.elim
    | some o0 =>
      simp only [e0] at q
      obtain ⟨w, ew⟩ := r1.slot e0
      refine ⟨w, ew, h' pvs g1 σ S1 F1 H1 _ r1 ?_⟩
      cases e2 : mi g1 with
      | ok k g2 =>
        rw [e2] at q
        intro u S2 F2 H2 s2 r2 d2
        have q := PoS.st q s2
        cases d2 with
        | int n =>
          cases e3 : (gt g2 i).od with
          | none =>
            simp only [e3] at q
            exact q.elim
          | some o =>
            simp only [e3] at q
            cases o with
            | lst ds =>
              obtain ⟨p, vs, rfl, h1, h2, back⟩ := r2.relst e3 ew
              simp only at q
              cases e4 : ixN ds.length n with
              | none =>
                simp only [e4] at q
                exact q.elim
              | some j =>
                simp only [e4] at q
                obtain ⟨S3, r3, s3⟩ := back _ _ (dpa_set (dp_mo d1 s2.fr) j h2)
                exact ⟨p, vs, n, j, rfl, rfl, h1, by rw [dpa_len h2]; exact e4, q σ S3 F2 _ s3 r3⟩
            | dat d => exact q.elim
            | dk d => exact q.elim
            | dt d => exact q.elim
            | nd k os => exact q.elim
            | scr ns => exact q.elim
            | exc => exact q.elim
            | tk ks => exact q.elim
            | fz k os => exact q.elim
        | non => exact q.elim
        | bl b => exact q.elim
        | str x => exact q.elim
        | lst h1 h2 => exact q.elim
        | tup h1 h2 => exact q.elim
      | err e' g2 =>
        rw [e2] at q
        exact ErrS.p q
      | stk =>
        rw [e2] at q
        exact q.elim
  | err e' g1 =>
    rw [e] at q
    exact ErrS.p q
  | stk =>
    rw [e] at q
    exact q.elim
/-- a list's own method: what it gives, what the list is behind it -/
def MuG (K : PySem.W.Frag) (r : V → List V → Hp → VK → Prop) (f : List PyData → List PyData → Option (PyData × List PyData)) : Prop :=
  ∀ (F H : Hp) (p : Addr) (vs : List V) (ds : List PyData) (xs : List V) (as : List PyData) (d : PyData) (ds' : List PyData) (Q : VK), H p = some (.lst vs) → DqA K F vs ds → DqA K F xs as → f ds as = some (d, ds') →
    (∀ v vs', Dq K F v d → DqA K F vs' ds' → Q v (upd H p (.lst vs'))) → r (.ref p) xs H Q
def vMut (i : Nat) (f : List PyData → List PyData → Option (PyData × List PyData)) (m : Gm → Out (List PyData)) (g : Gm) : Out PyData :=
  match (gt g i).od with
  | some (.lst _) => (m g).bind fun as g1 => match (gt g1 i).od with
    | some (.lst ds) => match f ds as with
      | some (d, ds') => .ok d (st g1 i ((gt g1 i).with (.lst ds')))
      | none => .stk
    | _ => .stk
  | _ => .stk
theorem rv_mut {t : TA} {m : Gm → Out (List PyData)} {i : Nat} {r : V → List V → Hp → VK → Prop} {f : List PyData → List PyData → Option (PyData × List PyData)} (hf : MuG K r f) (h : RA K cg W t m) : RV K cg W (tBM K "list" r (tVar i) t) (vMut i f m) := fun pvs g σ S F H Q rl q => by
  unfold vMut at q
  cases e0 : (gt g i).od with
  | none =>
    simp only [e0] at q
    exact q.elim
  | some o0 =>
    simp only [e0] at q
    cases o0 with
    | lst ds0 =>
      obtain ⟨w, ew⟩ := rl.slot e0
      obtain ⟨p0, vs0, rfl, h10, h20, _⟩ := rl.relst e0 ew
      refine ⟨_, ew, .inl ⟨rfl, _, .of h10⟩, h pvs g σ S F H _ rl ?_⟩
      simp only at q
      cases e : m g with
      | ok as g1 =>
        rw [e] at q
        intro xs S1 F1 H1 s1 r1 d1
        simp only [Out.bind] at q
        have q := PoV.st q s1
        cases e1 : (gt g1 i).od with
        | none =>
          simp only [e1] at q
          exact q.elim
        | some o =>
          simp only [e1] at q
          cases o with
          | lst ds =>
            obtain ⟨p, vs, ep, h1, h2, back⟩ := r1.relst e1 ew
            cases ep
            simp only at q
            cases e2 : f ds as with
            | none =>
              simp only [e2] at q
              exact q.elim
            | some y =>
              obtain ⟨d, ds'⟩ := y
              simp only [e2] at q
              refine hf F1 H1 _ vs ds xs as d ds' Q h1 h2 d1 e2 fun v vs' hv h' => ?_
              obtain ⟨S3, r3, s3⟩ := back _ _ h'
              exact q v S3 F1 _ s3 r3 hv
          | dat d => exact q.elim
          | dk d => exact q.elim
          | dt d => exact q.elim
          | nd k os => exact q.elim
          | scr ns => exact q.elim
          | exc => exact q.elim
          | tk ks => exact q.elim
          | fz k os => exact q.elim
      | err e' g1 =>
        rw [e] at q
        exact q
      | stk =>
        rw [e] at q
        exact q.elim
    | dat d => exact q.elim
    | dk d => exact q.elim
    | dt d => exact q.elim
    | nd k os => exact q.elim
    | scr ns => exact q.elim
    | exc => exact q.elim
    | tk ks => exact q.elim
    | fz k os => exact q.elim
def fApp : List PyData → List PyData → Option (PyData × List PyData)
  | ds, [d] => if ds.length < zl then some (.none, ds ++ [d]) else none
  | _, _ => none
theorem u_app : MuG K rAppend fApp := fun F H p vs ds xs as d ds' Q h1 h2 h3 hf k => by
  unfold fApp at hf
  split at hf
  · split at hf
    · rename_i hz
      cases hf
      cases h3 with
      | cons a b =>
        cases b
        exact ⟨p, vs, _, rfl, rfl, h1, by rw [dpa_len h2]; exact zl_lt hz, k .non _ .non (dpa_app h2 (.cons a .nil))⟩
    · cases hf
  · cases hf
def fPopAt : List PyData → List PyData → Option (PyData × List PyData)
  | ds, [.int n] => if 0 ≤ n ∧ n < ds.length ∧ ds.length ≤ zl then match ds[n.toNat]? with
    | some d => some (d, ds.eraseIdx n.toNat)
    | none => none
    else none
  | _, _ => none
theorem dpa_erase : ∀ (n : Nat) {vs : List V} {ds : List PyData}, DqA K F vs ds → DqA K F (vs.eraseIdx n) (ds.eraseIdx n)
  | _, _, [], h => by
    cases h
    exact .nil
  | 0, _, d :: ds, h => by
    cases h with
    | cons h1 h2 => exact h2
  | n + 1, _, d :: ds, h => by
    cases h with
    | cons h1 h2 => exact .cons h1 (dpa_erase n h2)
theorem u_popAt : MuG K rPopAt fPopAt := fun F H p vs ds xs as d ds' Q h1 h2 h3 hf k => by
  unfold fPopAt at hf
  split at hf
  · rename_i n
    split at hf
    · rename_i hz
      split at hf
      · rename_i d0 e0
        cases hf
        cases h3 with
        | cons a b =>
          cases b
          cases a
          obtain ⟨v, ev, hv⟩ := dpa_get' h2 e0
          refine ⟨p, vs, n, n.toNat, v, rfl, rfl, h1, by omega, ?_, ?_, ev, k v _ hv (dpa_erase _ h2)⟩
          · have hzl : zl = 1000000 := rfl
            omega
          · rw [dpa_len h2]
            unfold seqIndex?
            have z1 : ¬ n < 0 := by omega
            simp only [z1]
            first
              | (simp; omega)
              | (rw [if_pos (by omega)])
      · cases hf
    · cases hf
  · cases hf
end
end VL
/-! The value layer, part 6: loops, comprehensions, raise and try. -/
namespace VL
open PySem L2
section
variable {K : PySem.W.Frag} {cg : Cg} {W : WX} {pvs : Pv} {g : Gm} {σ : L2.St} {S S1 S' A : Addr → Prop} {F F1 F' H H1 H' : Hp} {D : Ends}
/-! ### while -/
/-- what a loop does with its body's end: on it goes, or out -/
def lp (x : SOut) (go : Gm → SOut) : SOut :=
  match x with
  | .nx g => go g
  | .ct g => go g
  | .br g => .nx g
  | y => y
def whl (is : List Nat) (mt : Gm → Out Bool) (mb : Gm → SOut) : Nat → Gm → SOut
  | 0, _ => .stk
  | n + 1, g => match mt g with
    | .ok b g1 => if b = true then lp (mb g1) fun g2 => whl is mt mb n (kl is g2) else .nx g1
    | .err e g1 => .err e g1
    | .stk => .stk
def sWhl (is : List Nat) (fuel : Gm → Nat) (mt : Gm → Out Bool) (mb : Gm → SOut) (g : Gm) : SOut := whl is mt mb (fuel g) (kl is g)
theorem rs_while {tt : TT} {tb : TS} {mt : Gm → Out Bool} {mb : Gm → SOut} {is : List Nat} {fuel : Gm → Nat} (ht : RT K cg W tt mt) (hb : RS K cg W tb mb) : RS K cg W (tWhile tt tb) (sWhl is fuel mt mb) := fun pvs g σ S F H D r q => by
  unfold sWhl at q
  refine ⟨fun n σ' H' => ∃ g' S' F', Rel K cg pvs g' σ' S' F' H' ∧ PoS K cg W pvs S' F' H' D (whl is mt mb n g'), ⟨fuel g, ?_⟩, ?_⟩
  · obtain ⟨S1, r1, s1⟩ := r.klS is
    exact ⟨_, S1, F, r1, PoS.st q s1⟩
  · rintro n σ1 H1 ⟨g1, S1, F1, r1, q1⟩
    cases n with
    | zero => exact q1.elim
    | succ n =>
      refine ht pvs g1 σ1 S1 F1 H1 _ r1 ?_
      unfold whl at q1
      cases e : mt g1 with
      | ok b g2 =>
        rw [e] at q1
        intro S2 F2 H2 s2 r2
        have q2 := PoS.st q1 s2
        cases b with
        | false =>
          show D.nx σ1 H2
          exact q2 σ1 S2 F2 H2 (.refl r2.fh) r2
        | true =>
          show ∃ N : L2.St → Hp → Prop, _
          refine ⟨fun σ' H' => ∃ g' S' F', Rel K cg pvs g' σ' S' F' H' ∧ PoS K cg W pvs S' F' H' D (whl is mt mb n g'), fun σ' H' h => ⟨n, Nat.lt_succ_self n, h⟩, hb pvs g2 σ1 S2 F2 H2 _ r2 ?_⟩
          have q3 : PoS K cg W pvs S2 F2 H2 D (lp (mb g2) fun g2 => whl is mt mb n (kl is g2)) := q2
          cases e2 : mb g2 with
          | nx g3 =>
            rw [e2] at q3
            intro σ4 S4 F4 H4 s4 r4
            obtain ⟨S5, r5, s5⟩ := r4.klS is
            exact ⟨_, S5, F4, r5, PoS.st (PoS.st q3 s4) s5⟩
          | ct g3 =>
            rw [e2] at q3
            intro σ4 S4 F4 H4 s4 r4
            obtain ⟨S5, r5, s5⟩ := r4.klS is
            exact ⟨_, S5, F4, r5, PoS.st (PoS.st q3 s4) s5⟩
          | br g3 =>
            rw [e2] at q3
            exact q3
          | rt o g3 =>
            rw [e2] at q3
            exact q3
          | err e' g3 =>
            rw [e2] at q3
            exact q3
          | stk =>
            rw [e2] at q3
            exact q3
      | err e' g2 =>
        rw [e] at q1
        exact ErrS.p q1
      | stk =>
        rw [e] at q1
        exact q1.elim
/-! ### for -/
def forM (is : List Nat) (tg : Tg) (mb : Gm → SOut) : List PyData → Gm → SOut
  | [], g => .nx g
  | d :: ds, g => match tg d g with
    | some g1 => lp (mb g1) fun g2 => forM is tg mb ds (kl is g2)
    | none => .stk
/-- a turn of a loop -/
theorem for_turn {tb : TS} {tg : TG} {m : Tg} {mb : Gm → SOut} {is ts : List Nat} {d : PyData} {ds : List PyData} {v : V} (hg : RG K cg ts tg m) (hb : RS K cg W tb mb) (r : Rel K cg pvs g σ S F H) (hd : Dq K F v d)
    (q : PoS K cg W pvs S F H D (forM is m mb (d :: ds) g)) (N : L2.St → Hp → Prop) (hN : ∀ g' σ' S' F' H', Stp S F H S' F' H' → Rel K cg pvs g' σ' S' F' H' → PoS K cg W pvs S' F' H' D (forM is m mb ds g') → N σ' H') :
    tg v σ H fun σ2 H2 => tb { D with nx := N, ct := N, bk := D.nx } σ2 H2 := by
  unfold forM at q
  cases e : m d g with
  | none =>
    simp only [e] at q
    exact q.elim
  | some g1 =>
    simp only [e] at q
    refine hg pvs g g1 σ S F H v d _ r hd e fun σ1 S1 r1 h1 _ => hb pvs g1 σ1 S1 F H _ r1 ?_
    have s1 : Stp S F H S1 F H := (Stp.refl r.fh).sub h1
    have q3 := PoS.st q s1
    cases e2 : mb g1 with
    | nx g3 =>
      rw [e2] at q3
      intro σ4 S4 F4 H4 s4 r4
      obtain ⟨S5, r5, s5⟩ := r4.klS is
      exact hN _ σ4 S5 F4 H4 ((s1.trans s4).trans s5) r5 (PoS.st (PoS.st q3 s4) s5)
    | ct g3 =>
      rw [e2] at q3
      intro σ4 S4 F4 H4 s4 r4
      obtain ⟨S5, r5, s5⟩ := r4.klS is
      exact hN _ σ4 S5 F4 H4 ((s1.trans s4).trans s5) r5 (PoS.st (PoS.st q3 s4) s5)
    | br g3 =>
      rw [e2] at q3
      exact q3
    | rt o g3 =>
      rw [e2] at q3
      exact q3
    | err e' g3 =>
      rw [e2] at q3
      exact q3
    | stk =>
      rw [e2] at q3
      exact q3
def lof : PyData → Option (List PyData)
  | .list ds => some ds
  | _ => none
def tof : PyData → Option (List PyData)
  | .tuple ds => some ds
  | _ => none
def sFor (of : PyData → Option (List PyData)) (is : List Nat) (tg : Tg) (ms : Gm → Out PyData) (mb : Gm → SOut) (g : Gm) : SOut :=
  match ms g with
  | .ok d g1 => match of d with
    | some ds => forM is tg mb ds (kl is g1)
    | none => .stk
  | .err e g1 => .err e g1
  | .stk => .stk
theorem drop_get {α : Type} {l : List α} {i : Nat} {x : α} (h : l[i]? = some x) : l.drop i = x :: l.drop (i + 1) := by
  obtain ⟨hi, e⟩ := List.getElem?_eq_some_iff.mp h
  rw [List.drop_eq_getElem_cons hi, e]
theorem rs_forL {tl : TE} {tb : TS} {tg : TG} {m : Tg} {ms : Gm → Out PyData} {mb : Gm → SOut} {is ts : List Nat} (hs : RV K cg W tl ms) (hg : RG K cg ts tg m) (hb : RS K cg W tb mb) : RS K cg W (tFor (iList K tl) tg tb) (sFor lof is m ms mb) := fun pvs g σ S F H D r q => by
  refine hs pvs g σ S F H _ r ?_
  unfold sFor at q
  cases e : ms g with
  | ok d g1 =>
    rw [e] at q
    intro v S1 F1 H1 s1 r1 d1
    have q1 := PoS.st q s1
    cases d1 with
    | lst h1 h2 =>
      rename_i a vs ds
      simp only [lof] at q1
      refine ⟨a, rfl, ⟨vs, .of (r1.fh _ _ h1)⟩, ?_⟩
      refine for_list (K := K) (a := a) (xs := vs) (fun i σ' H' => ∃ g' S' F', Rel K cg pvs g' σ' S' F' H' ∧ F' a = some (.lst vs) ∧ DqA K F' vs ds ∧ PoS K cg W pvs S' F' H' D (forM is m mb (ds.drop i) g')) ?_ ?_ ?_ ?_
      · obtain ⟨S2, r2, s2⟩ := r1.klS is
        exact ⟨_, S2, F1, r2, h1, h2, PoS.st q1 s2⟩
      · rintro i σ' H' _ ⟨g', S', F', r', h1', _⟩
        exact .of (r'.fh _ _ h1')
      · rintro i x σ' H' hx ⟨g', S', F', r', h1', h2', q'⟩
        obtain ⟨d, ed, hd⟩ := dpa_get h2' hx
        rw [drop_get ed] at q'
        exact for_turn hg hb r' hd q' _ fun g2 σ2 S2 F2 H2 s2 r2 q2 => ⟨g2, S2, F2, r2, s2.fr _ _ h1', dpa_mo h2' s2.fr, q2⟩
      · rintro σ' H' ⟨g', S', F', r', _, h2', q'⟩
        rw [dpa_len h2', List.drop_length] at q'
        exact q' σ' S' F' H' (.refl r'.fh) r'
    | non => exact q1.elim
    | bl b => exact q1.elim
    | int i => exact q1.elim
    | str x => exact q1.elim
    | tup h1 h2 => exact q1.elim
  | err e' g1 =>
    rw [e] at q
    exact ErrS.p q
  | stk =>
    rw [e] at q
    exact q.elim
theorem rs_forT {tl : TE} {tb : TS} {tg : TG} {m : Tg} {ms : Gm → Out PyData} {mb : Gm → SOut} {is ts : List Nat} (hs : RV K cg W tl ms) (hg : RG K cg ts tg m) (hb : RS K cg W tb mb) : RS K cg W (tFor (iTup K tl) tg tb) (sFor tof is m ms mb) := fun pvs g σ S F H D r q => by
  refine hs pvs g σ S F H _ r ?_
  unfold sFor at q
  cases e : ms g with
  | ok d g1 =>
    rw [e] at q
    intro v S1 F1 H1 s1 r1 d1
    have q1 := PoS.st q s1
    cases d1 with
    | tup h1 h2 =>
      rename_i a vs ds
      simp only [tof] at q1
      refine ⟨a, rfl, ⟨vs, sqt_mono r1.fh h1⟩, ?_⟩
      refine for_tup (K := K) (a := a) (xs := vs) (fun i σ' H' => ∃ g' S' F', Rel K cg pvs g' σ' S' F' H' ∧ SqT K F' a vs ∧ DqA K F' vs ds ∧ PoS K cg W pvs S' F' H' D (forM is m mb (ds.drop i) g')) ?_ ?_ ?_ ?_
      · obtain ⟨S2, r2, s2⟩ := r1.klS is
        exact ⟨_, S2, F1, r2, h1, h2, PoS.st q1 s2⟩
      · rintro i σ' H' _ ⟨g', S', F', r', h1', _⟩
        exact sqt_mono r'.fh h1'
      · rintro i x σ' H' hx ⟨g', S', F', r', h1', h2', q'⟩
        obtain ⟨d, ed, hd⟩ := dpa_get h2' hx
        rw [drop_get ed] at q'
        exact for_turn hg hb r' hd q' _ fun g2 σ2 S2 F2 H2 s2 r2 q2 => ⟨g2, S2, F2, r2, sqt_mono s2.fr h1', dpa_mo h2' s2.fr, q2⟩
      · rintro σ' H' ⟨g', S', F', r', _, h2', q'⟩
        rw [dpa_len h2', List.drop_length] at q'
        exact q' σ' S' F' H' (.refl r'.fh) r'
    | non => exact q1.elim
    | bl b => exact q1.elim
    | int i => exact q1.elim
    | str x => exact q1.elim
    | lst h1 h2 => exact q1.elim
  | err e' g1 =>
    rw [e] at q
    exact ErrS.p q
  | stk =>
    rw [e] at q
    exact q.elim
/-- lo, lo + 1, .. -/
def rng (lo : Int) (n : Nat) : List PyData := (List.range n).map fun (i : Nat) => PyData.int (lo + (i : Int))
noncomputable def rngOf : List PyData → Option (Int × Nat)
  | [.int j] => cIf (-(2 ^ 62) ≤ j ∧ j < 2 ^ 62) (some (0, j.toNat)) none
  | [.int i, .int j] => cIf (-(2 ^ 62) ≤ i ∧ i < 2 ^ 62 ∧ -(2 ^ 62) ≤ j ∧ j < 2 ^ 62) (some (i, (j - i).toNat)) none
  | _ => none
theorem rng_get {lo : Int} {n i : Nat} (h : i < n) : (rng lo n)[i]? = some (.int (lo + (i : Int))) := by
  unfold rng
  rw [List.getElem?_map, List.getElem?_range h]
  rfl
theorem rng_len {lo : Int} {n : Nat} : (rng lo n).length = n := by
  unfold rng
  rw [List.length_map, List.length_range]
noncomputable def sForR (is : List Nat) (tg : Tg) (ms : Gm → Out (List PyData)) (mb : Gm → SOut) (g : Gm) : SOut :=
  match ms g with
  | .ok as g1 => match rngOf as with
    | some (lo, n) => forM is tg mb (rng lo n) (kl is g1)
    | none => .stk
  | .err e g1 => .err e g1
  | .stk => .stk
theorem for_rng {tb : TS} {tg : TG} {m : Tg} {mb : Gm → SOut} {is ts : List Nat} {lo : Int} {n : Nat} (hg : RG K cg ts tg m) (hb : RS K cg W tb mb) (r : Rel K cg pvs g σ S F H) (q : PoS K cg W pvs S F H D (forM is m mb (rng lo n) (kl is g))) :
    ∃ W : Nat → Nat → L2.St → Hp → Prop, (∃ m, W 0 m σ H) ∧ ∀ i m σ H, W i m σ H →
      ((Itr lo n).stop i H ∧ D.nx σ H) ∨ ((Itr lo n).go i H ∧ ∃ N : L2.St → Hp → Prop, (∀ σ' H', N σ' H' → ∃ m', m' < m ∧ W (i + 1) m' σ' H') ∧ ∀ x H', (Itr lo n).yld i H x H' → tg x σ H' fun σ2 H2 => tb { D with nx := N, ct := N, bk := D.nx } σ2 H2) := by
  refine for_range (lo := lo) (n := n) (fun i σ' H' => ∃ g' S' F', Rel K cg pvs g' σ' S' F' H' ∧ PoS K cg W pvs S' F' H' D (forM is m mb ((rng lo n).drop i) g')) ?_ ?_ ?_
  · obtain ⟨S2, r2, s2⟩ := r.klS is
    exact ⟨_, S2, F, r2, PoS.st q s2⟩
  · rintro i σ' H' hi ⟨g', S', F', r', q'⟩
    rw [drop_get (rng_get hi)] at q'
    exact for_turn hg hb r' (.int _) q' _ fun g2 σ2 S2 F2 H2 s2 r2 q2 => ⟨g2, S2, F2, r2, q2⟩
  · rintro σ' H' ⟨g', S', F', r', q'⟩
    rw [List.drop_of_length_le (by rw [rng_len]; exact Nat.le_refl _)] at q'
    exact q' σ' S' F' H' (.refl r'.fh) r'
theorem rs_forR1 {ta : TA} {tb : TS} {tg : TG} {m : Tg} {ms : Gm → Out (List PyData)} {mb : Gm → SOut} {is ts : List Nat} (hs : RA K cg W ta ms) (hg : RG K cg ts tg m) (hb : RS K cg W tb mb) (h1 : ∀ g as g1, ms g = .ok as g1 → as.length = 1) : RS K cg W (tFor (iRng1 ta) tg tb) (sForR is m ms mb) := fun pvs g σ S F H D r q => by
  refine hs pvs g σ S F H _ r ?_
  unfold sForR at q
  cases e : ms g with
  | ok as g1 =>
    have hl := h1 _ _ _ e
    rw [e] at q
    intro vs S1 F1 H1 s1 r1 d1
    have q1 := PoS.st q s1
    cases d1 with
    | nil => cases hl
    | cons a t =>
      cases t with
      | cons b t => simp at hl
      | nil =>
        cases a with
        | int j =>
          simp only [rngOf, cIf] at q1
          split at q1
          · rename_i lo n ez
            split at ez
            · rename_i hz
              cases ez
              exact ⟨j, rfl, hz.1, hz.2, for_rng hg hb r1 q1⟩
            · cases ez
          · exact q1.elim
        | non => exact q1.elim
        | bl b => exact q1.elim
        | str x => exact q1.elim
        | lst h1 h2 => exact q1.elim
        | tup h1 h2 => exact q1.elim
  | err e' g1 =>
    rw [e] at q
    exact ErrS.p q
  | stk =>
    rw [e] at q
    exact q.elim
theorem rs_forR2 {ta : TA} {tb : TS} {tg : TG} {m : Tg} {ms : Gm → Out (List PyData)} {mb : Gm → SOut} {is ts : List Nat} (hs : RA K cg W ta ms) (hg : RG K cg ts tg m) (hb : RS K cg W tb mb) (h1 : ∀ g as g1, ms g = .ok as g1 → as.length = 2) : RS K cg W (tFor (iRng2 ta) tg tb) (sForR is m ms mb) := fun pvs g σ S F H D r q => by
  refine hs pvs g σ S F H _ r ?_
  unfold sForR at q
  cases e : ms g with
  | ok as g1 =>
    have hl := h1 _ _ _ e
    rw [e] at q
    intro vs S1 F1 H1 s1 r1 d1
    have q1 := PoS.st q s1
    cases d1 with
    | nil => cases hl
    | cons a t =>
      cases t with
      | nil => simp at hl
      | cons b t =>
        cases t with
        | cons c t => simp at hl
        | nil =>
          cases a with
          | int i =>
            cases b with
            | int j =>
              simp only [rngOf, cIf] at q1
              split at q1
              · rename_i lo n ez
                split at ez
                · rename_i hz
                  cases ez
                  exact ⟨i, j, rfl, hz, for_rng hg hb r1 q1⟩
                · cases ez
              · exact q1.elim
            | non => exact q1.elim
            | bl b => exact q1.elim
            | str x => exact q1.elim
            | lst h1 h2 => exact q1.elim
            | tup h1 h2 => exact q1.elim
          | non => exact q1.elim
          | bl b => exact q1.elim
          | str x => exact q1.elim
          | lst h1 h2 => exact q1.elim
          | tup h1 h2 => exact q1.elim
  | err e' g1 =>
    rw [e] at q
    exact ErrS.p q
  | stk =>
    rw [e] at q
    exact q.elim
theorem aCons_len {m : Gm → Out PyData} {mr : Gm → Out (List PyData)} {n : Nat} (h : ∀ g as g1, mr g = .ok as g1 → as.length = n) : ∀ g as g1, aCons m mr g = .ok as g1 → as.length = n + 1 := fun g as g1 e => by
  unfold aCons at e
  cases e1 : m g with
  | ok a g2 =>
    rw [e1] at e
    simp only [Out.bind] at e
    cases e2 : mr g2 with
    | ok bs g3 =>
      rw [e2] at e
      simp only at e
      cases e
      simp only [List.length_cons]
      rw [h _ _ _ e2]
    | err e' g3 =>
      rw [e2] at e
      cases e
    | stk =>
      rw [e2] at e
      cases e
  | err e' g2 =>
    rw [e1] at e
    cases e
  | stk =>
    rw [e1] at e
    cases e
theorem aNil_len : ∀ g as g1, aNil g = .ok as g1 → as.length = 0 := fun g as g1 e => by
  cases e
  rfl

/-! ### comprehensions -/
theorem wipe_get {σ : L2.St} {j : Nat} : ∀ {is : List Nat}, (wipe σ is)[j]? = if j ∈ is then (σ[j]?).map (fun _ => none) else σ[j]?
  | [] => by simp [wipe]
  | i :: is => by
    unfold wipe
    by_cases h : i = j
    · subst h
      rw [if_pos (by simp)]
      by_cases hl : i < (wipe σ is).length
      · rw [List.getElem?_set_self hl]
        rw [wipe_length] at hl
        rw [List.getElem?_eq_getElem hl]
        rfl
      · rw [List.getElem?_eq_none (by simpa using hl)]
        rw [wipe_length] at hl
        rw [List.getElem?_eq_none (by omega)]
        rfl
    · rw [List.getElem?_set_ne h, wipe_get (is := is)]
      have z : (j ∈ i :: is) ↔ j ∈ is := by
        simp only [List.mem_cons]
        exact ⟨fun q => q.elim (fun e => absurd e.symm h) id, .inr⟩
      by_cases q : j ∈ is
      · rw [if_pos q, if_pos (z.mpr q)]
      · rw [if_neg q, if_neg (fun y => q (z.mp y))]
theorem wipe_eq {σ σ' : L2.St} {is ts : List Nat} (h : Turns ts σ σ') (hs : ∀ j ∈ ts, j ∈ is) : wipe σ' is = wipe σ is := by
  refine List.ext_getElem? fun j => ?_
  rw [wipe_get, wipe_get]
  by_cases q : j ∈ is
  · rw [if_pos q, if_pos q]
    by_cases z : j < σ.length
    · rw [List.getElem?_eq_getElem z, List.getElem?_eq_getElem (by rw [h.1]; exact z)]
      rfl
    · have z2 : ¬ j < σ'.length := by
        rw [h.1]
        exact z
      rw [List.getElem?_eq_none (by omega), List.getElem?_eq_none (by omega)]
  · rw [if_neg q, if_neg q, h.2 j fun z => q (hs j z)]
/-- what the slots hold counts only where something is known -/
theorem Rel.sig {σ' : L2.St} (r : Rel K cg pvs g σ S F H) (hl : σ'.length = σ.length) (h : ∀ j : Nat, gt g j ≠ .no → σ'[j]? = σ[j]?) : Rel K cg pvs g σ' S F H := by
  obtain ⟨L, h1, h2, h3⟩ := r.ex
  refine ⟨r.fh, by rw [hl]; exact r.len, r.z, L, fun i => ?_, h2, h3⟩
  have b := h1 i
  unfold SlOk at b ⊢
  cases e : gt g i with
  | no =>
    rw [e] at b
    exact b
  | v o =>
    rw [e] at b
    rw [h i (by rw [e]; intro z; cases z)]
    exact b
  | pin o =>
    rw [e] at b
    rw [h i (by rw [e]; intro z; cases z)]
    exact b
  | al j n =>
    rw [e] at b
    rw [h i (by rw [e]; intro z; cases z)]
    exact b
  | xc =>
    rw [e] at b
    rw [h i (by rw [e]; intro z; cases z)]
    exact b
theorem kl_len : ∀ (is : List Nat) (g : Gm), (VL.kl is g).length = g.length
  | [], _ => rfl
  | i :: is, g => (kl_len is _).trans (st_len g i .no)
theorem gt_no (g : Gm) (i : Nat) : gt (st g i .no) i = .no := by
  by_cases hg : i < g.length
  · exact gt_st hg
  · cases q : gt (st g i .no) i with
    | no => rfl
    | v o => exact absurd (gt_lt (g := st g i .no) (i := i) (by rw [q]; intro z; cases z)) (by rw [st_len]; exact hg)
    | pin o => exact absurd (gt_lt (g := st g i .no) (i := i) (by rw [q]; intro z; cases z)) (by rw [st_len]; exact hg)
    | al _ _ => exact absurd (gt_lt (g := st g i .no) (i := i) (by rw [q]; intro z; cases z)) (by rw [st_len]; exact hg)
    | xc => exact absurd (gt_lt (g := st g i .no) (i := i) (by rw [q]; intro z; cases z)) (by rw [st_len]; exact hg)
theorem kl_keep : ∀ (is : List Nat) (g : Gm) (j : Nat), gt g j = .no → gt (VL.kl is g) j = .no
  | [], _, _, h => h
  | i :: is, g, j, h => kl_keep is _ j (by
    by_cases z : j = i
    · subst z
      exact gt_no g j
    · rw [gt_st_ne z]
      exact h)
theorem kl_no : ∀ (is : List Nat) (g : Gm) (j : Nat), j ∈ is → gt (VL.kl is g) j = .no
  | i :: is, g, j, h => by
    rcases List.mem_cons.mp h with e | h
    · subst e
      exact kl_keep is _ j (gt_no g j)
    · exact kl_no is _ j h
theorem Rel.wipe {is : List Nat} (r : Rel K cg pvs (VL.kl is g) σ S F H) : Rel K cg pvs (VL.kl is g) (L2.wipe σ is) S F H :=
  r.sig (wipe_length σ is) fun j hj => by
    rw [wipe_get, if_neg fun z => hj (kl_no is g j z)]
theorem Rel.unwipe {is : List Nat} (r : Rel K cg pvs (VL.kl is g) (L2.wipe σ is) S F H) : Rel K cg pvs (VL.kl is g) σ S F H :=
  r.sig (wipe_length σ is).symm fun j hj => by
    rw [wipe_get, if_neg fun z => hj (kl_no is g j z)]
def cmpM (is : List Nat) (tg : Tg) (mt : Gm → Out Bool) (me : Gm → Out PyData) : List PyData → List PyData → Gm → Out (List PyData)
  | [], acc, g => .ok acc g
  | d :: ds, acc, g => match tg d g with
    | none => .stk
    | some g1 => match mt g1 with
      | .ok true g2 => match me g2 with
        | .ok y g3 => if acc.length < zl then cmpM is tg mt me ds (acc ++ [y]) (VL.kl is g3) else .stk
        | _ => .stk
      | .ok false g2 => cmpM is tg mt me ds acc (VL.kl is g2)
      | _ => .stk
/-- the slots' plain data ahead of a comprehension stand behind it -/
def rst : List Nat → Gm → Gm → Gm
  | [], _, g => g
  | i :: is, g0, g => rst is g0 (match gt g0 i with
    | .v (.dat d) => st g i (.v (.dat d))
    | .pin (.dat d) => st g i (.pin (.dat d))
    | _ => g)
def W0 : WX := fun _ _ _ _ => False
/-- what is wanted behind a comprehension whose list lies at L -/
def PoC (K : PySem.W.Frag) (cg : Cg) (pvs : Pv) (σ : L2.St) (L : Addr) (S : Addr → Prop) (F H : Hp) (Q : Hp → Prop) (x : Out (List PyData)) (fin : Gm → Prop) : Prop :=
  match x with
  | .ok acc g => fin g ∧ ∀ S' F' H' vs, Stp (fun p => S p ∨ p = L) F H (fun p => S' p ∨ p = L) F' H' → Rel K cg pvs g σ S' F' H' → H' L = some (.lst vs) → F' L = none → ¬ S' L → DqA K F' vs acc → Q H'
  | _ => False
theorem PoC.st {L : Addr} {Q : Hp → Prop} {x : Out (List PyData)} {fin : Gm → Prop} (h : PoC K cg pvs σ L S F H Q x fin) (a : Stp (fun p => S p ∨ p = L) F H (fun p => S1 p ∨ p = L) F1 H1) : PoC K cg pvs σ L S1 F1 H1 Q x fin := by
  cases x with
  | ok acc g => exact ⟨h.1, fun S' F' H' vs b => h.2 S' F' H' vs (a.trans b)⟩
  | err e g => exact h
  | stk => exact h
/-- a step beside the list at L -/
theorem stp_beside {L : Addr} {u : HO} (a : Stp S F H S1 F1 H1) (hL : H L = some u) (hs : ¬ S L) (hf : F L = none) (hn : ∀ vs, u ≠ .tup vs := by intro _ z; cases z) : Stp (fun p => S p ∨ p = L) F H (fun p => S1 p ∨ p = L) F1 H1 ∧ H1 L = some u ∧ ¬ S1 L ∧ F1 L = none := by
  refine ⟨⟨fun p w hp e => a.keep p w (fun z => hp (.inl z)) e, a.fr, fun p w e => (a.nw p w e).imp id (fun z => z.imp id .inl), fun p hp => ?_, a.fh⟩, a.keep L u hs hL, fun z => ?_, ?_⟩
  · rcases hp with z | z
    · exact (a.fp p z).imp .inl id
    · exact .inl (.inr z)
  · rcases a.fp L z with y | y
    · exact hs y
    · rw [hL] at y
      cases y
  · cases q : F1 L with
    | none => rfl
    | some w =>
      rcases a.nw L w q with ⟨z, y⟩ | y | y
      · rw [hf] at y
        cases y
      · exact absurd y (Nw.not hL hn)
      · exact absurd y hs
theorem cmp_turn {tg : TG} {tt : TT} {te : TE} {m : Tg} {mt : Gm → Out Bool} {me : Gm → Out PyData} {is ts : List Nat} {d : PyData} {ds acc : List PyData} {x : V} {L : Addr} {vs : List V} {Q : Hp → Prop} {fin : Gm → Prop} {Nx : Hp → Prop}
    (hg : RG K cg ts tg m) (hts : ∀ j ∈ ts, j ∈ is) (ht : RT K cg W0 tt mt) (he : RV K cg W0 te me) (r : Rel K cg pvs g (L2.wipe σ is) S F H) (hL : H L = some (.lst vs)) (hF : F L = none) (hS : ¬ S L) (ha : DqA K F vs acc) (hd : Dq K F x d)
    (q : PoC K cg pvs (L2.wipe σ is) L S F H Q (cmpM is m mt me (d :: ds) acc g) fin)
    (hN : ∀ g' S' F' H' vs' acc', Stp (fun p => S p ∨ p = L) F H (fun p => S' p ∨ p = L) F' H' → Rel K cg pvs (VL.kl is g') (L2.wipe σ is) S' F' H' → H' L = some (.lst vs') → F' L = none → ¬ S' L → DqA K F' vs' acc' → PoC K cg pvs (L2.wipe σ is) L S' F' H' Q (cmpM is m mt me ds acc' (VL.kl is g')) fin → Nx H') :
    tg x (L2.wipe σ is) H fun σ2 H2 => L2.wipe σ2 is = L2.wipe σ is ∧ tt σ2 H2 fun b H3 => if b = true then te σ2 H3 fun y H4 => ∃ acc, H4 L = some (.lst acc) ∧ acc.length < sizeLine ∧ Nx (upd H4 L (.lst (acc ++ [y]))) else Nx H3 := by
  unfold cmpM at q
  cases e : m d g with
  | none =>
    simp only [e] at q
    exact q.elim
  | some g1 =>
    simp only [e] at q
    refine hg pvs g g1 _ S F H x d _ r hd e fun σ2 S2 r2 h2 t2 => ?_
    have ew : L2.wipe σ2 is = L2.wipe σ is := by
      rw [wipe_eq t2 hts]
      refine List.ext_getElem? fun j => ?_
      rw [wipe_get, wipe_get]
      by_cases z : j ∈ is
      · simp only [if_pos z]
        cases σ[j]? <;> rfl
      · simp only [if_neg z]
    refine ⟨ew, ht pvs g1 σ2 S2 F H _ r2 ?_⟩
    have s2 : Stp S F H S2 F H := (Stp.refl r.fh).sub h2
    obtain ⟨b2, hL2, hS2, hF2⟩ := stp_beside s2 hL hS hF
    have q2 := PoC.st q b2
    have back : ∀ {g' : Gm} {S' : Addr → Prop} {F' H' : Hp}, Rel K cg pvs g' σ2 S' F' H' → ∃ S'', Rel K cg pvs (VL.kl is g') (L2.wipe σ is) S'' F' H' ∧ ∀ p, S'' p → S' p := fun {g' S' F' H'} rr => by
      obtain ⟨S'', rk, hk⟩ := rr.kl is
      have rw1 := rk.wipe
      rw [ew] at rw1
      exact ⟨S'', rw1, hk⟩
    cases e2 : mt g1 with
    | err e' g2 =>
      simp only [e2] at q2
      exact q2.elim
    | stk =>
      simp only [e2] at q2
      exact q2.elim
    | ok b g2 =>
      intro S3 F3 H3 s3 r3
      obtain ⟨b3, hL3, hS3, hF3⟩ := stp_beside s3 hL2 hS2 hF2
      cases b with
      | false =>
        simp only [e2] at q2
        show Nx H3
        obtain ⟨S4, r4, h4⟩ := back r3
        have b4 : Stp (fun p => S3 p ∨ p = L) F3 H3 (fun p => S4 p ∨ p = L) F3 H3 := (Stp.refl r3.fh).sub fun p hp => hp.imp (h4 p) id
        exact hN g2 S4 F3 H3 vs acc ((b2.trans b3).trans b4) r4 hL3 hF3 (fun z => hS3 (h4 L z)) (dpa_mo ha s3.fr) (PoC.st (PoC.st q2 b3) b4)
      | true =>
        simp only [e2] at q2
        show te σ2 H3 _
        refine he pvs g2 σ2 S3 F3 H3 _ r3 ?_
        cases e3 : me g2 with
        | err e' g3 =>
          simp only [e3] at q2
          exact q2.elim
        | stk =>
          simp only [e3] at q2
          exact q2.elim
        | ok y g3 =>
          simp only [e3] at q2
          intro v S4 F4 H4 s4 r4 d4
          obtain ⟨b4, hL4, hS4, hF4⟩ := stp_beside s4 hL3 hS3 hF3
          split at q2
          · rename_i hz
            have ha4 := dpa_mo (dpa_mo ha s3.fr) s4.fr
            refine ⟨vs, hL4, by rw [dpa_len ha]; exact zl_lt hz, ?_⟩
            obtain ⟨S5, r5, h5⟩ := back r4
            have nS5 : ¬ S5 L := fun z => hS4 (h5 L z)
            have u := stp_upd (o := .lst (vs ++ [v])) r4.fh hF4
            have b5 : Stp (fun p => S4 p ∨ p = L) F4 H4 (fun p => S5 p ∨ p = L) F4 (upd H4 L (.lst (vs ++ [v]))) :=
              ⟨fun p w hp e => u.keep p w (fun z => hp (.inr z)) e, u.fr, fun p w e => .inl ⟨w, e⟩, fun p hp => .inl (hp.imp (h5 p) id), u.fh⟩
            have r6 : Rel K cg pvs (VL.kl is g3) (L2.wipe σ is) S5 F4 (upd H4 L (.lst (vs ++ [v]))) := r5.stp u fun p hp z => nS5 (z ▸ hp)
            exact hN g3 S5 F4 _ (vs ++ [v]) (acc ++ [y]) (((b2.trans b3).trans b4).trans b5) r6 upd_same hF4 nS5 (dpa_app ha4 (.cons d4 .nil)) (PoC.st (PoC.st (PoC.st q2 b3) b4) b5)
          · exact q2.elim
theorem Rel.putD {i : Nat} {v : V} {d : PyData} (r : Rel K cg pvs g σ S F H) (e : gt g i = .no) (hv : σ[i]? = some (some v)) (hd : Dq K F v d) : Rel K cg pvs (st g i (.v (.dat d))) σ S F H := by
  obtain ⟨L, h1, h2, h3⟩ := r.ex
  refine ⟨r.fh, by rw [st_len]; exact r.len, r.z, L, fun j => ?_, h2, h3⟩
  have b := h1 j
  unfold SlOk at b ⊢
  by_cases z : j = i
  · subst z
    rw [e] at b
    by_cases hl : j < g.length
    · rw [gt_st hl]
      exact ⟨v, hv, .dat hd b⟩
    · have z : j < σ.length := (List.getElem?_eq_some_iff.mp hv).1
      rw [r.len] at hl
      exact absurd z hl
  · rw [gt_st_ne z]
    exact b
theorem Rel.putP {i : Nat} {v : V} {d : PyData} (r : Rel K cg pvs g σ S F H) (e : gt g i = .no) (hv : σ[i]? = some (some v)) (hp : pvs i = some v) (hd : Dq K F v d) : Rel K cg pvs (st g i (.pin (.dat d))) σ S F H := by
  obtain ⟨L, h1, h2, h3⟩ := r.ex
  refine ⟨r.fh, by rw [st_len]; exact r.len, r.z, L, fun j => ?_, h2, h3⟩
  have b := h1 j
  unfold SlOk at b ⊢
  by_cases z : j = i
  · subst z
    rw [e] at b
    by_cases hl : j < g.length
    · rw [gt_st hl]
      exact ⟨v, hv, hp, .dat hd b⟩
    · have z : j < σ.length := (List.getElem?_eq_some_iff.mp hv).1
      rw [r.len] at hl
      exact absurd z hl
  · rw [gt_st_ne z]
    exact b
theorem Rel.rst {g0 : Gm} {S0 : Addr → Prop} {F0 H0 : Hp} (r0 : Rel K cg pvs g0 σ S0 F0 H0) (hF : Same F0 F) : ∀ (is : List Nat), is.Nodup → ∀ (g : Gm), Rel K cg pvs g σ S F H → (∀ i ∈ is, gt g i = .no) → Rel K cg pvs (VL.rst is g0 g) σ S F H := fun is => by
  induction is with
  | nil => exact fun _ g r _ => r
  | cons i is ih =>
    intro nd g r hn
    have e0 := hn i (by simp)
    obtain ⟨n1, n2⟩ := List.nodup_cons.mp nd
    obtain ⟨L, h1, _, _⟩ := r0.ex
    have b := h1 i
    unfold SlOk at b
    unfold VL.rst
    have stay : ∀ s : Sl, ∀ j ∈ is, gt (VL.st g i s) j = .no := fun s j hj => by
      rw [gt_st_ne (show j ≠ i from fun z => n1 (z ▸ hj))]
      exact hn j (List.mem_cons_of_mem _ hj)
    have keep : ∀ j ∈ is, gt g j = .no := fun j hj => hn j (List.mem_cons_of_mem _ hj)
    split
    · rename_i d e
      rw [e] at b
      obtain ⟨v, ev, ow⟩ := b
      cases ow with
      | dat hd _ => exact ih n2 _ (r.putD e0 ev (dp_mo hd hF)) (stay _)
    · rename_i d e
      rw [e] at b
      obtain ⟨v, ev, ep, ow⟩ := b
      cases ow with
      | dat hd _ => exact ih n2 _ (r.putP e0 ev ep (dp_mo hd hF)) (stay _)
    · exact ih n2 _ r keep
/-- from the loop's end to the comprehension's value -/
def cEnd (is : List Nat) (g1 : Gm) (x : Out (List PyData)) : Out OD :=
  match x with
  | .ok acc g2 => .ok (.lst acc) (VL.rst is g1 g2)
  | _ => .stk
def oComp (of : PyData → Option (List PyData)) (is : List Nat) (tg : Tg) (mt : Gm → Out Bool) (me ms : Gm → Out PyData) (g : Gm) : Out OD :=
  match ms g with
  | .ok d g1 => match of d with
    | some ds => cEnd is g1 (cmpM is tg mt me ds [] (VL.kl is g1))
    | none => .stk
  | .err e g1 => .err e g1
  | .stk => .stk
theorem cmp_no {is : List Nat} {tg : Tg} {mt : Gm → Out Bool} {me : Gm → Out PyData} : ∀ (ds acc : List PyData) (g : Gm) (acc' : List PyData) (g' : Gm), cmpM is tg mt me ds acc (VL.kl is g) = .ok acc' g' → ∃ g2, g' = VL.kl is g2
  | [], acc, g, acc', g', h => by
    cases h
    exact ⟨g, rfl⟩
  | d :: ds, acc, g, acc', g', h => by
    unfold cmpM at h
    split at h
    · cases h
    · split at h
      · split at h
        · split at h
          · exact cmp_no ds _ _ acc' g' h
          · cases h
        · cases h
      · exact cmp_no ds _ _ acc' g' h
      · cases h
theorem cmp_end {is : List Nat} {L : Addr} {Q : VK} {x : Out (List PyData)} (hnd : is.Nodup) (r1 : Rel K cg pvs g σ S F H) (hx : ∀ acc g', x = .ok acc g' → ∃ g2, g' = VL.kl is g2) (q : PoO K cg W pvs σ S F H Q (cEnd is g x)) (hL : H L = none) :
    PoC K cg pvs (L2.wipe σ is) L S F (upd H L (.lst [])) (Q (.ref L)) x fun _ => True := by
  cases x with
  | err e g' => exact q.elim
  | stk => exact q.elim
  | ok acc g' =>
    obtain ⟨g2, eg⟩ := hx acc g' rfl
    subst eg
    refine ⟨trivial, fun S' F' H' vs b r' h1 h2 h3 h4 => ?_⟩
    have u := pst_own (o := .lst []) r1.fh hL
    have s1 : Stp S F H (fun p => S p ∨ p = L) F (upd H L (.lst [])) := u.stpA fun p hp => by
      rw [hp]
      exact hL
    have s2 := s1.trans b
    exact q (.ref L) (fun p => p = L) S' F' H' s2 (Rel.rst r1 s2.fr is hnd _ r'.unwipe (kl_no is g2)) (.lst h1 h2 h4 fun _ => Iff.rfl) fun p hp hs => h3 (hp ▸ hs)
theorem ro_compL {tl : TE} {tg : TG} {tt : TT} {te : TE} {m : Tg} {ms me : Gm → Out PyData} {mt : Gm → Out Bool} {is ts : List Nat} (hs : RV K cg W tl ms) (hg : RG K cg ts tg m) (ht : RT K cg W0 tt mt) (he : RV K cg W0 te me) (hts : ∀ j ∈ ts, j ∈ is) (hnd : is.Nodup) :
    RO K cg W (tLc (iList K tl) tg tt te is) (oComp lof is m mt me ms) := fun pvs g σ S F H Q r q => by
  refine hs pvs g σ S F H _ r ?_
  unfold oComp at q
  cases e : ms g with
  | ok d g1 =>
    rw [e] at q
    intro v S1 F1 H1 s1 r1 d1
    have q1 := PoO.st q s1
    cases d1 with
    | lst h1 h2 =>
      rename_i a vs ds
      simp only [lof] at q1
      refine ⟨a, rfl, ⟨vs, .of (r1.fh _ _ h1)⟩, fun L hL => ?_⟩
      obtain ⟨Sk, rk, hk⟩ := r1.kl is
      have u := pst_own (o := .lst []) r1.fh hL
      have q2 := cmp_end hnd r1 (fun acc g' ex => cmp_no _ _ _ _ _ ex) q1 hL
      have b0 : Stp (fun p => S1 p ∨ p = L) F1 (upd H1 L (.lst [])) (fun p => Sk p ∨ p = L) F1 (upd H1 L (.lst [])) := (Stp.refl u.fh).sub fun p hp => hp.imp (hk p) id
      have nSk : ¬ Sk L := fun z => by
        obtain ⟨_, w, ew⟩ := r1.at (hk L z)
        rw [hL] at ew
        cases ew
      refine lc_list (K := K) (a := a) (xs := vs) (fun i H' => ∃ g' S' F' vs' acc, Rel K cg pvs (VL.kl is g') (L2.wipe σ is) S' F' H' ∧ F' a = some (.lst vs) ∧ DqA K F' vs ds ∧ H' L = some (.lst vs') ∧ F' L = none ∧ ¬ S' L ∧ DqA K F' vs' acc ∧ PoC K cg pvs (L2.wipe σ is) L S' F' H' (Q (.ref L)) (cmpM is m mt me (ds.drop i) acc (VL.kl is g')) fun _ => True) ?_ ?_ ?_ ?_
      · exact ⟨g1, Sk, F1, [], [], (rk.pst u).wipe, h1, h2, upd_same, r1.fh.free hL, nSk, .nil, PoC.st q2 b0⟩
      · rintro i H' _ ⟨g', S', F', vs', acc, r', h1', _⟩
        exact .of (r'.fh _ _ h1')
      · rintro i x H' hx ⟨g', S', F', vs', acc, r', h1', h2', a1, a2, a3, a4, q'⟩
        obtain ⟨d, ed, hd⟩ := dpa_get h2' hx
        rw [drop_get ed] at q'
        exact cmp_turn hg hts ht he r' a1 a2 a3 a4 hd q' fun g2 S2 F2 H2 vs2 acc2 b2 r2 c1 c2 c3 c4 q2 => ⟨g2, S2, F2, vs2, acc2, r2, b2.fr _ _ h1', dpa_mo h2' b2.fr, c1, c2, c3, c4, q2⟩
      · rintro H' ⟨g', S', F', vs', acc, r', _, h2', a1, a2, a3, a4, q'⟩
        rw [dpa_len h2', List.drop_length] at q'
        exact q'.2 S' F' H' vs' (.refl r'.fh) r' a1 a2 a3 a4
    | non => exact q1.elim
    | bl b => exact q1.elim
    | int i => exact q1.elim
    | str x => exact q1.elim
    | tup h1 h2 => exact q1.elim
  | err e' g1 =>
    rw [e] at q
    exact q
  | stk =>
    rw [e] at q
    exact q.elim
theorem ro_compT {tl : TE} {tg : TG} {tt : TT} {te : TE} {m : Tg} {ms me : Gm → Out PyData} {mt : Gm → Out Bool} {is ts : List Nat} (hs : RV K cg W tl ms) (hg : RG K cg ts tg m) (ht : RT K cg W0 tt mt) (he : RV K cg W0 te me) (hts : ∀ j ∈ ts, j ∈ is) (hnd : is.Nodup) :
    RO K cg W (tLc (iTup K tl) tg tt te is) (oComp tof is m mt me ms) := fun pvs g σ S F H Q r q => by
  refine hs pvs g σ S F H _ r ?_
  unfold oComp at q
  cases e : ms g with
  | ok d g1 =>
    rw [e] at q
    intro v S1 F1 H1 s1 r1 d1
    have q1 := PoO.st q s1
    cases d1 with
    | tup h1 h2 =>
      rename_i a vs ds
      simp only [tof] at q1
      refine ⟨a, rfl, ⟨vs, sqt_mono r1.fh h1⟩, fun L hL => ?_⟩
      obtain ⟨Sk, rk, hk⟩ := r1.kl is
      have u := pst_own (o := .lst []) r1.fh hL
      have q2 := cmp_end hnd r1 (fun acc g' ex => cmp_no _ _ _ _ _ ex) q1 hL
      have b0 : Stp (fun p => S1 p ∨ p = L) F1 (upd H1 L (.lst [])) (fun p => Sk p ∨ p = L) F1 (upd H1 L (.lst [])) := (Stp.refl u.fh).sub fun p hp => hp.imp (hk p) id
      have nSk : ¬ Sk L := fun z => by
        obtain ⟨_, w, ew⟩ := r1.at (hk L z)
        rw [hL] at ew
        cases ew
      refine lc_tup (K := K) (a := a) (xs := vs) (fun i H' => ∃ g' S' F' vs' acc, Rel K cg pvs (VL.kl is g') (L2.wipe σ is) S' F' H' ∧ SqT K F' a vs ∧ DqA K F' vs ds ∧ H' L = some (.lst vs') ∧ F' L = none ∧ ¬ S' L ∧ DqA K F' vs' acc ∧ PoC K cg pvs (L2.wipe σ is) L S' F' H' (Q (.ref L)) (cmpM is m mt me (ds.drop i) acc (VL.kl is g')) fun _ => True) ?_ ?_ ?_ ?_
      · exact ⟨g1, Sk, F1, [], [], (rk.pst u).wipe, h1, h2, upd_same, r1.fh.free hL, nSk, .nil, PoC.st q2 b0⟩
      · rintro i H' _ ⟨g', S', F', vs', acc, r', h1', _⟩
        exact sqt_mono r'.fh h1'
      · rintro i x H' hx ⟨g', S', F', vs', acc, r', h1', h2', a1, a2, a3, a4, q'⟩
        obtain ⟨d, ed, hd⟩ := dpa_get h2' hx
        rw [drop_get ed] at q'
        exact cmp_turn hg hts ht he r' a1 a2 a3 a4 hd q' fun g2 S2 F2 H2 vs2 acc2 b2 r2 c1 c2 c3 c4 q2 => ⟨g2, S2, F2, vs2, acc2, r2, sqt_mono b2.fr h1', dpa_mo h2' b2.fr, c1, c2, c3, c4, q2⟩
      · rintro H' ⟨g', S', F', vs', acc, r', _, h2', a1, a2, a3, a4, q'⟩
        rw [dpa_len h2', List.drop_length] at q'
        exact q'.2 S' F' H' vs' (.refl r'.fh) r' a1 a2 a3 a4
    | non => exact q1.elim
    | bl b => exact q1.elim
    | int i => exact q1.elim
    | str x => exact q1.elim
    | lst h1 h2 => exact q1.elim
  | err e' g1 =>
    rw [e] at q
    exact q
  | stk =>
    rw [e] at q
    exact q.elim
noncomputable def oCompR (is : List Nat) (tg : Tg) (mt : Gm → Out Bool) (me : Gm → Out PyData) (ms : Gm → Out (List PyData)) (g : Gm) : Out OD :=
  match ms g with
  | .ok as g1 => match rngOf as with
    | some (lo, n) => cEnd is g1 (cmpM is tg mt me (rng lo n) [] (VL.kl is g1))
    | none => .stk
  | .err e g1 => .err e g1
  | .stk => .stk
theorem comp_rng {tg : TG} {tt : TT} {te : TE} {m : Tg} {me : Gm → Out PyData} {mt : Gm → Out Bool} {is ts : List Nat} {lo : Int} {n : Nat} {Q : VK} {L : Addr} (hg : RG K cg ts tg m) (ht : RT K cg W0 tt mt) (he : RV K cg W0 te me) (hts : ∀ j ∈ ts, j ∈ is) (hnd : is.Nodup)
    (r1 : Rel K cg pvs g σ S F H) (q1 : PoO K cg W pvs σ S F H Q (cEnd is g (cmpM is m mt me (rng lo n) [] (VL.kl is g)))) (hL : H L = none) :
    ∃ W : Nat → Nat → Hp → Prop, (∃ m, W 0 m (upd H L (.lst []))) ∧ ∀ i m H, W i m H →
      ((Itr lo n).stop i H ∧ Q (.ref L) H) ∨ ((Itr lo n).go i H ∧ ∃ Nx : Hp → Prop, (∀ H', Nx H' → ∃ m', m' < m ∧ W (i + 1) m' H') ∧ ∀ x H', (Itr lo n).yld i H x H' → tg x (L2.wipe σ is) H' fun σ2 H2 => L2.wipe σ2 is = L2.wipe σ is ∧ tt σ2 H2 fun b H3 =>
        if b = true then te σ2 H3 fun y H4 => ∃ acc, H4 L = some (.lst acc) ∧ acc.length < sizeLine ∧ Nx (upd H4 L (.lst (acc ++ [y]))) else Nx H3) := by
  obtain ⟨Sk, rk, hk⟩ := r1.kl is
  have u := pst_own (o := .lst []) r1.fh hL
  have q2 := cmp_end hnd r1 (fun acc g' ex => cmp_no _ _ _ _ _ ex) q1 hL
  have b0 : Stp (fun p => S p ∨ p = L) F (upd H L (.lst [])) (fun p => Sk p ∨ p = L) F (upd H L (.lst [])) := (Stp.refl u.fh).sub fun p hp => hp.imp (hk p) id
  have nSk : ¬ Sk L := fun z => by
    obtain ⟨_, w, ew⟩ := r1.at (hk L z)
    rw [hL] at ew
    cases ew
  refine lc_range (lo := lo) (n := n) (fun i H' => ∃ g' S' F' vs' acc, Rel K cg pvs (VL.kl is g') (L2.wipe σ is) S' F' H' ∧ H' L = some (.lst vs') ∧ F' L = none ∧ ¬ S' L ∧ DqA K F' vs' acc ∧ PoC K cg pvs (L2.wipe σ is) L S' F' H' (Q (.ref L)) (cmpM is m mt me ((rng lo n).drop i) acc (VL.kl is g')) fun _ => True) ?_ ?_ ?_
  · exact ⟨g, Sk, F, [], [], (rk.pst u).wipe, upd_same, r1.fh.free hL, nSk, .nil, PoC.st q2 b0⟩
  · rintro i H' hi ⟨g', S', F', vs', acc, r', a1, a2, a3, a4, q'⟩
    rw [drop_get (rng_get hi)] at q'
    exact cmp_turn hg hts ht he r' a1 a2 a3 a4 (.int _) q' fun g2 S2 F2 H2 vs2 acc2 b2 r2 c1 c2 c3 c4 q2 => ⟨g2, S2, F2, vs2, acc2, r2, c1, c2, c3, c4, q2⟩
  · rintro H' ⟨g', S', F', vs', acc, r', a1, a2, a3, a4, q'⟩
    rw [List.drop_of_length_le (by rw [rng_len]; exact Nat.le_refl _)] at q'
    exact q'.2 S' F' H' vs' (.refl r'.fh) r' a1 a2 a3 a4
theorem ro_compR1 {ta : TA} {tg : TG} {tt : TT} {te : TE} {m : Tg} {me : Gm → Out PyData} {ms : Gm → Out (List PyData)} {mt : Gm → Out Bool} {is ts : List Nat} (hs : RA K cg W ta ms) (hg : RG K cg ts tg m) (ht : RT K cg W0 tt mt) (he : RV K cg W0 te me) (hts : ∀ j ∈ ts, j ∈ is) (hnd : is.Nodup)
    (h1 : ∀ g as g1, ms g = .ok as g1 → as.length = 1) : RO K cg W (tLc (iRng1 ta) tg tt te is) (oCompR is m mt me ms) := fun pvs g σ S F H Q r q => by
  refine hs pvs g σ S F H _ r ?_
  unfold oCompR at q
  cases e : ms g with
  | ok as g1 =>
    have hl := h1 _ _ _ e
    rw [e] at q
    intro vs S1 F1 H1 s1 r1 d1
    have q1 := PoO.st q s1
    cases d1 with
    | nil => cases hl
    | cons a t =>
      cases t with
      | cons b t => simp at hl
      | nil =>
        cases a with
        | int j =>
          simp only [rngOf, cIf] at q1
          split at q1
          · rename_i lo n ez
            split at ez
            · rename_i hz
              cases ez
              exact ⟨j, rfl, hz.1, hz.2, fun L hL => comp_rng hg ht he hts hnd r1 q1 hL⟩
            · cases ez
          · exact q1.elim
        | non => exact q1.elim
        | bl b => exact q1.elim
        | str x => exact q1.elim
        | lst h1 h2 => exact q1.elim
        | tup h1 h2 => exact q1.elim
  | err e' g1 =>
    rw [e] at q
    exact q
  | stk =>
    rw [e] at q
    exact q.elim
theorem ro_compR2 {ta : TA} {tg : TG} {tt : TT} {te : TE} {m : Tg} {me : Gm → Out PyData} {ms : Gm → Out (List PyData)} {mt : Gm → Out Bool} {is ts : List Nat} (hs : RA K cg W ta ms) (hg : RG K cg ts tg m) (ht : RT K cg W0 tt mt) (he : RV K cg W0 te me) (hts : ∀ j ∈ ts, j ∈ is) (hnd : is.Nodup)
    (h1 : ∀ g as g1, ms g = .ok as g1 → as.length = 2) : RO K cg W (tLc (iRng2 ta) tg tt te is) (oCompR is m mt me ms) := fun pvs g σ S F H Q r q => by
  refine hs pvs g σ S F H _ r ?_
  unfold oCompR at q
  cases e : ms g with
  | ok as g1 =>
    have hl := h1 _ _ _ e
    rw [e] at q
    intro vs S1 F1 H1 s1 r1 d1
    have q1 := PoO.st q s1
    cases d1 with
    | nil => cases hl
    | cons a t =>
      cases t with
      | nil => simp at hl
      | cons b t =>
        cases t with
        | cons c t => simp at hl
        | nil =>
          cases a with
          | int i =>
            cases b with
            | int j =>
              simp only [rngOf, cIf] at q1
              split at q1
              · rename_i lo n ez
                split at ez
                · rename_i hz
                  cases ez
                  exact ⟨i, j, rfl, hz, fun L hL => comp_rng hg ht he hts hnd r1 q1 hL⟩
                · cases ez
              · exact q1.elim
            | non => exact q1.elim
            | bl b => exact q1.elim
            | str x => exact q1.elim
            | lst h1 h2 => exact q1.elim
            | tup h1 h2 => exact q1.elim
          | non => exact q1.elim
          | bl b => exact q1.elim
          | str x => exact q1.elim
          | lst h1 h2 => exact q1.elim
          | tup h1 h2 => exact q1.elim
  | err e' g1 =>
    rw [e] at q
    exact q
  | stk =>
    rw [e] at q
    exact q.elim
def tYesM (g : Gm) : Out Bool := .ok true g
theorem rt_yes : RT K cg W tYes tYesM := fun pvs g σ S F H Q r q => q S F H (.refl r.fh) r
/-! ### raise and try -/
def sErr (e : Er) (g : Gm) : SOut := .err e g
theorem rs_raise {C : Addr} {c : Str} (hc : cg c = some (.ref C)) : RS K cg W (fun _ σ H => W (.ref C) none σ H) (sErr ⟨c, []⟩) := fun pvs g σ S F H D r q => q C none σ S F H (.refl r.fh) r hc rfl
/-- the clauses of a try: which class they take, what they do -/
abbrev Cls := List ((Str → Option Bool) × (Er → Gm → SOut))
def caught : Cls → Er → Gm → SOut
  | [], e, g => .err e g
  | (f, ms) :: r, e, g => match f e.c with
    | some true => ms e g
    | some false => caught r e g
    | none => .stk
def sTry (mb : Gm → SOut) (cs : Cls) (g : Gm) : SOut :=
  match mb g with
  | .err e g1 => caught cs e g1
  | y => y
/-- a clause is what its suites mirror -/
inductive ClsOk (K : PySem.W.Frag) (cg : Cg) (Wout : WX) : List (Value × (Addr → Value → Option Addr → TS)) → Cls → Prop
  | nil : ClsOk K cg Wout [] []
  | cons {c : Value} {ts : Addr → Value → Option Addr → TS} {f : Str → Option Bool} {ms : Er → Gm → SOut} {l : List (Value × (Addr → Value → Option Addr → TS))} {cs : Cls} (hf : ∀ x C b, cg x = some (.ref C) → f x = some b → PySem.W.exmOne K (.ref C) c = some b)
      (hs : ∀ e a C dop, cg e.c = some (.ref C) → RS K cg Wout (ts a (.ref C) dop) (ms e)) (r : ClsOk K cg Wout l cs) : ClsOk K cg Wout ((c, ts) :: l) ((f, ms) :: cs)
theorem caught_ok {Wout : WX} {l : List (Value × (Addr → Value → Option Addr → TS))} {cs : Cls} (h : ClsOk K cg Wout l cs) {e : Er} {C : Addr} {dop : Option Addr} (r : Rel K cg pvs g σ S F H) (hc : cg e.c = some (.ref C)) (hx : XOk K F e.xs dop)
    (q : PoS K cg Wout pvs S F H D (caught cs e g)) : wMany K Wout D l (.ref C) dop σ H := by
  induction h with
  | nil => exact q C dop σ S F H (.refl r.fh) r hc hx
  | @cons c ts f ms l cs hf hs hr ih =>
    unfold caught at q
    cases ef : f e.c with
    | none =>
      simp only [ef] at q
      exact q.elim
    | some b =>
      simp only [ef] at q
      refine ⟨b, hf e.c C b hc ef, fun eb a _ => ?_, fun eb => ?_⟩
      · subst eb
        exact hs e a C dop hc pvs g σ S F H D r q
      · subst eb
        exact ih q
theorem rs_try {Wout : WX} {tb : WX → TS} {mb : Gm → SOut} {l : List (Value × (Addr → Value → Option Addr → TS))} {cs : Cls} (hb : ∀ W, RS K cg W (tb W) mb) (hk : ClsOk K cg Wout l cs) : RS K cg Wout (fun D σ H => tb (wMany K Wout D l) D σ H) (sTry mb cs) := fun pvs g σ S F H D r q => by
  refine hb (wMany K Wout D l) pvs g σ S F H D r ?_
  unfold sTry at q
  cases e : mb g with
  | nx g1 =>
    rw [e] at q
    exact q
  | rt o g1 =>
    rw [e] at q
    exact q
  | br g1 =>
    rw [e] at q
    exact q
  | ct g1 =>
    rw [e] at q
    exact q
  | stk =>
    rw [e] at q
    exact q
  | err e' g1 =>
    rw [e] at q
    exact fun C dop σ' S' F' H' b r' hc hx => caught_ok hk r' hc hx (PoS.st q b)
end
/-! ### statements of the text -/
section
variable {X : Cx} {W : Wz} {st : Stmt} {rest : List Stmt} {a b c e : Expr} {es : List Expr} {pos : Pos}
theorem dss_nil : DSs X W [] sNx := ⟨_, pss_nil, rs_next⟩
theorem dss_one {m : Gm → SOut} (h : DS X W st m) : DSs X W [st] m := let ⟨_, h1, h2⟩ := h; ⟨_, pss_one h1, h2⟩
theorem dss_cons {m n : Gm → SOut} (h : DS X W st m) (hr : DSs X W rest n) : DSs X W (st :: rest) (sSeq m n) := let ⟨_, h1, h2⟩ := h; let ⟨_, k1, k2⟩ := hr; ⟨_, pss_cons h1 k1, rs_seq h2 k2⟩
theorem dss_frz {m : Gm → SOut} {l : List Stmt} (i : Nat) (h : DSs X W l m) : DSs X W l (sFrz i m) := let ⟨_, h1, h2⟩ := h; ⟨_, h1, rs_frz i h2⟩
theorem ds_pass : DS X W (.Pass pos) sNx := ⟨_, ps_pass, rs_next⟩
theorem ds_break : DS X W (.Break pos) (fun g => .br g) := ⟨_, ps_break, rs_break⟩
theorem ds_cont : DS X W (.Continue pos) (fun g => .ct g) := ⟨_, ps_continue, rs_cont⟩
theorem ds_expr {m : Gm → Out OD} (h : DO X W e m) (hs : swapsWith e none pos.line X.env = pure false := by rfl) : DS X W (.Expr e pos) (sDrop m) := let ⟨_, h1, h2⟩ := h; ⟨_, ps_expr h1 hs, rs_drop h2⟩
theorem ds_ret {m : Gm → Out OD} (h : DO X W e m) : DS X W (.Return (some e) pos) (sRet m) := let ⟨_, h1, h2⟩ := h; ⟨_, ps_ret h1, rs_ret h2⟩
theorem ds_retN : DS X W (.Return none pos) sRetN := ⟨_, ps_retN, rs_retN⟩
theorem ds_if {mt : Gm → Out Bool} {ma mb : Gm → SOut} {sa sb : List Stmt} (hc : DT X W c mt) (ha : DSs X W sa ma) (hb : DSs X W sb mb) : DS X W (.If c sa sb pos) (sIf mt ma mb) :=
  let ⟨_, c1, c2⟩ := hc; let ⟨_, a1, a2⟩ := ha; let ⟨_, b1, b2⟩ := hb; ⟨_, ps_if c1 a1 b1, rs_if c2 a2 b2⟩
theorem ds_set {i : Nat} {x : Str} {pos' : Pos} {m : Gm → Out OD} (hN : X.N.Nodup) (h : DO X W e m) (hi : X.N[i]? = some x := by rfl) (hx : Loc X.env.scope x := by first | exact Or.inl rfl | exact Or.inr rfl) (hs : swapsWith e (some (.Name x pos')) pos.line X.env = pure false := by rfl)
    (hf : X.fn x = true ∨ X.env.scope.names.lookup x = some .local := by first | exact .inl rfl | exact .inr rfl) : DS X W (.Assign [.Name x pos'] e pos) (sAsg i m) := let ⟨_, h1, h2⟩ := h; ⟨_, ps_set hN hi hx h1 hs hf, rs_asg h2⟩
def DG (X : Cx) (W : Wz) (ts : List Nat) (e : Expr) (m : Tg) : Prop := ∃ t, PG X e t ∧ RG X.K (cgX X W) ts t m
def DGs (X : Cx) (W : Wz) (ts : List Nat) (es : List Expr) (m : List PyData → Gm → Option Gm) : Prop := ∃ t, PGs X es t ∧ RGs X.K (cgX X W) ts t m
theorem dg_name {x : Str} (i : Nat) (hN : X.N.Nodup) (hi : X.N[i]? = some x := by rfl) (hx : Loc X.env.scope x := by first | exact Or.inl rfl | exact Or.inr rfl) (hf : X.fn x = true ∨ X.env.scope.names.lookup x = some .local := by first | exact .inl rfl | exact .inr rfl) : DG X W [i] (.Name x pos) (gN i) := ⟨_, pg_name hN hi hx hf, rg_n i⟩
theorem dgs_nil : DGs X W [] [] gsNil := ⟨_, pgs_nil, rgs_nil⟩
theorem dgs_cons {ts us : List Nat} {m : Tg} {n : List PyData → Gm → Option Gm} (h : DG X W ts e m) (hr : DGs X W us es n) (hs : (assignEach (e :: es) X.env).map (·.2) = assign e X.env :: (assignEach es X.env).map (·.2) := by rfl) : DGs X W (ts ++ us) (e :: es) (gsCons m n) :=
  let ⟨_, h1, h2⟩ := h; let ⟨_, k1, k2⟩ := hr; ⟨_, pgs_cons h1 k1 hs, rgs_cons h2 k2⟩
theorem dg_tup {ts : List Nat} {m : List PyData → Gm → Option Gm} {k n : Nat} (h : DGs X W ts es m) (hc : X.calm = true := by rfl) (hn : (assignEach es X.env).length = n := by rfl) (hst : (assignEach es X.env).findIdx? (·.1) = none := by rfl) : DG X W ts (.Tuple es k pos) (gT n m) :=
  let ⟨_, h1, h2⟩ := h; ⟨_, pg_tup hc h1 hn hst, rg_t h2⟩
theorem ds_unp {tg : Expr} {ts : List Nat} {n : Tg} {m : Gm → Out PyData} (hg : DG X W ts tg n) (h : DV X W e m) (hs : swapsWithSole [tg] e pos.line X.env = pure false := by rfl) (hw : swappedStores [tg] e X.env = pure none := by rfl) (h1 : (assignEach [tg] X.env).map (·.2) = [assign tg X.env] := by rfl) :
    DS X W (.Assign [tg] e pos) (sUnp n m) := let ⟨_, g1, g2⟩ := hg; let ⟨_, e1, e2⟩ := h; ⟨_, ps_asg e1 g1 hs hw h1, rs_unp e2 g2⟩
theorem ds_setIx {i : Expr} {k : Nat} {x : Str} {p2 p3 : Pos} {mi me : Gm → Out PyData} (he : DV X W e me) (hi : DV X W i mi) (hN : X.N[k]? = some x := by rfl) (hv : Vis X.env.scope x := by first | exact Or.inl rfl | exact Or.inr (Or.inl rfl) | exact Or.inr (Or.inr rfl)) (hd : (x == ("__debug__" : Str)) = false := by decide)
    (hcd : (x == ("__classdict__" : Str)) = false := by decide)
    (ha : ∀ v, assign (.Subscript (.Name x p2) i p3) X.env v = (do
      let ov ← holding [v] (eval (.Name x p2) X.env)
      let iv ← holding [v, ov] (eval i X.env)
      standAt p3
      holding [v, ov, iv] (setItem ov iv v)
      release [v, ov, iv] []) := by intro _; rfl)
    (hs : swapsWithSole [.Subscript (.Name x p2) i p3] e pos.line X.env = pure false := by rfl) (hw : swappedStores [.Subscript (.Name x p2) i p3] e X.env = pure none := by rfl) (h1 : (assignEach [.Subscript (.Name x p2) i p3] X.env).map (·.2) = [assign (.Subscript (.Name x p2) i p3) X.env] := by rfl) :
    DS X W (.Assign [.Subscript (.Name x p2) i p3] e pos) (sSet k mi me) :=
  let ⟨_, e1, e2⟩ := he; let ⟨_, i1, i2⟩ := hi; ⟨_, ps_asg e1 (pg_sub (pv k hN hv hd hcd) i1 set_list ha) hs hw h1, rs_set e2 i2⟩
theorem ds_aug {i : Nat} {x : Str} {pos' : Pos} {m : Gm → Out PyData} {op : Operator} {f : Int → Int → Int} (hN : X.N.Nodup) (hp : PIp X op (ipI f)) (h : DV X W e m) (hi : X.N[i]? = some x := by rfl) (hx : Loc X.env.scope x := by first | exact Or.inl rfl | exact Or.inr rfl)
    (hd : (x == ("__debug__" : Str)) = false := by decide) (hcd : (x == ("__classdict__" : Str)) = false := by decide)
    (hf : X.fn x = true ∨ X.env.scope.names.lookup x = some .local := by first | exact .inl rfl | exact .inr rfl) : DS X W (.AugAssign (.Name x pos') op e pos) (sAug i f m) := by
  obtain ⟨_, h1, h2⟩ := h
  exact ⟨_, ps_aug hN hi hx h1 hp, rs_aug h2⟩
theorem ds_while {mt : Gm → Out Bool} {mb : Gm → SOut} {body : List Stmt} (is : List Nat) (fuel : Gm → Nat) (hp : PassesOwn (model X.prog X.w) X.A X.env X.xe) (hc : DT X W c mt) (hb : DSs X W body mb) : DS X W (.While c body [] pos) (sWhl is fuel mt mb) :=
  let ⟨_, c1, c2⟩ := hc; let ⟨_, b1, b2⟩ := hb; ⟨_, ps_while hp c1 b1, rs_while c2 b2⟩
theorem ds_forL {tg iter : Expr} {ts : List Nat} {n : Tg} {ms : Gm → Out PyData} {mb : Gm → SOut} {body : List Stmt} (is : List Nat) (hp : PassesOwn (model X.prog X.w) X.A X.env X.xe) (hi : DV X W iter ms) (hg : DG X W ts tg n) (hb : DSs X W body mb) (hc : X.calm = true := by rfl) (hs : ∀ x, foldedSetIterable iter X.env x = pure x := by intro _; rfl) :
    DS X W (.For tg iter body [] pos) (sFor lof is n ms mb) := let ⟨_, i1, i2⟩ := hi; let ⟨_, g1, g2⟩ := hg; let ⟨_, b1, b2⟩ := hb; ⟨_, ps_for hp hc (pi_list i1) g1 b1 hs, rs_forL i2 g2 b2⟩
theorem ds_forT {tg iter : Expr} {ts : List Nat} {n : Tg} {ms : Gm → Out PyData} {mb : Gm → SOut} {body : List Stmt} (is : List Nat) (hp : PassesOwn (model X.prog X.w) X.A X.env X.xe) (hi : DV X W iter ms) (hg : DG X W ts tg n) (hb : DSs X W body mb) (hc : X.calm = true := by rfl) (hs : ∀ x, foldedSetIterable iter X.env x = pure x := by intro _; rfl) :
    DS X W (.For tg iter body [] pos) (sFor tof is n ms mb) := let ⟨_, i1, i2⟩ := hi; let ⟨_, g1, g2⟩ := hg; let ⟨_, b1, b2⟩ := hb; ⟨_, ps_for hp hc (pi_tup i1) g1 b1 hs, rs_forT i2 g2 b2⟩
theorem ds_forR1 {tg : Expr} {p p2 : Pos} {ts : List Nat} {n : Tg} {ma : Gm → Out PyData} {mb : Gm → SOut} {body : List Stmt} (is : List Nat) (hp : PassesOwn (model X.prog X.w) X.A X.env X.xe) (hm : X.mg "range" = none) (ha : DV X W a ma) (hg : DG X W ts tg n) (hb : DSs X W body mb) (hc : X.calm = true := by rfl) (hgl : Gl X "range" := by rfl)
    (hsa : starEach [a] X.env = [(false, eval a X.env)] := by rfl) (hs : ∀ x, foldedSetIterable (.Call (.Name "range" p) [a] [] p2) X.env x = pure x := by intro _; rfl) :
    DS X W (.For tg (.Call (.Name "range" p) [a] [] p2) body [] pos) (sForR is n (aCons ma aNil) mb) := let ⟨_, i1, i2⟩ := ha; let ⟨_, g1, g2⟩ := hg; let ⟨_, b1, b2⟩ := hb; ⟨_, ps_for hp hc (pi_range1 hgl hm (pa_cons i1 pa_nil hsa) hsa) g1 b1 hs, rs_forR1 (ra_cons i2 ra_nil) g2 b2 (aCons_len aNil_len)⟩
theorem ds_forR2 {tg : Expr} {p p2 : Pos} {ts : List Nat} {n : Tg} {ma mc : Gm → Out PyData} {mb : Gm → SOut} {body : List Stmt} (is : List Nat) (hp : PassesOwn (model X.prog X.w) X.A X.env X.xe) (hm : X.mg "range" = none) (ha : DV X W a ma) (hc' : DV X W c mc) (hg : DG X W ts tg n) (hb : DSs X W body mb) (hc : X.calm = true := by rfl) (hgl : Gl X "range" := by rfl)
    (hsa : starEach [a, c] X.env = [(false, eval a X.env), (false, eval c X.env)] := by rfl) (hsc : starEach [c] X.env = [(false, eval c X.env)] := by rfl) (hs : ∀ x, foldedSetIterable (.Call (.Name "range" p) [a, c] [] p2) X.env x = pure x := by intro _; rfl) :
    DS X W (.For tg (.Call (.Name "range" p) [a, c] [] p2) body [] pos) (sForR is n (aCons ma (aCons mc aNil)) mb) := let ⟨_, i1, i2⟩ := ha; let ⟨_, j1, j2⟩ := hc'; let ⟨_, g1, g2⟩ := hg; let ⟨_, b1, b2⟩ := hb; ⟨_, ps_for hp hc (pi_range2 hgl hm (pa_cons i1 (pa_cons j1 pa_nil hsc) (by rw [hsa, hsc])) hsa hsc) g1 b1 hs, rs_forR2 (ra_cons i2 (ra_cons j2 ra_nil)) g2 b2 (aCons_len (aCons_len aNil_len))⟩
theorem ds_par {i j : Nat} {x y : Str} {px py pt : Pos} {kt k2 : Nat} {pt2 : Pos} {ma mb : Gm → Out PyData} (hN : X.N.Nodup) (ha : DV X W a ma) (hb : DV X W b mb) (hi : X.N[i]? = some x := by rfl) (hj : X.N[j]? = some y := by rfl) (hij : i ≠ j := by decide) (hx : X.env.scope.names.lookup x = some .local := by rfl) (hy : X.env.scope.names.lookup y = some .local := by rfl)
    (hc : X.calm = true := by rfl) (hsa : starEach [a, b] X.env = (false, eval a X.env) :: starEach [b] X.env := by rfl) (hsb : starEach [b] X.env = (false, eval b X.env) :: starEach [] X.env := by rfl)
    (hp : ∀ ta, PA X [a, b] ta → PS X (.Assign [.Tuple [.Name x px, .Name y py] kt pt] (.Tuple [a, b] k2 pt2) pos) (tPar i j ta)) : DS X W (.Assign [.Tuple [.Name x px, .Name y py] kt pt] (.Tuple [a, b] k2 pt2) pos) (sPar i j (aCons ma (aCons mb aNil))) :=
  let ⟨_, a1, a2⟩ := ha; let ⟨_, b1, b2⟩ := hb; ⟨_, hp _ (pa_cons a1 (pa_cons b1 pa_nil hsb) hsa), rs_par (ra_cons a2 (ra_cons b2 ra_nil))⟩
/-! ### a list's methods -/
variable {name : Str} {apos cpos p2 : Pos} {id : String} {r : V → List V → Hp → VK → Prop} {x : Str}
theorem dv_mut {k : Nat} {m : Gm → Out (List PyData)} {f : List PyData → List PyData → Option (PyData × List PyData)} (slot : Slot "list" name id) (hty : typeOf (.builtin id) = pure (.type "method_descriptor")) (hm : MtR X id r) (hf : MuG X.K r f) (ha : DA X W (e :: es) m)
    (hN : X.N[k]? = some x := by rfl) (hv : Vis X.env.scope x := by first | exact Or.inl rfl | exact Or.inr (Or.inl rfl) | exact Or.inr (Or.inr rfl)) (hd : (x == ("__debug__" : Str)) = false := by decide) (hcd : (x == ("__classdict__" : Str)) = false := by decide)
    (hbase : attributeBase (.Name x p2) name X.env (eval (.Name x p2) X.env) = eval (.Name x p2) X.env := by rfl)
    (hfew : ((backTo cpos (starEach (e :: es) X.env)).all (fun x => !x.1) && (backToKw cpos (keywordEach [] X.env)).all (fun x => x.1.isSome)
      && decide ((e :: es).length + ([] : List Keyword).length + (if ([] : List Keyword).isEmpty then 0 else 1) < 30)) = true := by rfl)
    (hline : (apos.endLine == cpos.line) = true := by rfl) (hs : starEach (e :: es) X.env = (false, eval e X.env) :: starEach es X.env := by rfl) (hplain : (backTo cpos (starEach es X.env)).any (·.1) = false := by rfl) :
    DV X W (.Call (.Attribute (.Name x p2) name apos) (e :: es) [] cpos) (vMut k f m) :=
  let ⟨_, h1, h2⟩ := ha; ⟨_, pe_bm PySem.F.plainAttrs_list slot hty hm (pv k hN hv hd hcd) h1 hbase hfew hline hs hplain, rv_mut hf h2⟩
/-! ### comprehensions of the text -/
theorem do_comp {elt tg iter : Expr} {ifs : List Expr} {scope : Scope} (own : List (Str × Nat)) {wi : TI} {g : TG} {tt : TT} {te : TE} {n : Tg} {mt : Gm → Out Bool} {me : Gm → Out PyData} {M : Gm → Out OD} (hN : X.N.Nodup) (hi : PI X tg iter wi) (ok : BlkOk X.N X.env.scope scope own)
    (hg : ∀ (s : Shared) (H : Hp) (C : Addr) (cl : List (Str × Addr)) (fp : List Addr), PG (X.blk s H scope (compEnvC scope cl C X.env) fp) tg g) (ht : ∀ (s : Shared) (H : Hp) (C : Addr) (cl : List (Str × Addr)) (fp : List Addr), PTs (X.blk s H scope (compEnvC scope cl C X.env) fp) ifs tt)
    (he : ∀ (s : Shared) (H : Hp) (C : Addr) (cl : List (Str × Addr)) (fp : List Addr), PE (X.blk s H scope (compEnvC scope cl C X.env) fp) elt te) (hM : RO X.K (cgX X W) W.x (tLc wi g tt te (own.map (·.2))) M) (hc : X.calm = true := by rfl) (hs : ∀ x, foldedSetIterable iter X.env x = pure x := by intro _; rfl) :
    DO X W (.ListComp elt [⟨tg, iter, ifs, 0⟩] scope pos) M := ⟨_, pe_lc hc hN hi ok hg ht he hs, hM⟩
end
end VL
/-! The value layer, part 7: calls, defs, comprehensions and try in the text. -/
namespace VL
open PySem L2
/-! ### the mirror's own reading -/
section
variable (K : PySem.W.Frag) (cg : Cg) (W : WX)
def cV (m : Gm → Out PyData) : TE := fun σ H Q => ∃ pvs g S F, Rel K cg pvs g σ S F H ∧ PoV K cg W pvs σ S F H Q (m g)
def cT (m : Gm → Out Bool) : TT := fun σ H Q => ∃ pvs g S F, Rel K cg pvs g σ S F H ∧ PoT K cg W pvs σ S F H Q (m g)
def cS (m : Gm → SOut) : TS := fun D σ H => ∃ pvs g S F, Rel K cg pvs g σ S F H ∧ PoS K cg W pvs S F H D (m g)
def cG (ts : List Nat) (m : Tg) : TG := fun v σ H Q => ∃ pvs g g' S F d, Rel K cg pvs g σ S F H ∧ Dq K F v d ∧ m d g = some g' ∧ ∀ σ' S', Rel K cg pvs g' σ' S' F H → (∀ q, S' q → S q) → Turns ts σ σ' → Q σ' H
end
section
variable {K : PySem.W.Frag} {cg : Cg} {W : WX}
theorem rv_c {m : Gm → Out PyData} : RV K cg W (cV K cg W m) m := fun pvs g σ S F H Q r q => ⟨pvs, g, S, F, r, q⟩
theorem rt_c {m : Gm → Out Bool} : RT K cg W (cT K cg W m) m := fun pvs g σ S F H Q r q => ⟨pvs, g, S, F, r, q⟩
theorem rs_c {m : Gm → SOut} : RS K cg W (cS K cg W m) m := fun pvs g σ S F H D r q => ⟨pvs, g, S, F, r, q⟩
theorem rg_c {ts : List Nat} {m : Tg} : RG K cg ts (cG K cg ts m) m := fun pvs g g' σ S F H v d Q r hd e q => ⟨pvs, g, g', S, F, d, r, hd, e, q⟩
end
section
variable {W : Wz} {X : Cx} {e : Expr}
theorem DV.pe {m : Gm → Out PyData} (h : DV X W e m) : PE X e (cV X.K (cgX X W) W.x m) := by
  obtain ⟨t, h1, h2⟩ := h
  exact ⟨fun pins s σ H Q I ⟨pvs, g, S, F, r, q⟩ => h1.run pins s σ H Q I (h2 pvs g σ S F H Q r q)⟩
theorem DT.pt {m : Gm → Out Bool} (h : DT X W e m) : PT X e (cT X.K (cgX X W) W.x m) := by
  obtain ⟨t, h1, h2⟩ := h
  exact ⟨fun pins s σ H Q I ⟨pvs, g, S, F, r, q⟩ => h1.run pins s σ H Q I (h2 pvs g σ S F H Q r q)⟩
theorem DSs.pss {l : List Stmt} {m : Gm → SOut} (h : DSs X W l m) : PSs X l (cS X.K (cgX X W) W.x m) := by
  obtain ⟨t, h1, h2⟩ := h
  exact ⟨fun pins s σ H D I ⟨pvs, g, S, F, r, q⟩ => h1.run pins s σ H D I (h2 pvs g σ S F H D r q)⟩
theorem DG.pg {ts : List Nat} {m : Tg} (h : DG X W ts e m) : PG X e (cG X.K (cgX X W) ts m) := by
  obtain ⟨t, h1, h2⟩ := h
  exact ⟨fun pins s σ H v u Q I rv ⟨pvs, g, g', S, F, d, r, hd, em, q⟩ => h1.run pins s σ H v u Q I rv (h2 pvs g g' σ S F H v d Q r hd em q)⟩
/-! ### comprehensions -/
/-- the tests of a comprehension -/
def DTs (X : Cx) (W : Wz) (es : List Expr) (m : Gm → Out Bool) : Prop := PTs X es (cT X.K (cgX X W) W.x m)
theorem dts_nil : DTs X W [] tYesM := ⟨fun pins s σ H Q I ⟨pvs, g, S, F, r, q⟩ => pts_nil.run pins s σ H Q I (q S F H (.refl r.fh) r)⟩
theorem dts_one {m : Gm → Out Bool} (h : DT X W e m) : DTs X W [e] m := pts_one h.pt
variable {elt tg iter a c : Expr} {ifs : List Expr} {scope : Scope} {pos p p2 : Pos} {n : Tg} {ts : List Nat} {mt : Gm → Out Bool} {me ms ma mc : Gm → Out PyData}
/-- within a comprehension nothing is raised -/
abbrev w0 (W : Wz) : Wz := ⟨W0, W.Z⟩
abbrev Blk (X : Cx) (scope : Scope) (P : Cx → Prop) : Prop := ∀ (s : Shared) (H : Hp) (C : Addr) (cl : List (Str × Addr)) (fp : List Addr), P (X.blk s H scope (compEnvC scope cl C X.env) fp)
/-- a comprehension: as a value, or handed to a name at once -/
def DC (X : Cx) (W : Wz) (e : Expr) (m : Gm → Out OD) : Prop := ∃ t, PE X e t ∧ (∀ (i : Nat) (y : Str) (py spos : Pos), X.N[i]? = some y → X.env.scope.names.lookup y = some .local → swapsWith e (some (.Name y py)) spos.line X.env = pure true → PS X (.Assign [.Name y py] e spos) (tAsg t (gName i))) ∧ RO X.K (cgX X W) W.x t m
theorem DC.o {m : Gm → Out OD} (h : DC X W e m) : DO X W e m := let ⟨t, a, _, c⟩ := h; ⟨t, a, c⟩
theorem DC.f {m : Gm → Out OD} (h : DC X W e m) : DC X W e (oV (vO m)) := let ⟨t, a, b, c⟩ := h; ⟨t, a, b, c.v.o⟩
theorem dc_mk {own : List (Str × Nat)} {wi : TI} {g : TG} {tt : TT} {te : TE} {M : Gm → Out OD} (hc : X.calm = true) (hN : X.N.Nodup) (hi : PI X tg iter wi) (ok : BlkOk X.N X.env.scope scope own)
    (hg : Blk X scope fun X' => PG X' tg g) (ht : Blk X scope fun X' => PTs X' ifs tt) (he : Blk X scope fun X' => PE X' elt te) (hs : ∀ x, foldedSetIterable iter X.env x = pure x) (hM : RO X.K (cgX X W) W.x (tLc wi g tt te (own.map (·.2))) M) :
    DC X W (.ListComp elt [⟨tg, iter, ifs, 0⟩] scope pos) M := ⟨_, pe_lc hc hN hi ok hg ht he hs, fun i y py spos h1 h2 h3 => ps_setLc hc hN h1 h2 h3 hi ok hg ht he hs, hM⟩
theorem ds_setC {elt tg iter : Expr} {ifs : List Expr} {scope : Scope} {i : Nat} {x : Str} {pos' spos : Pos} {m : Gm → Out OD} (h : DC X W (.ListComp elt [⟨tg, iter, ifs, 0⟩] scope pos) m) (hi : X.N[i]? = some x := by rfl) (hx : X.env.scope.names.lookup x = some .local := by rfl) (hk : X.env.scope.kind = .function := by rfl) (hl : (pos'.line == pos.line) = true := by rfl)
    (ha : (scope.names.any fun (n, k) => n == x && (k == .local || k == .cell)) = false := by decide +kernel) : DS X W (.Assign [.Name x pos'] (.ListComp elt [⟨tg, iter, ifs, 0⟩] scope pos) spos) (sAsg i m) :=
  let ⟨_, _, b, c⟩ := h; ⟨_, b i x pos' spos hi hx (sw_true hk hx hl ha), rs_asg c⟩
theorem dc_compL (own : List (Str × Nat)) (hN : X.N.Nodup) (hi : DV X W iter ms) (ok : BlkOk X.N X.env.scope scope own) (hg : Blk X scope fun X' => DG X' (w0 W) ts tg n) (ht : Blk X scope fun X' => DTs X' (w0 W) ifs mt) (he : Blk X scope fun X' => DV X' (w0 W) elt me)
    (hts : ∀ j ∈ ts, j ∈ own.map (·.2) := by decide) (hnd : (own.map (·.2)).Nodup := by decide) (hc : X.calm = true := by rfl) (hs : ∀ x, foldedSetIterable iter X.env x = pure x := by intro _; rfl) :
    DC X W (.ListComp elt [⟨tg, iter, ifs, 0⟩] scope pos) (oComp lof (own.map (·.2)) n mt me ms) := by
  obtain ⟨t, i1, i2⟩ := hi
  exact dc_mk hc hN (pi_list i1) ok (fun s H C cl fp => (hg s H C cl fp).pg) (fun s H C cl fp => show PTs _ _ (cT X.K (cgX X W) W0 mt) from ht s H C cl fp) (fun s H C cl fp => (he s H C cl fp).pe) hs (ro_compL i2 rg_c rt_c rv_c hts hnd)
theorem dc_compT (own : List (Str × Nat)) (hN : X.N.Nodup) (hi : DV X W iter ms) (ok : BlkOk X.N X.env.scope scope own) (hg : Blk X scope fun X' => DG X' (w0 W) ts tg n) (ht : Blk X scope fun X' => DTs X' (w0 W) ifs mt) (he : Blk X scope fun X' => DV X' (w0 W) elt me)
    (hts : ∀ j ∈ ts, j ∈ own.map (·.2) := by decide) (hnd : (own.map (·.2)).Nodup := by decide) (hc : X.calm = true := by rfl) (hs : ∀ x, foldedSetIterable iter X.env x = pure x := by intro _; rfl) :
    DC X W (.ListComp elt [⟨tg, iter, ifs, 0⟩] scope pos) (oComp tof (own.map (·.2)) n mt me ms) := by
  obtain ⟨t, i1, i2⟩ := hi
  exact dc_mk hc hN (pi_tup i1) ok (fun s H C cl fp => (hg s H C cl fp).pg) (fun s H C cl fp => show PTs _ _ (cT X.K (cgX X W) W0 mt) from ht s H C cl fp) (fun s H C cl fp => (he s H C cl fp).pe) hs (ro_compT i2 rg_c rt_c rv_c hts hnd)
theorem dc_compR1 (own : List (Str × Nat)) (hN : X.N.Nodup) (hm : X.mg "range" = none) (ha : DV X W a ma) (ok : BlkOk X.N X.env.scope scope own) (hg : Blk X scope fun X' => DG X' (w0 W) ts tg n) (ht : Blk X scope fun X' => DTs X' (w0 W) ifs mt) (he : Blk X scope fun X' => DV X' (w0 W) elt me)
    (hts : ∀ j ∈ ts, j ∈ own.map (·.2) := by decide) (hnd : (own.map (·.2)).Nodup := by decide) (hc : X.calm = true := by rfl) (hgl : Gl X "range" := by rfl) (hsa : starEach [a] X.env = [(false, eval a X.env)] := by rfl) (hs : ∀ x, foldedSetIterable (.Call (.Name "range" p) [a] [] p2) X.env x = pure x := by intro _; rfl) :
    DC X W (.ListComp elt [⟨tg, .Call (.Name "range" p) [a] [] p2, ifs, 0⟩] scope pos) (oCompR (own.map (·.2)) n mt me (aCons ma aNil)) := by
  obtain ⟨t, i1, i2⟩ := ha
  exact dc_mk hc hN (pi_range1 hgl hm (pa_cons i1 pa_nil hsa) hsa) ok (fun s H C cl fp => (hg s H C cl fp).pg) (fun s H C cl fp => show PTs _ _ (cT X.K (cgX X W) W0 mt) from ht s H C cl fp) (fun s H C cl fp => (he s H C cl fp).pe) hs (ro_compR1 (ra_cons i2 ra_nil) rg_c rt_c rv_c hts hnd (aCons_len aNil_len))
theorem dc_compR2 (own : List (Str × Nat)) (hN : X.N.Nodup) (hm : X.mg "range" = none) (ha : DV X W a ma) (hb : DV X W c mc) (ok : BlkOk X.N X.env.scope scope own) (hg : Blk X scope fun X' => DG X' (w0 W) ts tg n) (ht : Blk X scope fun X' => DTs X' (w0 W) ifs mt) (he : Blk X scope fun X' => DV X' (w0 W) elt me)
    (hts : ∀ j ∈ ts, j ∈ own.map (·.2) := by decide) (hnd : (own.map (·.2)).Nodup := by decide) (hc : X.calm = true := by rfl) (hgl : Gl X "range" := by rfl) (hsa : starEach [a, c] X.env = [(false, eval a X.env), (false, eval c X.env)] := by rfl) (hsc : starEach [c] X.env = [(false, eval c X.env)] := by rfl)
    (hs : ∀ x, foldedSetIterable (.Call (.Name "range" p) [a, c] [] p2) X.env x = pure x := by intro _; rfl) :
    DC X W (.ListComp elt [⟨tg, .Call (.Name "range" p) [a, c] [] p2, ifs, 0⟩] scope pos) (oCompR (own.map (·.2)) n mt me (aCons ma (aCons mc aNil))) := by
  obtain ⟨t, i1, i2⟩ := ha
  obtain ⟨u, j1, j2⟩ := hb
  exact dc_mk hc hN (pi_range2 hgl hm (pa_cons i1 (pa_cons j1 pa_nil hsc) (by rw [hsa, hsc])) hsa hsc) ok (fun s H C cl fp => (hg s H C cl fp).pg) (fun s H C cl fp => show PTs _ _ (cT X.K (cgX X W) W0 mt) from ht s H C cl fp) (fun s H C cl fp => (he s H C cl fp).pe) hs (ro_compR2 (ra_cons i2 (ra_cons j2 ra_nil)) rg_c rt_c rv_c hts hnd (aCons_len (aCons_len aNil_len)))
end
/-! ### arguments with what is lent -/
inductive Ar where
  | d (x : PyData) | l (i : Nat)
inductive ArOk (K : PySem.W.Frag) (F : Hp) (σ : L2.St) : List V → List Ar → Prop
  | nil : ArOk K F σ [] []
  | d {v : V} {x : PyData} {vs : List V} {as : List Ar} : Dq K F v x → ArOk K F σ vs as → ArOk K F σ (v :: vs) (.d x :: as)
  | l {v : V} {i : Nat} {vs : List V} {as : List Ar} : σ[i]? = some (some v) → ArOk K F σ vs as → ArOk K F σ (v :: vs) (.l i :: as)
section
variable (K : PySem.W.Frag) (cg : Cg) (W : WX)
def PoL (pvs : Pv) (σ : L2.St) (S : Addr → Prop) (F H : Hp) (Q : List V → Hp → Prop) : Out (List Ar) → Prop
  | .ok as g => ∀ vs S' F' H', Stp S F H S' F' H' → Rel K cg pvs g σ S' F' H' → ArOk K F' σ vs as → Q vs H'
  | .err e g => ErrP K cg W pvs σ S F H e g
  | .stk => False
def RL (t : TA) (m : Gm → Out (List Ar)) : Prop := ∀ pvs g σ S F H Q, Rel K cg pvs g σ S F H → PoL K cg W pvs σ S F H Q (m g) → t σ H Q
end
def DL (X : Cx) (W : Wz) (es : List Expr) (m : Gm → Out (List Ar)) : Prop := ∃ t, PA X es t ∧ RL X.K (cgX X W) W.x t m
section
variable {K : PySem.W.Frag} {cg : Cg} {W : WX} {pvs : Pv} {g : Gm} {σ : L2.St} {S S1 S' A : Addr → Prop} {F F1 F' H H1 H' : Hp}
theorem PoL.st {Q : List V → Hp → Prop} {x : Out (List Ar)} (h : PoL K cg W pvs σ S F H Q x) (a : Stp S F H S1 F1 H1) : PoL K cg W pvs σ S1 F1 H1 Q x := by
  cases x with
  | ok d g => exact fun v S' F' H' b r c => h v S' F' H' (a.trans b) r c
  | err e g => exact ErrP.st h a
  | stk => exact h
def lNil (g : Gm) : Out (List Ar) := .ok [] g
def lD (m : Gm → Out PyData) (r : Gm → Out (List Ar)) (g : Gm) : Out (List Ar) := (m g).bind fun x g1 => (r g1).bind fun as g2 => .ok (.d x :: as) g2
def lL (i : Nat) (r : Gm → Out (List Ar)) (g : Gm) : Out (List Ar) :=
  match (gt g i).od with
  | some _ => (r g).bind fun as g1 => .ok (.l i :: as) g1
  | none => .stk
theorem ArOk.mo : ∀ {vs : List V} {as : List Ar}, ArOk K F σ vs as → Same F F' → ArOk K F' σ vs as
  | _, _, .nil, _ => .nil
  | _, _, .d h t, e => .d (dp_mo h e) (ArOk.mo t e)
  | _, _, .l h t, e => .l h (ArOk.mo t e)
theorem rl_nil : RL K cg W tNil lNil := fun pvs g σ S F H Q r q => q [] S F H (.refl r.fh) r .nil
theorem rl_d {ta : TE} {tr : TA} {m : Gm → Out PyData} {mr : Gm → Out (List Ar)} (ha : RV K cg W ta m) (hr : RL K cg W tr mr) : RL K cg W (tCons ta tr) (lD m mr) := fun pvs g σ S F H Q rl q => by
  refine ha pvs g σ S F H _ rl ?_
  unfold lD at q
  cases e : m g with
  | ok a g1 =>
    rw [e] at q
    intro v S1 F1 H1 s1 r1 d1
    refine hr pvs g1 σ S1 F1 H1 _ r1 ?_
    simp only [Out.bind] at q
    have q := PoL.st q s1
    cases e2 : mr g1 with
    | ok as g2 =>
      rw [e2] at q
      exact fun vs S2 F2 H2 s2 r2 d2 => q (v :: vs) S2 F2 H2 s2 r2 (.d (dp_mo d1 s2.fr) d2)
    | err e' g2 =>
      rw [e2] at q
      exact q
    | stk =>
      rw [e2] at q
      exact q.elim
  | err e' g1 =>
    rw [e] at q
    exact q
  | stk =>
    rw [e] at q
    exact q.elim
theorem rl_l {tr : TA} {mr : Gm → Out (List Ar)} {i : Nat} (hr : RL K cg W tr mr) : RL K cg W (tCons (tVar i) tr) (lL i mr) := fun pvs g σ S F H Q rl q => by
  unfold lL at q
  cases e0 : (gt g i).od with
  | none =>
    simp only [e0] at q
    exact q.elim
  | some o =>
    simp only [e0] at q
    obtain ⟨v, ev⟩ := rl.slot e0
    refine ⟨v, ev, hr pvs g σ S F H _ rl ?_⟩
    cases e2 : mr g with
    | ok as g2 =>
      rw [e2] at q
      exact fun vs S2 F2 H2 s2 r2 d2 => q (v :: vs) S2 F2 H2 s2 r2 (.l ev d2)
    | err e' g2 =>
      rw [e2] at q
      exact q
    | stk =>
      rw [e2] at q
      exact q.elim
def lends : List Ar → List Nat
  | [] => []
  | .d _ :: as => lends as
  | .l i :: as => i :: lends as
def osOf (g : Gm) : List Ar → Option (List OD)
  | [] => some []
  | .d x :: as => match osOf g as with
    | some os => some (.dat x :: os)
    | none => none
  | .l i :: as => match (gt g i).od, osOf g as with
    | some o, some os => some (o :: os)
    | _, _ => none
def putA : Gm → List Ar → List OD → Gm
  | g, .d _ :: as, _ :: os => putA g as os
  | g, .l i :: as, o :: os => putA (st g i ((gt g i).with o)) as os
  | g, _, _ => g
/-- things owned side by side -/
def OwA (K : PySem.W.Frag) (cg : Str → Option Value) (F H : Hp) (vs : List V) (os : List OD) (A : Addr → Prop) : Prop :=
  vs.length = os.length ∧ ∃ L : Nat → Addr → Prop, (∀ (i : Nat) (v : V) (o : OD), vs[i]? = some v → os[i]? = some o → Ow K cg F H v o (L i)) ∧ (∀ i j q, i ≠ j → L i q → L j q → False) ∧ (∀ i q, os.length ≤ i → ¬ L i q) ∧ ∀ q, A q ↔ ∃ i, L i q
theorem putA_len : ∀ (as : List Ar) (os : List OD) (g : Gm), (putA g as os).length = g.length
  | [], _, _ => by unfold putA; rfl
  | .d _ :: as, [], _ => by unfold putA; rfl
  | .d _ :: as, _ :: os, g => by
    unfold putA
    exact putA_len as os g
  | .l i :: as, [], _ => by unfold putA; rfl
  | .l i :: as, o :: os, g => by
    unfold putA
    exact (putA_len as os _).trans (st_len _ _ _)
theorem putA_out : ∀ (as : List Ar) (os : List OD) (g : Gm) (j : Nat), j ∉ lends as → gt (putA g as os) j = gt g j
  | [], _, _, _, _ => by unfold putA; rfl
  | .d _ :: as, [], _, _, _ => by unfold putA; rfl
  | .d _ :: as, _ :: os, g, j, h => by
    unfold putA
    exact putA_out as os g j h
  | .l i :: as, [], _, _, _ => by unfold putA; rfl
  | .l i :: as, o :: os, g, j, h => by
    unfold putA
    have h1 : j ≠ i := fun z => h (by rw [z]; exact List.mem_cons_self)
    rw [putA_out as os _ j fun z => h (List.mem_cons_of_mem _ z), gt_st_ne h1]
theorem lends_mem : ∀ {as : List Ar} {i : Nat}, i ∈ lends as ↔ ∃ k : Nat, as[k]? = some (.l i)
  | [], i => by simp [lends]
  | .d x :: as, i => by
    unfold lends
    rw [lends_mem (as := as)]
    constructor
    · rintro ⟨k, h⟩
      exact ⟨k + 1, by simpa using h⟩
    · rintro ⟨k, h⟩
      cases k with
      | zero => simp at h
      | succ k => exact ⟨k, by simpa using h⟩
  | .l j :: as, i => by
    unfold lends
    rw [List.mem_cons, lends_mem (as := as)]
    constructor
    · rintro (h | ⟨k, h⟩)
      · exact ⟨0, by simp [h]⟩
      · exact ⟨k + 1, by simpa using h⟩
    · rintro ⟨k, h⟩
      cases k with
      | zero =>
        simp at h
        exact .inl h.symm
      | succ k => exact .inr ⟨k, by simpa using h⟩
theorem lends_inj : ∀ {as : List Ar} {i k k' : Nat}, (lends as).Nodup → as[k]? = some (.l i) → as[k']? = some (.l i) → k = k'
  | [], _, _, _, _, h, _ => by simp at h
  | .d x :: as, i, k, k', nd, h, h' => by
    cases k with
    | zero => simp at h
    | succ k =>
      cases k' with
      | zero => simp at h'
      | succ k' => exact congrArg Nat.succ (lends_inj (as := as) nd (by simpa using h) (by simpa using h'))
  | .l j :: as, i, k, k', nd, h, h' => by
    obtain ⟨n1, n2⟩ := List.nodup_cons.mp nd
    cases k with
    | zero =>
      simp at h
      cases k' with
      | zero => rfl
      | succ k' => exact absurd (lends_mem.mpr ⟨k', by rw [← h] at h'; simpa using h'⟩) n1
    | succ k =>
      cases k' with
      | zero =>
        simp at h'
        exact absurd (lends_mem.mpr ⟨k, by rw [← h'] at h; simpa using h⟩) n1
      | succ k' => exact congrArg Nat.succ (lends_inj (as := as) n2 (by simpa using h) (by simpa using h'))
theorem with_od {s : Sl} {o o1 : OD} (h : s.od = some o1) : (s.with o).od = some o := by
  cases s with
  | no => cases h
  | v _ => rfl
  | pin _ => rfl
  | al _ _ => cases h
  | xc => cases h
theorem putA_in : ∀ (as : List Ar) (os : List OD) (g : Gm) (j k : Nat) (o o1 : OD), (lends as).Nodup → as[k]? = some (.l j) → os[k]? = some o → as.length = os.length → (gt g j).od = some o1 → gt (putA g as os) j = (gt g j).with o
  | [], _, _, _, _, _, _, _, h, _, _, _ => by simp at h
  | a :: as, [], _, _, _, _, _, _, _, _, h, _ => by simp at h
  | .d x :: as, o' :: os, g, j, k, o, o1, nd, h, ho, hl, he => by
    unfold putA
    cases k with
    | zero => simp at h
    | succ k => exact putA_in as os g j k o o1 nd (by simpa using h) (by simpa using ho) (by simpa using hl) he
  | .l i :: as, o' :: os, g, j, k, o, o1, nd, h, ho, hl, he => by
    unfold putA
    obtain ⟨n1, n2⟩ := List.nodup_cons.mp nd
    cases k with
    | zero =>
      simp at h ho
      subst h
      subst ho
      rw [putA_out as os _ i n1, gt_st (gt_lt fun z => by rw [z] at he; cases he)]
    | succ k =>
      have hj : j ≠ i := fun z => n1 (lends_mem.mpr ⟨k, by rw [← z]; simpa using h⟩)
      have e2 : gt (st g i ((gt g i).with o')) j = gt g j := gt_st_ne hj
      rw [putA_in as os _ j k o o1 n2 (by simpa using h) (by simpa using ho) (by simpa using hl) (by rw [e2]; exact he), e2]
theorem osOf_get : ∀ {as : List Ar} {os : List OD}, osOf g as = some os → os.length = as.length ∧ ∀ (k : Nat) (a : Ar), as[k]? = some a → (match a with | .d x => os[k]? = some (.dat x) | .l i => ∃ o, (gt g i).od = some o ∧ os[k]? = some o)
  | [], os, h => by
    cases h
    exact ⟨rfl, fun k a e => by simp at e⟩
  | .d x :: as, os, h => by
    unfold osOf at h
    cases e : osOf g as with
    | none =>
      rw [e] at h
      cases h
    | some os' =>
      rw [e] at h
      cases h
      obtain ⟨h1, h2⟩ := osOf_get e
      refine ⟨by simp [h1], fun k a ea => ?_⟩
      cases k with
      | zero =>
        simp at ea
        subst ea
        rfl
      | succ k => exact h2 k a (by simpa using ea)
  | .l i :: as, os, h => by
    unfold osOf at h
    cases e0 : (gt g i).od with
    | none =>
      rw [e0] at h
      cases h
    | some o =>
      cases e : osOf g as with
      | none =>
        rw [e0, e] at h
        cases h
      | some os' =>
        rw [e0, e] at h
        cases h
        obtain ⟨h1, h2⟩ := osOf_get e
        refine ⟨by simp [h1], fun k a ea => ?_⟩
        cases k with
        | zero =>
          simp at ea
          subst ea
          exact ⟨o, e0, rfl⟩
        | succ k => exact h2 k a (by simpa using ea)
theorem ArOk.get : ∀ {vs : List V} {as : List Ar}, ArOk K F σ vs as → vs.length = as.length ∧ ∀ (k : Nat) (a : Ar) (v : V), as[k]? = some a → vs[k]? = some v → (match a with | .d x => Dq K F v x | .l i => σ[i]? = some (some v))
  | _, _, .nil => ⟨rfl, fun k a v e => by simp at e⟩
  | _, _, .d h t => by
    obtain ⟨h1, h2⟩ := ArOk.get t
    refine ⟨by simp [h1], fun k a v ea ev => ?_⟩
    cases k with
    | zero =>
      simp at ea ev
      subst ea
      subst ev
      exact h
    | succ k => exact h2 k a v (by simpa using ea) (by simpa using ev)
  | _, _, .l h t => by
    obtain ⟨h1, h2⟩ := ArOk.get t
    refine ⟨by simp [h1], fun k a v ea ev => ?_⟩
    cases k with
    | zero =>
      simp at ea ev
      subst ea
      subst ev
      exact h
    | succ k => exact h2 k a v (by simpa using ea) (by simpa using ev)
/-- arguments are lent, and come back -/
theorem Rel.lend {as : List Ar} {vs : List V} {os : List OD} (r : Rel K cg pvs g σ S F H) (ha : ArOk K F σ vs as) (nd : (lends as).Nodup) (ho : osOf g as = some os) : ∃ (A S1 : Addr → Prop), OwA K cg F H vs os A ∧ (∀ q, S q ↔ A q ∨ S1 q) ∧ (∀ q, A q → S1 q → False) ∧
    ∀ os' A' F' H', Stp A F H A' F' H' → OwA K cg F' H' vs os' A' → ∃ S', Rel K cg pvs (putA g as os') σ S' F' H' ∧ ∀ q, S' q → A' q ∨ S1 q := by
  obtain ⟨L, h1, h2, h3⟩ := r.ex
  obtain ⟨o1, o2⟩ := osOf_get ho
  obtain ⟨a1, a2⟩ := ha.get
  have slotAt : ∀ (i : Nat) (o : OD) (v : V), (gt g i).od = some o → σ[i]? = some (some v) → Ow K cg F H v o (L i) := fun i o v e ev => by
    have h := h1 i
    unfold SlOk at h
    cases q : gt g i with
    | no =>
      rw [q] at e
      cases e
    | v o1 =>
      rw [q] at e h
      cases e
      obtain ⟨w, e1, h⟩ := h
      rw [ev] at e1
      cases e1
      exact h
    | pin o1 =>
      rw [q] at e h
      cases e
      obtain ⟨w, e1, _, h⟩ := h
      rw [ev] at e1
      cases e1
      exact h
    | al j n =>
      rw [q] at e
      cases e
    | xc =>
      rw [q] at e
      cases e
  let L' : Nat → Addr → Prop := fun k q => ∃ i, as[k]? = some (.l i) ∧ L i q
  refine ⟨fun q => ∃ k, L' k q, fun q => ∃ j, j ∉ lends as ∧ L j q, ⟨by rw [a1, o1], L', fun k v o ev eo => ?_, fun k k' q hk hl hl' => ?_, fun k q hk ⟨i, e, _⟩ => ?_, fun q => Iff.rfl⟩, fun q => ?_, fun q ⟨k, i, e, hl⟩ ⟨j, hj, hl'⟩ => ?_, fun os' A' F' H' st ow' => ?_⟩
  · have hk : k < as.length := by
      have := (List.getElem?_eq_some_iff.mp ev).1
      omega
    have ea : as[k]? = some as[k] := List.getElem?_eq_getElem hk
    have b1 := o2 k _ ea
    have b2 := a2 k _ v ea ev
    cases q : as[k] with
    | d x =>
      rw [q] at b1 b2 ea
      simp only at b1 b2
      rw [eo] at b1
      cases b1
      exact .dat b2 fun p ⟨i, e, _⟩ => by
        rw [ea] at e
        cases e
    | l i =>
      rw [q] at b1 b2 ea
      simp only at b1 b2
      obtain ⟨o3, e3, e4⟩ := b1
      rw [eo] at e4
      cases e4
      refine (slotAt i _ v e3 b2).iff fun p => ⟨fun ⟨i', e, hl⟩ => ?_, fun hl => ⟨i, ea, hl⟩⟩
      rw [ea] at e
      cases e
      exact hl
  · obtain ⟨i, e, hl⟩ := hl
    obtain ⟨i', e', hl'⟩ := hl'
    by_cases z : i = i'
    · subst z
      exact hk (lends_inj nd e e')
    · exact h2 i i' q z hl hl'
  · have := (List.getElem?_eq_some_iff.mp e).1
    omega
  · refine ⟨fun hq => ?_, fun hq => ?_⟩
    · obtain ⟨j, hj⟩ := (h3 q).mp hq
      by_cases z : j ∈ lends as
      · obtain ⟨k, hk⟩ := lends_mem.mp z
        exact .inl ⟨k, j, hk, hj⟩
      · exact .inr ⟨j, z, hj⟩
    · rcases hq with ⟨k, i, _, hl⟩ | ⟨j, _, hl⟩
      · exact (h3 q).mpr ⟨i, hl⟩
      · exact (h3 q).mpr ⟨j, hl⟩
  · exact h2 i j q (fun z => hj (z ▸ lends_mem.mpr ⟨k, e⟩)) hl hl'
  · obtain ⟨l', M, w1, w2, w3, w4⟩ := ow'
    have other : ∀ j, j ∉ lends as → ∀ p, L j p → H' p = H p ∧ F' p = none := fun j hj p hp => by
      obtain ⟨f, u, eu⟩ := (h1 j).at hp
      have nA : ¬ ∃ k, L' k p := fun ⟨k, i, e, hl⟩ => h2 i j p (fun z => hj (z ▸ lends_mem.mpr ⟨k, e⟩)) hl hp
      refine ⟨by rw [eu, st.keep p u nA eu], ?_⟩
      cases q : F' p with
      | none => rfl
      | some z =>
        rcases st.nw p z q with ⟨y, hh⟩ | hh | hh
        · rw [f] at hh
          cases hh
        · exact absurd hh ((h1 j).nn hp)
        · exact (nA hh).elim
    let N : Nat → Addr → Prop := fun j q => (∃ k : Nat, as[k]? = some (.l j) ∧ M k q) ∨ (j ∉ lends as ∧ L j q)
    refine ⟨fun q => ∃ j, N j q, ⟨st.fh, by rw [putA_len]; exact r.len, r.z, N, fun j => ?_, fun j j' q hj hl hl' => ?_, fun q => Iff.rfl⟩, fun q ⟨j, hl⟩ => ?_⟩
    · by_cases z : j ∈ lends as
      · obtain ⟨k, hk⟩ := lends_mem.mp z
        have hkl : k < as.length := (List.getElem?_eq_some_iff.mp hk).1
        obtain ⟨o, e1, e2⟩ := o2 k _ hk
        have hvk : vs[k]? = some (vs[k]'(by omega)) := List.getElem?_eq_getElem (by omega)
        have hok : os'[k]? = some (os'[k]'(by omega)) := List.getElem?_eq_getElem (by omega)
        have sv : σ[j]? = some (some (vs[k]'(by omega))) := a2 k _ _ hk hvk
        have ow := w1 k _ _ hvk hok
        have ow2 : Ow K cg F' H' (vs[k]'(by omega)) (os'[k]'(by omega)) (N j) := ow.iff fun p => ⟨fun hh => by
          rcases hh with ⟨k', e', hh⟩ | ⟨y, _⟩
          · rw [lends_inj nd e' hk] at hh
            exact hh
          · exact absurd z y, fun hh => .inl ⟨k, hk, hh⟩⟩
        have eg := putA_in as os' g j k _ o nd hk hok (by omega) e1
        unfold SlOk
        rw [eg]
        have b := h1 j
        unfold SlOk at b
        cases q : gt g j with
        | no =>
          rw [q] at e1
          cases e1
        | v o3 => exact ⟨_, sv, ow2⟩
        | pin o3 =>
          rw [q] at b
          obtain ⟨w, ew, ep, _⟩ := b
          rw [sv] at ew
          cases ew
          exact ⟨_, sv, ep, ow2⟩
        | al _ _ =>
          rw [q] at e1
          cases e1
        | xc =>
          rw [q] at e1
          cases e1
      · have b := (h1 j).mo st.fr (fun p hp => (other j z p hp).1) (fun p hp => (other j z p hp).2)
        have ei : ∀ p, N j p ↔ L j p := fun p => ⟨fun hh => by
          rcases hh with ⟨k, e, _⟩ | ⟨_, hh⟩
          · exact absurd (lends_mem.mpr ⟨k, e⟩) z
          · exact hh, fun hh => .inr ⟨z, hh⟩⟩
        unfold SlOk at b ⊢
        rw [putA_out as os' g j z]
        cases q : gt g j with
        | no =>
          rw [q] at b
          exact fun p hp => b p ((ei p).mp hp)
        | v o3 =>
          rw [q] at b
          obtain ⟨w, ew, ow⟩ := b
          exact ⟨w, ew, ow.iff ei⟩
        | pin o3 =>
          rw [q] at b
          obtain ⟨w, ew, ep, ow⟩ := b
          exact ⟨w, ew, ep, ow.iff ei⟩
        | al _ _ =>
          rw [q] at b
          exact ⟨b.1, fun p hp => b.2 p ((ei p).mp hp)⟩
        | xc =>
          rw [q] at b
          exact ⟨b.1, fun p hp => b.2 p ((ei p).mp hp)⟩
    · have cross : ∀ j k, j ∉ lends as → L j q → M k q → False := fun j k hj hl hm => by
        obtain ⟨_, u, eu⟩ := (h1 j).at hl
        rcases st.fp q ((w4 q).mpr ⟨k, hm⟩) with ⟨k', i, e, hl'⟩ | z
        · exact h2 i j q (fun z => hj (z ▸ lends_mem.mpr ⟨k', e⟩)) hl' hl
        · rw [eu] at z
          cases z
      rcases hl with ⟨k, e, hm⟩ | ⟨n1, hm⟩
      · rcases hl' with ⟨k', e', hm'⟩ | ⟨n1', hm'⟩
        · by_cases z : k = k'
          · subst z
            rw [e] at e'
            cases e'
            exact hj rfl
          · exact w2 k k' q z hm hm'
        · exact cross j' k n1' hm' hm
      · rcases hl' with ⟨k', e', hm'⟩ | ⟨n1', hm'⟩
        · exact cross j k' n1 hm hm'
        · exact h2 j j' q hj hm hm'
    · rcases hl with ⟨k, _, hm⟩ | ⟨n1, hm⟩
      · exact .inl ((w4 q).mpr ⟨k, hm⟩)
      · exact .inr ⟨j, n1, hm⟩
/-! ### what a def promises -/
inductive FOut where
  | ok (o : OD) (os : List OD) | err (e : Er) (os : List OD) | stk
def PoF (K : PySem.W.Frag) (cg : Str → Option Value) (vs : List V) (A : Addr → Prop) (F H : Hp) (Q : VK) (E : XK) : FOut → Prop
  | .ok r os' => ∀ v B A' F' H', Stp A F H (fun p => A' p ∨ B p) F' H' → Ow K cg F' H' v r B → OwA K cg F' H' vs os' A' → (∀ q, B q → A' q → False) → Q v H'
  | .err e os' => ∀ C dop A' F' H', Stp A F H A' F' H' → OwA K cg F' H' vs os' A' → cg e.c = some (.ref C) → XOk K F' e.xs dop → E (.ref C) dop H'
  | .stk => False
def spL (K : PySem.W.Frag) (cg : Str → Option Value) (n : Nat) (m : List OD → FOut) : Sp := fun vs H Q E => vs.length = n ∧ ∃ os A F, Same F H ∧ OwA K cg F H vs os A ∧ PoF K cg vs A F H Q E (m os)
def oCall (n : Nat) (m : List OD → FOut) (ml : Gm → Out (List Ar)) (g : Gm) : Out OD := (ml g).bind fun as g1 => match osOf g1 as with
  | none => .stk
  | some os => if (lends as).Nodup ∧ as.length = n then match m os with
    | .ok r os' => .ok r (putA g1 as os')
    | .err e os' => .err e (putA g1 as os')
    | .stk => .stk
    else .stk
theorem ro_call {n : Nat} {t : TA} {m : List OD → FOut} {ml : Gm → Out (List Ar)} (h : RL K cg W t ml) : RO K cg W (tCallS (spL K cg n m) (WE W) t) (oCall n m ml) := fun pvs g σ S F H Q r q => by
  refine h pvs g σ S F H _ r ?_
  unfold oCall at q
  cases e : ml g with
  | err e' g1 =>
    rw [e] at q
    exact q
  | stk =>
    rw [e] at q
    exact q.elim
  | ok as g1 =>
    rw [e] at q
    intro vs S1 F1 H1 s1 r1 d1
    simp only [Out.bind] at q
    have q := PoO.st q s1
    cases e1 : osOf g1 as with
    | none =>
      simp only [e1] at q
      exact q.elim
    | some os =>
      simp only [e1] at q
      split at q
      · rename_i hnd
        obtain ⟨A, S2, owA, hS, hd, back⟩ := r1.lend d1 hnd.1 e1
        refine ⟨d1.get.1.trans hnd.2, os, A, F1, r1.fh, owA, ?_⟩
        cases e2 : m os with
        | stk =>
          simp only [e2] at q
          exact q.elim
        | ok o os' =>
          simp only [e2] at q
          intro v B A' F' H' st ow ow' dj
          obtain ⟨S', r', hs'⟩ := back os' A' F' H' (st.sub fun p z => .inl z) ow'
          refine q v B S' F' H' ⟨fun p u hp eu => st.keep p u (fun z => hp ((hS p).mpr (.inl z))) eu, st.fr, fun p u eu => ?_, fun p hp => ?_, st.fh⟩ r' ow fun p hb hp => ?_
          · exact (st.nw p u eu).imp id fun z => z.imp id fun y => (hS p).mpr (.inl y)
          · rcases hp with hp | hp
            · rcases hs' p hp with y | y
              · exact (st.fp p (.inl y)).imp (fun z => (hS p).mpr (.inl z)) id
              · exact .inl ((hS p).mpr (.inr y))
            · exact (st.fp p (.inr hp)).imp (fun z => (hS p).mpr (.inl z)) id
          · rcases hs' p hp with y | y
            · exact dj p hb y
            · rcases st.fp p (.inr hb) with z | z
              · exact hd p z y
              · obtain ⟨_, u, eu⟩ := r1.at ((hS p).mpr (.inr y))
                rw [z] at eu
                cases eu
        | err e' os' =>
          simp only [e2] at q
          intro C dop A' F' H' st ow' hc hx
          obtain ⟨S', r', hs'⟩ := back os' A' F' H' st ow'
          refine q C dop S' F' H' ⟨fun p u hp eu => st.keep p u (fun z => hp ((hS p).mpr (.inl z))) eu, st.fr, fun p u eu => ?_, fun p hp => ?_, st.fh⟩ r' hc hx
          · exact (st.nw p u eu).imp id fun z => z.imp id fun y => (hS p).mpr (.inl y)
          · rcases hs' p hp with y | y
            · exact (st.fp p y).imp (fun z => (hS p).mpr (.inl z)) id
            · exact .inl ((hS p).mpr (.inr y))
      · exact q.elim
/-! ### a def's body -/
def ini1 : Bool → OD → Sl
  | true, o => .pin o
  | false, o => .v o
def ini (ls : List Bool) (os : List OD) (k : Nat) : Gm := List.zipWith ini1 ls os ++ List.replicate k .no
def finA : List Bool → List OD → Gm → Option (List OD)
  | [], [], _ => some []
  | true :: ls, _ :: os, s :: g => match s with
    | .pin o => (finA ls os g).map (o :: ·)
    | _ => none
  | false :: ls, .dat d :: os, _ :: g => (finA ls os g).map (.dat d :: ·)
  | _, _, _ => none
noncomputable def fnM (ls : List Bool) (k : Nat) (mb : Gm → SOut) (os : List OD) : FOut :=
  cIf (os.length = ls.length) (match mb (ini ls os k) with
    | .nx g => match finA ls os g with
      | some os' => .ok (.dat .none) os'
      | none => .stk
    | .rt o g => match finA ls os g with
      | some os' => .ok o os'
      | none => .stk
    | .err e g => match finA ls os g with
      | some os' => .err e os'
      | none => .stk
    | _ => .stk) .stk
theorem gt_get : ∀ (g : Gm) (i : Nat), gt g i = (g[i]?).getD .no
  | [], _ => rfl
  | _ :: _, 0 => rfl
  | _ :: r, n + 1 => by
    show gt r n = _
    rw [gt_get r n]
    simp
theorem finA_get : ∀ {ls : List Bool} {os : List OD} {g : Gm} {os' : List OD}, finA ls os g = some os' → os'.length = ls.length ∧ os.length = ls.length ∧
    ∀ i : Nat, (ls[i]? = some true → ∃ o', gt g i = .pin o' ∧ os'[i]? = some o') ∧ (ls[i]? = some false → ∃ d, os[i]? = some (.dat d) ∧ os'[i]? = some (.dat d))
  | [], [], g, os', h => by
    simp only [finA] at h
    cases h
    exact ⟨rfl, rfl, fun i => ⟨fun z => by simp at z, fun z => by simp at z⟩⟩
  | [], _ :: _, g, os', h => by simp [finA] at h
  | true :: ls, [], g, os', h => by simp [finA] at h
  | false :: ls, [], g, os', h => by simp [finA] at h
  | true :: ls, o :: os, [], os', h => by simp [finA] at h
  | false :: ls, o :: os, [], os', h => by
    cases o <;> simp [finA] at h
  | true :: ls, o :: os, s :: g, os', h => by
    cases s with
    | no => simp [finA] at h
    | al _ _ => simp [finA] at h
    | xc => simp [finA] at h
    | v o2 => simp [finA] at h
    | pin o2 =>
      simp only [finA] at h
      cases e : finA ls os g with
      | none =>
        rw [e] at h
        cases h
      | some os2 =>
        rw [e] at h
        cases h
        obtain ⟨h1, h2, h3⟩ := finA_get e
        refine ⟨by simp [h1], by simp [h2], fun i => ?_⟩
        cases i with
        | zero => exact ⟨fun _ => ⟨o2, rfl, rfl⟩, fun z => by simp at z⟩
        | succ i =>
          obtain ⟨a, b⟩ := h3 i
          exact ⟨fun z => by
            obtain ⟨o', q1, q2⟩ := a (by simpa using z)
            exact ⟨o', q1, by simpa using q2⟩, fun z => by
            obtain ⟨d, q1, q2⟩ := b (by simpa using z)
            exact ⟨d, by simpa using q1, by simpa using q2⟩⟩
  | false :: ls, o :: os, s :: g, os', h => by
    cases o with
    | dat d =>
      simp only [finA] at h
      cases e : finA ls os g with
      | none =>
        rw [e] at h
        cases h
      | some os2 =>
        rw [e] at h
        cases h
        obtain ⟨h1, h2, h3⟩ := finA_get e
        refine ⟨by simp [h1], by simp [h2], fun i => ?_⟩
        cases i with
        | zero => exact ⟨fun z => by simp at z, fun _ => ⟨d, rfl, rfl⟩⟩
        | succ i =>
          obtain ⟨a, b⟩ := h3 i
          exact ⟨fun z => by
            obtain ⟨o', q1, q2⟩ := a (by simpa using z)
            exact ⟨o', q1, by simpa using q2⟩, fun z => by
            obtain ⟨d, q1, q2⟩ := b (by simpa using z)
            exact ⟨d, by simpa using q1, by simpa using q2⟩⟩
    | lst ds => simp [finA] at h
    | dk kvs => simp [finA] at h
    | dt kvs => simp [finA] at h
    | nd k os2 => simp [finA] at h
    | scr ns => simp [finA] at h
    | exc => simp [finA] at h
    | tk ks => simp [finA] at h
    | fz k os2 => simp [finA] at h
/-- the fixed values at the entry -/
def pvO (vs : List V) : Pv := ⟨fun i => vs[i]?, fun _ => none⟩
/-- at the entry -/
theorem rel_start {ls : List Bool} {os : List OD} {vs : List V} {k : Nat} {N : List Str} (hF : Same F H) (ho : OwA K cg F H vs os A) (hl : os.length = ls.length) (hN : N.length = ls.length + k) (hz : cg.Z (pvO vs)) : Rel K cg (pvO vs) (ini ls os k) (L2.start N vs) A F H := by
  obtain ⟨l1, L, h1, h2, h3, h4⟩ := ho
  have zl : (List.zipWith ini1 ls os).length = os.length := by
    rw [List.length_zipWith]
    omega
  refine ⟨hF, ?_, hz, L, fun i => ?_, h2, h4⟩
  · unfold ini L2.start
    rw [List.length_append, List.length_append, zl, List.length_replicate, List.length_replicate, List.length_map]
    omega
  · unfold SlOk
    by_cases hi : i < os.length
    · have eo : os[i]? = some os[i] := List.getElem?_eq_getElem hi
      have ev : vs[i]? = some (vs[i]'(by omega)) := List.getElem?_eq_getElem (by omega)
      have el : ls[i]? = some (ls[i]'(by omega)) := List.getElem?_eq_getElem (by omega)
      have ow := h1 i _ _ ev eo
      have sg : gt (ini ls os k) i = ini1 (ls[i]'(by omega)) os[i] := by
        rw [gt_get]
        unfold ini
        rw [List.getElem?_append_left (by rw [zl]; exact hi), List.getElem?_zipWith, el, eo]
        rfl
      have ss : (L2.start N vs)[i]? = some (some (vs[i]'(by omega))) := by
        unfold L2.start
        rw [List.getElem?_append_left (by rw [List.length_map]; omega), List.getElem?_map, ev]
        rfl
      rw [sg]
      cases ls[i]'(by omega) with
      | true => exact ⟨_, ss, ev, ow⟩
      | false => exact ⟨_, ss, ow⟩
    · have sg : gt (ini ls os k) i = .no := by
        rw [gt_get]
        unfold ini
        rw [List.getElem?_append_right (by rw [zl]; omega), List.getElem?_replicate]
        split <;> rfl
      rw [sg]
      exact fun q => h3 i q (by omega)
/-- at the end -/
theorem own_end {ls : List Bool} {os os' : List OD} {vs : List V} {F0 H0 : Hp} {A0 : Addr → Prop} (r : Rel K cg (pvO vs) g σ S F H) (ho : OwA K cg F0 H0 vs os A0) (hF : Same F0 F) (hf : finA ls os g = some os') : ∃ A', OwA K cg F H vs os' A' ∧ ∀ q, A' q → S q := by
  obtain ⟨l1, L0, w1, w2, w3, w4⟩ := ho
  obtain ⟨L, h1, h2, h3⟩ := r.ex
  obtain ⟨f1, f2, f3⟩ := finA_get hf
  refine ⟨fun q => ∃ i : Nat, ls[i]? = some true ∧ L i q, ⟨by omega, fun i q => ls[i]? = some true ∧ L i q, fun i v o ev eo => ?_, fun i j q hij ⟨_, a⟩ ⟨_, b⟩ => h2 i j q hij a b, fun i q hi ⟨a, _⟩ => ?_, fun q => Iff.rfl⟩, fun q ⟨i, _, hl⟩ => (h3 q).mpr ⟨i, hl⟩⟩
  · have hi : i < ls.length := by
      have := (List.getElem?_eq_some_iff.mp eo).1
      omega
    have el : ls[i]? = some ls[i] := List.getElem?_eq_getElem hi
    cases z : ls[i] with
    | true =>
      rw [z] at el
      obtain ⟨o', e1, e2⟩ := (f3 i).1 el
      rw [eo] at e2
      cases e2
      have b := h1 i
      unfold SlOk at b
      rw [e1] at b
      obtain ⟨w, _, ep, ow⟩ := b
      have ep : vs[i]? = some w := ep
      rw [ev] at ep
      cases ep
      exact ow.iff fun q => ⟨fun hh => hh.2, fun hh => ⟨el, hh⟩⟩
    | false =>
      rw [z] at el
      obtain ⟨d, e1, e2⟩ := (f3 i).2 el
      rw [eo] at e2
      cases e2
      have ow := w1 i v _ ev e1
      cases ow with
      | dat hd _ =>
        refine .dat (dp_mo hd hF) fun q hh => ?_
        have hh1 : ls[i]? = some true := hh.1
        rw [el] at hh1
        cases hh1
  · have := (List.getElem?_eq_some_iff.mp a).1
    omega
end
section
variable {P : Program} {w : World} {K : PySem.W.Frag} {mg : Str → Option Value} {base : Heap} {x qual : Str} {params : Arguments} {body : List Stmt} {scope : Scope} {dvs : List V} {kws : List (Str × V)} {f : Addr} {fd : FuncData}
/-- THE RULE: a def mirrors its body -/
theorem fn_ok {N ps : List Str} {k kk : Nat} {ls : List Bool} {mb : Gm → SOut} (F : FunD K x qual params body scope dvs kws f fd) (S : FnScope N ps scope) (hl : ls.length = ps.length) (hN : N.length = ls.length + kk)
    (hb : ∀ (cdv : Value) (A : Around) (outer : List Env) (s : Shared) (H : Hp) (E : XK), Room k (A.deeper (PyProof.Rows.envOfC qual scope s.heap.objs.size f cdv)) →
      DSs (cxOf (L2.CX P w) P w K mg base N qual scope f cdv A outer s H E) ⟨fun cls d _ H' => E cls d H', fun _ => True⟩ body mb) : FnOk P w K mg base (L2.CX P w) (k + 1) f fd ps (spL K mg ps.length (fnM ls kk mb)) := by
  refine F.ok S (fun vs H Q E h => h.1) fun cdv A outer s H vs Q E hr h => ?_
  obtain ⟨t, t1, t2⟩ := hb cdv A outer s H E hr
  refine ⟨t, t1, ?_⟩
  obtain ⟨hv, os, A0, F0, hF, ho, q⟩ := h
  unfold fnM cIf at q
  split at q
  · rename_i hos
    have r0 := rel_start (cg := ⟨mg, fun _ => True⟩) (N := N) (k := kk) hF ho hos hN trivial
    refine t2 (pvO vs) _ _ A0 F0 H _ r0 ?_
    have fin : ∀ {g' : Gm} {o : OD} {os' : List OD}, finA ls os g' = some os' → PoF K mg vs A0 F0 H Q E (.ok o os') → ∀ (v : V) (A : Addr → Prop) (σ' : L2.St) (S' : Addr → Prop) (F' H' : Hp), Stp A0 F0 H (fun p => S' p ∨ A p) F' H' → Rel K ⟨mg, fun _ => True⟩ (pvO vs) g' σ' S' F' H' → Ow K mg F' H' v o A → (∀ q, A q → S' q → False) → Q v H' :=
      fun {g' o os'} ef q v A σ' S' F' H' st r ow dj => by
        obtain ⟨A', ow', sub⟩ := own_end r ho st.fr ef
        exact q v A A' F' H' (st.sub fun p hp => hp.elim (fun z => .inl (sub p z)) .inr) ow ow' fun p hb hp => dj p hb (sub p hp)
    cases e : mb (ini ls os kk) with
    | nx g' =>
      rw [e] at q
      simp only at q
      cases ef : finA ls os g' with
      | none =>
        simp only [ef] at q
        exact q.elim
      | some os' =>
        simp only [ef] at q
        exact fun σ' S' F' H' st r => fin ef q .non (fun _ => False) σ' S' F' H' (st.sub fun p hp => hp.elim id False.elim) r (.dat .non fun _ z => z) fun _ z _ => z
    | rt o g' =>
      rw [e] at q
      simp only at q
      cases ef : finA ls os g' with
      | none =>
        simp only [ef] at q
        exact q.elim
      | some os' =>
        simp only [ef] at q
        exact fun v A σ' S' F' H' st r ow dj => fin ef q v A σ' S' F' H' st r ow dj
    | err e' g' =>
      rw [e] at q
      simp only at q
      cases ef : finA ls os g' with
      | none =>
        simp only [ef] at q
        exact q.elim
      | some os' =>
        simp only [ef] at q
        intro C dop σ' S' F' H' st r hc hx
        obtain ⟨A', ow', sub⟩ := own_end r ho st.fr ef
        exact q C dop A' F' H' (st.sub sub) ow' hc hx
    | br g' =>
      rw [e] at q
      exact q.elim
    | ct g' =>
      rw [e] at q
      exact q.elim
    | stk =>
      rw [e] at q
      exact q.elim
  · exact q.elim
end
/-! ### calls and errors of the text -/
section
variable {X : Cx} {W : Wz} {e : Expr} {es : List Expr} {pos p : Pos} {x : Str} {k : Nat} {f C : Addr} {fd : FuncData} {ps : List Str}
theorem dl_nil : DL X W [] lNil := ⟨_, pa_nil, rl_nil⟩
theorem dl_d {m : Gm → Out PyData} {mr : Gm → Out (List Ar)} (h : DV X W e m) (hr : DL X W es mr) (hs : starEach (e :: es) X.env = (false, eval e X.env) :: starEach es X.env := by rfl) : DL X W (e :: es) (lD m mr) :=
  let ⟨_, h1, h2⟩ := h; let ⟨_, k1, k2⟩ := hr; ⟨_, pa_cons h1 k1 hs, rl_d h2 k2⟩
theorem dl_l {mr : Gm → Out (List Ar)} (i : Nat) (hr : DL X W es mr) (hN : X.N[i]? = some x := by rfl) (hv : Vis X.env.scope x := by first | exact Or.inl rfl | exact Or.inr (Or.inl rfl) | exact Or.inr (Or.inr rfl)) (hd : (x == ("__debug__" : Str)) = false := by decide)
    (hcd : (x == ("__classdict__" : Str)) = false := by decide) (hs : starEach (.Name x pos :: es) X.env = (false, eval (.Name x pos) X.env) :: starEach es X.env := by rfl) : DL X W (.Name x pos :: es) (lL i mr) :=
  let ⟨_, k1, k2⟩ := hr; ⟨_, pa_cons (pv i hN hv hd hcd) k1 hs, rl_l k2⟩
theorem do_call {n : Nat} {m : List OD → FOut} {ml : Gm → Out (List Ar)} (F : FnOk X.prog X.w X.K X.mg X.base (L2.CX X.prog X.w) k f fd ps (spL X.K X.mg n m)) (hr : Room k X.A) (hm : X.mg x = some (.ref f)) (hk : PySem.W.keepIn X.K (.ref f) = true) (hb : Binds X.K fd ps []) (tk : Takes X W.x) (ha : DL X W (e :: es) ml)
    (hg : Gl X x := by rfl) (hdb : (x == ("__debug__" : Str)) = false := by decide) (he : starEach (e :: es) X.env = (false, eval e X.env) :: starEach es X.env := by rfl) (hpl : (backTo pos (starEach es X.env)).any (·.1) = false := by rfl) :
    DO X W (.Call (.Name x p) (e :: es) [] pos) (oCall n m ml) := let ⟨_, h1, h2⟩ := ha; ⟨_, pe_callS F hr hg hm hk hb (fun σ => passAt tk σ) h1 hdb he hpl, ro_call h2⟩
theorem ds_raise {bmB : List Value} {B newId initId : String} {msg : Str} {j : Nat} {p2 pos2 : Pos} (FB : ExcBaseFacts B newId initId bmB) (q : PySem.W.excIn X.K C bmB newId = true) (gC : X.mg x = some (.ref C)) (kC : PySem.W.keepIn X.K (.ref C) = true) (r : Raises X (.ref C)) (tk : Takes X W.x) (hg : Gl X x := by rfl) (hc : X.calm = true := by rfl)
    (hdb : (x == ("__debug__" : Str)) = false := by decide) : DS X W (.Raise (some (.Call (.Name x p) [.Constant (.str msg) j p2] [] pos2)) none pos) (sErr ⟨x, []⟩) := ⟨_, ps_raise hc tk (pmk_own FB q gC kC r hg hdb), rs_raise (cg := cgX X W) gC⟩
/-! ### try -/
def noE (x : SOut) : SOut :=
  match x with
  | .err _ _ => .stk
  | y => y
theorem PoS.noE {K : PySem.W.Frag} {cg : Cg} {W' : WX} {pvs : Pv} {S : Addr → Prop} {F H : Hp} {D : Ends} {y : SOut} (h : PoS K cg W' pvs S F H D (VL.noE y)) : PoS K cg W0 pvs S F H D y := by
  cases y with
  | nx g => exact h
  | rt o g => exact h
  | br g => exact h
  | ct g => exact h
  | err e g => exact h.elim
  | stk => exact h
/-- a suite's own reading -/
def cSu (K : PySem.W.Frag) (cg : Cg) (ms : Er → Gm → SOut) : Addr → Value → Option Addr → TS := fun _ cls dop D σ H => ∃ e C pvs g S F, cls = .ref C ∧ cg e.c = some (.ref C) ∧ Rel K cg pvs g σ S F H ∧ PoS K cg W0 pvs S F H D (ms e g)
/-- the clauses, without a name -/
inductive HdM (X : Cx) (W : Wz) : List ExceptHandler → Cls → Prop
  | nil : HdM X W [] []
  | cons {x : Str} {c : Value} {b₀ : Stmt} {suite : List Stmt} {np pos' : Pos} {hds : List ExceptHandler} {cs : Cls} {f : Str → Option Bool} {ms : Er → Gm → SOut} (hc : Names X x c) (hf : ∀ y C b, X.mg y = some (.ref C) → f y = some b → PySem.W.exmOne X.K (.ref C) c = some b)
      (hsu : ∀ (e : Er) (a : Addr) (oe : Obj) (C : Addr) (d : Option Addr) (pn : List (Addr × Obj)), X.mg e.c = some (.ref C) → Zc (.ref C) d oe → (∃ vs, oe.data = .fields vs) → DSs (X.suite a ((a, oe) :: pn)) (w0 W) (b₀ :: suite) (ms e))
      (r : HdM X W hds cs) : HdM X W (.ExceptHandler (some (.Name x np)) none (b₀ :: suite) pos' :: hds) ((f, fun e g => noE (ms e g)) :: cs)
theorem HdM.ok {hds : List ExceptHandler} {cs : Cls} (h : HdM X W hds cs) : ∃ l, HdsOk X hds l ∧ ClsOk X.K (cgX X W) W.x l cs := by
  induction h with
  | nil => exact ⟨[], .nil, .nil⟩
  | @cons x c b₀ suite np pos' hds cs f ms hc hf hsu r ih =>
    obtain ⟨l, h1, h2⟩ := ih
    refine ⟨(c, cSu X.K (cgX X W) ms) :: l, .cons hc (fun a oe cls d pn hz hv => ⟨fun pins s σ H D I hh => ?_⟩) h1, .cons hf (fun e a C dop hC pvs g σ S F H D rl q => ⟨e, C, pvs, g, S, F, rfl, hC, rl, PoS.noE q⟩) h2⟩
    obtain ⟨e, C, pvs, g, S, F, rfl, hC, rl, q⟩ := hh
    obtain ⟨t, t1, t2⟩ := hsu e a oe C d pn hC hz hv
    exact t1.run pins s σ H D I (t2 pvs g σ S F H D rl q)
theorem ds_try {body : List Stmt} {h₀ : ExceptHandler} {hds : List ExceptHandler} {mb : Gm → SOut} {cs : Cls} (tk : Takes X W.x)
    (hb : ∀ (W' : WX) (pn : List (Addr × Obj)) (xe : Value → Shared → Prop), Takes (X.tr pn xe) W' → PassesOwn (model X.prog X.w) X.A X.env xe → DSs (X.tr pn xe) ⟨W', W.Z⟩ body mb)
    (hh : HdM X W (h₀ :: hds) cs) (hs : X.stack = X.env :: X.outer := by rfl) (hf : X.env.frame = some X.env.locals := by rfl) : DS X W (.Try body (h₀ :: hds) [] [] pos) (sTry mb cs) := by
  obtain ⟨l, h1, h2⟩ := hh.ok
  exact ⟨_, ps_try_many hs hf tk (fun W' pn xe t p => (hb W' pn xe t p).pss) h1, rs_try (fun W' => rs_c) h2⟩
end
end VL
/-! The value layer, part 8: facts of the head, defs by their names. -/
namespace VL
open PySem L2
/-! ### the Hook: facts, defs, one more Bool -/
def obsM (n : Nat) (fa : List He.Fa) (fn : List He.DefD) (ex : PySem.W.Frag → Bool) (g : Addr → Option Obj) : He.AlD × Bool := (He.obsD fa fn (He.frG g (He.asD g n)), ex (He.frG g (He.asD g n)))
def SaysM (fa : List He.Fa) (fn : List He.DefD) (ex : PySem.W.Frag → Bool) (K : PySem.W.Frag) : Prop := He.SaysD fa fn K ∧ ex K = true
def hookM (n : Nat) (fa : List He.Fa) (fn : List He.DefD) (ex : PySem.W.Frag → Bool) : PySem.W.Hook where
  α := He.AlD × Bool
  obs := fun s => obsM n fa fn ex s.heap.get?
  val := fun _ => (He.valD fn, true)
  says := fun _ h => ∃ K : PySem.W.Frag, K.In h ∧ SaysM fa fn ex K
  of := fun _ _ e => ⟨_, He.frG_in, congrArg (fun z : He.AlD × Bool => z.1) e, congrArg (fun z : He.AlD × Bool => z.2) e⟩
  keeps := fun _ _ _ ⟨K, hK, c⟩ k => ⟨K, PySem.W.Frag.In.keeps hK k, c⟩
theorem obsM_eq {n : Nat} {fa : List He.Fa} {fn : List He.DefD} {ex : PySem.W.Frag → Bool} {g : Addr → Option Obj} {s : Shared} (h : ∀ a, g a = s.heap.get? a) : obsM n fa fn ex g = (hookM n fa fn ex).obs s := by
  have e : g = s.heap.get? := funext h
  rw [e]
  rfl
/-! ### constants of the module: tuples of tuples -/
mutual
/-- the value is that data, made of the written part alone -/
def kdat (K : PySem.W.Frag) : PyData → Value → Bool
  | .none, u => (match u with
    | .none => true
    | _ => false)
  | .bool b, u => (match u with
    | .bool a => a == b
    | _ => false)
  | .int j, u => (match u with
    | .int i _ => decide (i = j)
    | _ => false)
  | .str y, u => (match u with
    | .str x _ => decide (x = y)
    | _ => false)
  | .tuple ds, u => (match u with
    | .ref a => (match K.lookup a with
      | some ⟨.type c, _, .seq its _, _⟩ => decide (c = "tuple") && (decide (its.size ≤ sizeLine) && kdats K ds its.toList)
      | _ => false)
    | _ => false)
  | .list _, _ => false
  | .dict _, _ => false
def kdats (K : PySem.W.Frag) : List PyData → List Value → Bool
  | [], us => us.isEmpty
  | d :: ds, us => (match us with
    | u :: r => kdat K d u && kdats K ds r
    | [] => false)
end
mutual
theorem kdat_ok {K : PySem.W.Frag} : ∀ (d : PyData) (u : Value), kdat K d u = true → ∃ v, RelV v u ∧ ∀ F, Dq K F v d
  | .none, u, h => by
    cases u with
    | none => exact ⟨.non, rfl, fun _ => .non⟩
    | _ => simp [kdat] at h
  | .bool b, u, h => by
    cases u with
    | bool a =>
      have h : (a == b) = true := by simpa [kdat] using h
      rw [eq_of_beq h]
      exact ⟨.bl b, rfl, fun _ => .bl b⟩
    | _ => simp [kdat] at h
  | .int j, u, h => by
    cases u with
    | int i t =>
      have h : i = j := by simpa [kdat] using h
      rw [h]
      exact ⟨.int j, ⟨t, rfl⟩, fun _ => .int j⟩
    | _ => simp [kdat] at h
  | .str y, u, h => by
    cases u with
    | str x t =>
      have h : x = y := by simpa [kdat] using h
      rw [h]
      exact ⟨.str y, ⟨t, rfl⟩, fun _ => .str y⟩
    | _ => simp [kdat] at h
  | .tuple ds, u, h => by
    cases u with
    | ref a =>
      unfold kdat at h
      simp only at h
      cases q : K.lookup a with
      | none =>
        rw [q] at h
        cases h
      | some ob =>
        obtain ⟨oc, od, dt, sl⟩ := ob
        rw [q] at h
        cases oc with
        | type c =>
          cases dt with
          | seq its k =>
            have h : (decide (c = "tuple") && (decide (its.size ≤ sizeLine) && kdats K ds its.toList)) = true := h
            obtain ⟨h1, h2⟩ := Bool.and_eq_true_iff.mp h
            obtain ⟨h3, h4⟩ := Bool.and_eq_true_iff.mp h2
            obtain ⟨vs, hv, hd⟩ := kdats_ok ds its.toList h4
            exact ⟨.ref a, rfl, fun F => .tup (.inr ⟨_, its, k, q, congrArg Value.type (of_decide_eq_true h1), rfl, of_decide_eq_true h3, hv⟩) (hd F)⟩
          | _ => cases h
        | _ => cases dt <;> cases h
    | _ => simp [kdat] at h
  | .list _, u, h => by simp [kdat] at h
  | .dict _, u, h => by simp [kdat] at h
theorem kdats_ok {K : PySem.W.Frag} : ∀ (ds : List PyData) (us : List Value), kdats K ds us = true → ∃ vs, Vals vs us ∧ ∀ F, DqA K F vs ds
  | [], us, h => by
    cases us with
    | nil => exact ⟨[], .nil, fun _ => .nil⟩
    | cons a r => simp [kdats] at h
  | d :: ds, us, h => by
    cases us with
    | nil => simp [kdats] at h
    | cons u r =>
      unfold kdats at h
      simp only at h
      obtain ⟨h1, h2⟩ := Bool.and_eq_true_iff.mp h
      obtain ⟨w, r1, d1⟩ := kdat_ok d u h1
      obtain ⟨ws, r2, d2⟩ := kdats_ok ds r h2
      exact ⟨w :: ws, .cons r1 r2, fun F => .cons (d1 F) (d2 F)⟩
end
def kcon (K : PySem.W.Frag) (x : Str) (d : PyData) : Bool := match PySem.W.nsIn K mainGlobals x with
  | some (some u) => kdat K d u
  | _ => false
/-- the name stands for that data -/
def Con (K : PySem.W.Frag) (mg : Str → Option Value) (x : Str) (d : PyData) : Prop := ∃ v u, mg x = some u ∧ RelV v u ∧ ∀ F, Dq K F v d
theorem kcon_ok {K : PySem.W.Frag} {h : Heap} {mg : Str → Option Value} {x : Str} {d : PyData} (X : K.In h) (G : h.Ns mainGlobals mg) (c : kcon K x d = true) : Con K mg x d := by
  unfold kcon at c
  cases e : PySem.W.nsIn K mainGlobals x with
  | none =>
    rw [e] at c
    cases c
  | some o =>
    rw [e] at c
    cases o with
    | none => cases c
    | some u =>
      obtain ⟨v, r, hd⟩ := kdat_ok d u c
      exact ⟨v, u, PySem.W.mg_of X G e, r, hd⟩
/-! ### defs by their names -/
/-- a def of the text stands behind its name -/
def Df (K : PySem.W.Frag) (mg : Str → Option Value) (x : Str) (st : Stmt) : Prop := ∃ f fd, FunD K x x (defArgs st) (defBody st) (defScope st) [] [] f fd ∧ mg x = some (.ref f)
/-- the def behind a name keeps its mirror -/
def FK (P : Program) (w : World) (K : PySem.W.Frag) (mg : Str → Option Value) (base : Heap) (k : Nat) (x : Str) (ps : List Str) (m : List OD → FOut) : Prop :=
  ∃ f fd, FnOk P w K mg base (L2.CX P w) k f fd ps (spL K mg ps.length m) ∧ mg x = some (.ref f) ∧ PySem.W.keepIn K (.ref f) = true ∧ Binds K fd ps []
/-- a class of errors, over ValueError, without an own __init__ -/
def EK (K : PySem.W.Frag) (mg : Str → Option Value) (x : Str) : Prop :=
  ∃ C, mg x = some (.ref C) ∧ PySem.W.excIn K C He.veBase "ValueError.__new__" = true ∧ PySem.W.keepIn K (.ref C) = true ∧ PySem.W.subIn K (.ref C) (.type "BaseException") = some true ∧ PySem.W.typeIn K (.ref C) = some (.type "type")
/-- which errors a clause takes -/
def XK (K : PySem.W.Frag) (mg : Str → Option Value) (x : Str) (l : List (Str × Bool)) : Prop := ∃ C, mg x = some (.ref C) ∧ ∀ p ∈ l, ∃ D, mg p.1 = some (.ref D) ∧ PySem.W.exmOne K (.ref D) (.ref C) = some p.2
def clsF (l : List (Str × Bool)) (y : Str) : Option Bool := l.lookup y
theorem mem_of_lookup' : ∀ {l : List (Str × Bool)} {y : Str} {b : Bool}, l.lookup y = some b → (y, b) ∈ l
  | [], _, _, h => by cases h
  | (z, c) :: r, y, b, h => by
    unfold List.lookup at h
    split at h
    · rename_i e
      cases h
      rw [eq_of_beq e]
      exact List.mem_cons_self
    · exact List.mem_cons_of_mem _ (mem_of_lookup' h)
theorem XK.hf {K : PySem.W.Frag} {mg : Str → Option Value} {C : Addr} {l : List (Str × Bool)} (h : ∀ p ∈ l, ∃ D, mg p.1 = some (.ref D) ∧ PySem.W.exmOne K (.ref D) (.ref C) = some p.2) : ∀ y D b, mg y = some (.ref D) → clsF l y = some b → PySem.W.exmOne K (.ref D) (.ref C) = some b := fun y D b hy hb => by
  obtain ⟨D', h1, h2⟩ := h (y, b) (mem_of_lookup' hb)
  rw [hy] at h1
  cases h1
  exact h2
section
variable {P : Program} {w : World} {K : PySem.W.Frag} {mg : Str → Option Value} {base : Heap}
/-- THE RULE for a def by its name -/
theorem fk_mk {x : Str} {st : Stmt} {N ps : List Str} {k kk : Nat} {ls : List Bool} {mb : Gm → SOut} (D : Df K mg x st) (S : FnScope N ps (defScope st)) (hl : ls.length = ps.length) (hN : N.length = ls.length + kk)
    (hbd : ∀ (kV doc pm : Value) (an : Option Addr) (cdv ct : Value) (us : List Value), us.length = ps.length → bindArgs (PySem.W.fnOf x x (defArgs st) (defBody st) (defScope st) .none kV doc pm an cdv ct) ⟨us, []⟩ = pure (ps.zip us))
    (hb : ∀ (f : Addr) (cdv : Value) (A : Around) (outer : List Env) (s : Shared) (H : Hp) (E : L2.XK), Room k (A.deeper (PyProof.Rows.envOfC x (defScope st) s.heap.objs.size f cdv)) →
      DSs (cxOf (L2.CX P w) P w K mg base N x (defScope st) f cdv A outer s H E) ⟨fun cls d _ H' => E cls d H', fun _ => True⟩ (defBody st) mb) : FK P w K mg base (k + 1) x ps (fnM ls kk mb) := by
  obtain ⟨f, fd, F, g⟩ := D
  exact ⟨f, fd, fn_ok F S hl hN (fun cdv A outer s H E hr => hb f cdv A outer s H E hr), g, F.kp, F.bindsN hbd⟩
end
section
variable {X : Cx} {W : Wz} {e : Expr} {es : List Expr} {pos p : Pos} {x : Str} {k j : Nat} {ps : List Str} {m : List OD → FOut}
theorem do_fk {n : Nat} {ml : Gm → Out (List Ar)} (F : FK X.prog X.w X.K X.mg X.base k x ps m) (hr : Room j X.A) (hk : k ≤ j) (tk : Takes X W.x) (ha : DL X W (e :: es) ml)
    (hg : Gl X x := by rfl) (hdb : (x == ("__debug__" : Str)) = false := by decide) (he : starEach (e :: es) X.env = (false, eval e X.env) :: starEach es X.env := by rfl) (hpl : (backTo pos (starEach es X.env)).any (·.1) = false := by rfl) (hn : ps.length = n := by rfl) :
    DO X W (.Call (.Name x p) (e :: es) [] pos) (oCall n m ml) := by
  subst hn
  obtain ⟨f, fd, F, g, kp, b⟩ := F
  exact do_call F (hr.mono hk) g kp b tk ha hg hdb he hpl
theorem ds_raiseK {msg : Str} {j : Nat} {p2 pos2 : Pos} (E : EK X.K X.mg x) (tk : Takes X W.x) (hg : Gl X x := by rfl) (hc : X.calm = true := by rfl)
    (hdb : (x == ("__debug__" : Str)) = false := by decide) : DS X W (.Raise (some (.Call (.Name x p) [.Constant (.str msg) j p2] [] pos2)) none pos) (sErr ⟨x, []⟩) := by
  obtain ⟨C, g, q, kp, s1, s2⟩ := E
  exact ds_raise PySem.F.excBase_ValueError q g kp (raises_own s1 s2) tk hg hc hdb
theorem hd_cons {b₀ : Stmt} {suite : List Stmt} {np pos' : Pos} {hds : List ExceptHandler} {cs : Cls} {l : List (Str × Bool)} {ms : Er → Gm → SOut} (E : XK X.K X.mg x l)
    (hsu : ∀ (e : Er) (a : Addr) (oe : Obj) (C : Addr) (d : Option Addr) (pn : List (Addr × Obj)), X.mg e.c = some (.ref C) → Zc (.ref C) d oe → (∃ vs, oe.data = .fields vs) → DSs (X.suite a ((a, oe) :: pn)) (w0 W) (b₀ :: suite) (ms e))
    (r : HdM X W hds cs) (hg : Gl X x := by rfl) (hdb : (x == ("__debug__" : Str)) = false := by decide) : HdM X W (.ExceptHandler (some (.Name x np)) none (b₀ :: suite) pos' :: hds) ((clsF l, fun e g => noE (ms e g)) :: cs) := by
  obtain ⟨C, g, h⟩ := E
  exact .cons ⟨hg, hdb, .inl g⟩ (XK.hf h) hsu r
theorem dp_con {d : PyData} (C : Con X.K X.mg x d) (hg : Gl X x := by rfl) (hd : (x == ("__debug__" : Str)) = false := by decide) : DP X W (.Name x pos) (pC d) := by
  obtain ⟨v, u, hm, r, h⟩ := C
  exact dp_glob hm r h hg hd
/-! ### the script -/
def oSlS (i : Nat) (n : Int) (g : Gm) : Out OD :=
  match (gt g i).od with
  | some (.scr ns) => .ok (.lst (cutD (ns.map PyData.int) none (some n))) g
  | _ => .stk
theorem cut_map {α β : Type} (f : α → β) (xs : List α) (lo hi : Option Int) : cutD (xs.map f) lo hi = (cutD xs lo hi).map f := by
  unfold cutD
  rw [List.length_map, ← List.map_drop, ← List.map_take]
theorem do_slS {i : Nat} {n : Int} {j : Nat} {p2 p3 p4 : Pos} (hN : X.N[i]? = some x := by rfl) (hv : Vis X.env.scope x := by first | exact Or.inl rfl | exact Or.inr (Or.inl rfl) | exact Or.inr (Or.inr rfl)) (hd : (x == ("__debug__" : Str)) = false := by decide)
    (hcd : (x == ("__classdict__" : Str)) = false := by decide) : DO X W (.Subscript (.Name x p3) (.Slice none (some (.Constant (.int n) j p4)) none p2) pos) (oSlS i n) := by
  refine ⟨_, pe_slice sl_list (pv i hN hv hd hcd) po_none (po_some pe_int), fun pvs g σ S F H Q r q => ?_⟩
  unfold oSlS at q
  cases e : (gt g i).od with
  | none =>
    simp only [e] at q
    exact q.elim
  | some o =>
    simp only [e] at q
    obtain ⟨v, A, S1, e1, ow, _⟩ := r.take e
    cases ow with
    | @scr a ns _ h1 h2 =>
      refine ⟨.ref a, e1, n, rfl, a, ns.map V.int, rfl, sql_mono r.fh h1, fun p hp => ?_⟩
      have hc : cutV (ns.map V.int) none (some n) = (cutD ns none (some n)).map V.int := cut_map V.int ns none (some n)
      rw [hc]
      refine fin_l (fun v A F' H' p3 ow fr => q v A S F' H' (p3.stpA fr) (r.pst p3) ow (r.apart fr)) r.fh hp ?_
      rw [cut_map]
      exact dpa_ints _
    | dat _ _ => exact q.elim
    | lst _ _ _ _ => exact q.elim
    | dk _ _ _ _ _ => exact q.elim
    | dt _ _ _ _ _ => exact q.elim
    | nd _ _ _ _ _ _ _ _ => exact q.elim
    | exc _ => exact q.elim
    | tk _ _ => exact q.elim
    | fz _ _ _ _ _ _ => exact q.elim
/-- the whole law: True at every script -/
theorem law_end {P : Program} {w : World} {K : PySem.W.Frag} {mg : Str → Option Value} {H : Hp} {a : Addr} {ns : List Int} {m : List OD → FOut} {os : List OD} (hS : SqL K H a (ns.map V.int)) (hm : m [.scr ns] = .ok (.dat (.bool true)) os) :
    spL K mg 1 m [.ref a] H (fun v _ => v = .bl true) fun _ _ _ => False := by
  refine ⟨rfl, [.scr ns], fun _ => False, H, Same.refl H, ⟨rfl, fun _ _ => False, fun i v o e1 e2 => ?_, fun _ _ _ _ z => z.elim, fun _ _ _ z => z, fun q => ⟨False.elim, fun ⟨_, z⟩ => z⟩⟩, ?_⟩
  · cases i with
    | zero =>
      simp at e1 e2
      subst e1
      subst e2
      exact .scr hS fun _ z => z
    | succ i => simp at e1
  · rw [hm]
    intro v B A' F' H' st ow _ _
    cases ow with
    | dat hd _ =>
      cases hd
      rfl
end
end VL
/-! The value layer, part 9: from the head to the law. -/
namespace VL
open PySem PySem.Spec PyProof.Rows L2
theorem no_cx (P : Program) (w : World) (H : Hp) (s : Shared) (e : Value) (s' : Shared) (h : L2.CX P w [] H s (fun _ _ _ => False) e s') : False := by
  obtain ⟨_, _, _, _, _, _, _, _, _, _, _, _, z⟩ := h
  exact z
/-- the walk of a law by its mirror -/
theorem walk_m {l : PySem.W.OpenLaw} {n k : Nat} {q : Program} {loose : List Str} {XP : (Str → Option Value) → Heap → Prop} {YP : World → Heap → Prop} {d : DefRec} {x : Str} {m : List OD → FOut}
    (h1 : l.most = some n) (h2 : n ≤ sizeLine) (h3 : d.params.defaults = []) (h4 : Room k callerA)
    (h5 : ∀ (w : World) (mg : Str → Option Value) (f : Addr) (h : Heap), YP w h → h.Ns mainGlobals mg → mg d.name = some (.ref f) → ∃ (K : PySem.W.Frag) (fd : FuncData), K.In h ∧
      (∀ (s : Shared) (u : Value), BindsTo s fd ⟨[u], []⟩ [(x, u)]) ∧ ∀ base : Heap, K.In base → base.Ns mainGlobals mg → FnOk l.prog w K mg base (L2.CX l.prog w) k f fd [x] (spL K mg 1 m))
    (h6 : ∀ ns : List Int, ns.length ≤ n → ∃ os, m [.scr ns] = .ok (.dat (.bool true)) os) : PySem.W.WalkO q loose XP YP l.row.toRowW d [] (fun f vs => PySem.call f vs) := by
  refine Att.attach_call h1 h3 ?_
  intro w s0 s1 mg mb f o pm cd doc a vs ns G Y z1 z2 z3 z4 z5 z6 z7 z8
  obtain ⟨K, fd, KX, hb, hF⟩ := h5 w mg f _ Y G.T.g z4
  obtain ⟨os, hm⟩ := h6 ns z7
  refine law_call KX G.T.g G.T.b G.T.builtins G.T.nolimit z8 z5 z6 (Nat.le_trans z7 h2) h4 hF hb ?_ ?_
  · exact fun H _ hS => law_end (P := l.prog) (w := w) hS hm
  · exact fun H e s' => no_cx l.prog w H s1 e s'
section
variable {K : PySem.W.Frag} {h : Heap} {mg : Str → Option Value}
theorem ek_of (X : K.In h) (G : h.Ns mainGlobals mg) {x : Str} (c1 : (He.Fa.glo x).ok K = true) (c2 : (He.Fa.exc x).ok K = true) : EK K mg x := by
  obtain ⟨a, b, c, d⟩ := He.exc_ok c2
  exact ⟨_, He.glo_ok X G c1, a, b, c, d⟩
theorem xk_nil (X : K.In h) (G : h.Ns mainGlobals mg) {x : Str} (c1 : (He.Fa.glo x).ok K = true) : XK K mg x [] := ⟨_, He.glo_ok X G c1, fun p hp => by cases hp⟩
theorem xk_cons (X : K.In h) (G : h.Ns mainGlobals mg) {x y : Str} {b : Bool} {l : List (Str × Bool)} (c1 : (He.Fa.glo y).ok K = true) (c2 : (He.Fa.exm y x b).ok K = true) (c3 : (He.Fa.glo x).ok K = true) (r : XK K mg x l) : XK K mg x ((y, b) :: l) := by
  obtain ⟨C, g, r⟩ := r
  have e := g.symm.trans (He.glo_ok X G c3)
  cases e
  refine ⟨_, g, fun p hp => ?_⟩
  cases hp with
  | head => exact ⟨_, He.glo_ok X G c1, He.exm_ok c2⟩
  | tail _ hp => exact r p hp
end
def fuN (i : Nat) (g : Gm) : Nat := match pVar i g with
  | .ok (.int n) => n.toNat + 2
  | _ => 0
section
variable {P : Program} {w : World} {K : PySem.W.Frag} {mg : Str → Option Value} {base : Heap}
theorem fl_mk {x : Str} {st : Stmt} {f : Addr} {fd : FuncData} {N ps : List Str} {k kk : Nat} {ls : List Bool} {mb : Gm → SOut} (F : FunD K x x (defArgs st) (defBody st) (defScope st) [] [] f fd) (S : FnScope N ps (defScope st)) (hl : ls.length = ps.length) (hN : N.length = ls.length + kk)
    (hb : ∀ (cdv : Value) (A : Around) (outer : List Env) (s : Shared) (H : Hp) (E : L2.XK), Room k (A.deeper (PyProof.Rows.envOfC x (defScope st) s.heap.objs.size f cdv)) →
      DSs (cxOf (L2.CX P w) P w K mg base N x (defScope st) f cdv A outer s H E) ⟨fun cls d _ H' => E cls d H', fun _ => True⟩ (defBody st) mb) : FnOk P w K mg base (L2.CX P w) (k + 1) f fd ps (spL K mg ps.length (fnM ls kk mb)) := fn_ok F S hl hN hb
/-- the mirror that says nothing -/
def mStk (_ : List OD) : FOut := .stk
theorem fk_stk {x : Str} {st : Stmt} {ps : List Str} {k : Nat} (D : Df K mg x st)
    (hbd : ∀ (kV doc pm : Value) (an : Option Addr) (cdv ct : Value) (us : List Value), us.length = ps.length → bindArgs (PySem.W.fnOf x x (defArgs st) (defBody st) (defScope st) .none kV doc pm an cdv ct) ⟨us, []⟩ = pure (ps.zip us)) : FK P w K mg base k x ps mStk := by
  obtain ⟨f, fd, F, g⟩ := D
  have no : ∀ vs H Q E, ¬ spL K mg ps.length mStk vs H Q E := fun vs H Q E h => by
    obtain ⟨_, os, A, F, _, _, z⟩ := h
    exact z
  exact ⟨f, fd, ⟨fun vs H Q E h => (no vs H Q E h).elim, fun A outer s H args us vs Q E _ _ _ _ h => (no vs H Q E h).elim⟩, g, F.kp, F.bindsN hbd⟩
end
end VL
/-! The value layer, part 10: plain equations of the mirrors' parts. -/
namespace VL
open PySem L2
theorem fEq_int (a b : Int) : fEq (.int a) (.int b) = ob (decide (a = b)) := by
  show (if (true = true ∧ true = true) then ob (a == b) else none) = _
  rw [if_pos ⟨rfl, rfl⟩]
  congr 1
theorem fNe_int (a b : Int) : fNe (.int a) (.int b) = ob (!decide (a = b)) := by
  show (if (true = true ∧ true = true) then ob (!(a == b)) else none) = _
  rw [if_pos ⟨rfl, rfl⟩]
  congr 1
theorem fEq_bool (a b : Bool) : fEq (.bool a) (.bool b) = ob (decide (a = b)) := by
  cases a <;> cases b <;> rfl
theorem is_int_int (i : Int) : fIs "int" (.int i) = some true := rfl
theorem is_int_bool (i : Bool) : fIs "int" (.bool i) = some true := by decide +kernel +revert
theorem is_bool_bool (i : Bool) : fIs "bool" (.bool i) = some true := rfl
theorem is_bool_int (i : Int) : fIs "bool" (.int i) = some false := by
  show kitB "int" "bool" = some false
  decide +kernel
theorem is_tup_tup (i : List PyData) : fIs "tuple" (.tuple i) = some true := rfl
theorem is_tup_none : fIs "tuple" .none = some false := by decide +kernel
theorem is_int_none : fIs "int" .none = some false := by decide +kernel
theorem is_bool_none : fIs "bool" .none = some false := by decide +kernel
theorem is_str_none : fIs "str" .none = some false := by decide +kernel
theorem is_int_tup (i : List PyData) : fIs "int" (.tuple i) = some false := by
  show kitB "tuple" "int" = some false
  decide +kernel
theorem is_bool_tup (i : List PyData) : fIs "bool" (.tuple i) = some false := by
  show kitB "tuple" "bool" = some false
  decide +kernel
theorem is_int_str (i : Str) : fIs "int" (.str i) = some false := by
  show kitB "str" "int" = some false
  decide +kernel
theorem is_int_list (i : List PyData) : fIs "int" (.list i) = some false := by
  show kitB "list" "int" = some false
  decide +kernel
theorem is_list_list (i : List PyData) : fIs "list" (.list i) = some true := rfl
theorem is_list_tup (i : List PyData) : fIs "list" (.tuple i) = some false := by
  show kitB "tuple" "list" = some false
  decide +kernel
theorem is_tup_list (i : List PyData) : fIs "tuple" (.list i) = some false := by
  show kitB "list" "tuple" = some false
  decide +kernel
theorem is_tup_int (i : Int) : fIs "tuple" (.int i) = some false := by
  show kitB "int" "tuple" = some false
  decide +kernel
theorem is_str_str (i : Str) : fIs "str" (.str i) = some true := rfl
theorem is_str_int (i : Int) : fIs "str" (.int i) = some false := by
  show kitB "int" "str" = some false
  decide +kernel
theorem atI2 {α : Type} (xs : List α) (i : Int) : atI xs i = (ixN xs.length i).bind fun j => xs[j]? := rfl
theorem nodup_one (a : Nat) : List.Nodup [a] = True := by simp
theorem List.nodup_nil_t : (List.Nodup ([] : List Nat)) = True := by simp
theorem atI_nat {α : Type} (xs : List α) (n : Nat) : atI xs (n : Int) = xs[n]? := by
  unfold atI ixN
  by_cases h : (n : Int) < xs.length
  · rw [if_pos (Int.natCast_nonneg n), if_pos h]
    rfl
  · rw [if_pos (Int.natCast_nonneg n), if_neg h]
    simp
    omega
theorem atI_0 {α : Type} (a : α) (l : List α) : atI (a :: l) 0 = some a := by
  have e := atI_nat (a :: l) 0
  exact e
theorem atI_1 {α : Type} (a b : α) (l : List α) : atI (a :: b :: l) 1 = some b := by
  have e := atI_nat (a :: b :: l) 1
  exact e
theorem atI_2 {α : Type} (a b c : α) (l : List α) : atI (a :: b :: c :: l) 2 = some c := by
  have e := atI_nat (a :: b :: c :: l) 2
  exact e
theorem atI_3 {α : Type} (a b c d : α) (l : List α) : atI (a :: b :: c :: d :: l) 3 = some d := by
  have e := atI_nat (a :: b :: c :: d :: l) 3
  exact e
theorem atI_4 {α : Type} (a b c d e : α) (l : List α) : atI (a :: b :: c :: d :: e :: l) 4 = some e := by
  have e := atI_nat (a :: b :: c :: d :: e :: l) 4
  exact e
theorem atI_5 {α : Type} (a b c d e f : α) (l : List α) : atI (a :: b :: c :: d :: e :: f :: l) 5 = some f := by
  have e := atI_nat (a :: b :: c :: d :: e :: f :: l) 5
  exact e
theorem atI_6 {α : Type} (a b c d e f g : α) (l : List α) : atI (a :: b :: c :: d :: e :: f :: g :: l) 6 = some g := by
  have e := atI_nat (a :: b :: c :: d :: e :: f :: g :: l) 6
  exact e
theorem atI_7 {α : Type} (a b c d e f g h : α) (l : List α) : atI (a :: b :: c :: d :: e :: f :: g :: h :: l) 7 = some h := by
  have e := atI_nat (a :: b :: c :: d :: e :: f :: g :: h :: l) 7
  exact e
theorem ixN_1_0 : ixN 1 0 = some 0 := rfl
theorem ixN_2_0 : ixN 2 0 = some 0 := rfl
theorem ixN_2_1 : ixN 2 1 = some 1 := rfl
theorem ixN_3_0 : ixN 3 0 = some 0 := rfl
theorem ixN_3_1 : ixN 3 1 = some 1 := rfl
theorem ixN_3_2 : ixN 3 2 = some 2 := rfl
theorem ixN_4_0 : ixN 4 0 = some 0 := rfl
theorem ixN_4_1 : ixN 4 1 = some 1 := rfl
theorem ixN_4_2 : ixN 4 2 = some 2 := rfl
theorem ixN_4_3 : ixN 4 3 = some 3 := rfl
theorem ixN_5_0 : ixN 5 0 = some 0 := rfl
theorem ixN_5_1 : ixN 5 1 = some 1 := rfl
theorem ixN_5_2 : ixN 5 2 = some 2 := rfl
theorem ixN_5_3 : ixN 5 3 = some 3 := rfl
theorem ixN_5_4 : ixN 5 4 = some 4 := rfl
theorem ixN_6_0 : ixN 6 0 = some 0 := rfl
theorem ixN_6_1 : ixN 6 1 = some 1 := rfl
theorem ixN_6_2 : ixN 6 2 = some 2 := rfl
theorem ixN_6_3 : ixN 6 3 = some 3 := rfl
theorem ixN_6_4 : ixN 6 4 = some 4 := rfl
theorem ixN_6_5 : ixN 6 5 = some 5 := rfl
theorem ixN_7_0 : ixN 7 0 = some 0 := rfl
theorem ixN_7_1 : ixN 7 1 = some 1 := rfl
theorem ixN_7_2 : ixN 7 2 = some 2 := rfl
theorem ixN_7_3 : ixN 7 3 = some 3 := rfl
theorem ixN_7_4 : ixN 7 4 = some 4 := rfl
theorem ixN_7_5 : ixN 7 5 = some 5 := rfl
theorem ixN_7_6 : ixN 7 6 = some 6 := rfl
theorem fPow9 : fPow (.int 10) (.int 9) = oi 1000000000 := by
  show (if (0 : Int) ≤ 9 ∧ (9 : Int) ≤ 1000000 ∧ (10 : Int).natAbs < 2 ^ 64 then oi ((10 : Int) ^ (9 : Int).toNat) else none) = _
  rw [if_pos ⟨by decide, by decide, by decide⟩]
  congr 1
theorem fPow18 : fPow (.int 10) (.int 18) = oi 1000000000000000000 := by
  show (if (0 : Int) ≤ 18 ∧ (18 : Int) ≤ 1000000 ∧ (10 : Int).natAbs < 2 ^ 64 then oi ((10 : Int) ^ (18 : Int).toNat) else none) = _
  rw [if_pos ⟨by decide, by decide, by decide⟩]
  congr 1
theorem fPow29 : fPow (.int 10) (.int 29) = oi 100000000000000000000000000000 := by
  show (if (0 : Int) ≤ 29 ∧ (29 : Int) ≤ 1000000 ∧ (10 : Int).natAbs < 2 ^ 64 then oi ((10 : Int) ^ (29 : Int).toNat) else none) = _
  rw [if_pos ⟨by decide, by decide, by decide⟩]
  congr 1
/-! equations, case by case -/
section
variable {α β : Type} (i j : Int) (a b : List PyData) (g : Gm) (e : Er)
theorem fAdd_i : fAdd (.int i) (.int j) = oi (i + j) := rfl
theorem fAdd_l : fAdd (.list a) (.list b) = if a.length + b.length ≤ zl then some (.lst (a ++ b)) else none := rfl
theorem fAdd_t : fAdd (.tuple a) (.tuple b) = if a.length + b.length ≤ zl then some (.dat (.tuple (a ++ b))) else none := rfl
theorem fSub_i : fSub (.int i) (.int j) = oi (i - j) := rfl
theorem fMul_i : fMul (.int i) (.int j) = if mulOk i j = true then oi (i * j) else none := rfl
theorem fFdiv_i : fFdiv (.int i) (.int j) = if 0 < j ∧ j.natAbs.log2 < 9000 then oi (i / j) else none := rfl
theorem fMod_i : fMod (.int i) (.int j) = if 0 < j then oi (i % j) else none := rfl
theorem fLt_i : fLt (.int i) (.int j) = ob (decide (i < j)) := rfl
theorem fLe_i : fLe (.int i) (.int j) = ob (decide (i ≤ j)) := rfl
theorem fGt_i : fGt (.int i) (.int j) = ob (decide (j < i)) := rfl
theorem fGe_i : fGe (.int i) (.int j) = ob (decide (j ≤ i)) := rfl
theorem fIx_l : fIx (.list a) (.int i) = od (atI a i) := rfl
theorem fIx_t : fIx (.tuple a) (.int i) = od (atI a i) := rfl
theorem fLen_l : fLen [.list a] = oi a.length := rfl
theorem fLen_t : fLen [.tuple a] = oi a.length := rfl
theorem fAbs_i : fAbs [.int i] = oi (if i < 0 then -i else i) := rfl
theorem fMax2_i : fMax2 [.int i, .int j] = oi (if j > i then j else i) := rfl
theorem fMin2_i : fMin2 [.int i, .int j] = oi (if j < i then j else i) := rfl
theorem fInt_i : fInt [.int i] = oi i := rfl
theorem fInt_b (k : Bool) : fInt [.bool k] = oi (if k then 1 else 0) := rfl
theorem fList_l : fList [.list a] = some (.lst a) := rfl
theorem fList_t : fList [.tuple a] = some (.lst a) := rfl
theorem fTuple_l : fTuple [.list a] = some (.dat (.tuple a)) := rfl
theorem fTuple_t : fTuple [.tuple a] = some (.dat (.tuple a)) := rfl
theorem fIsN_n (d : PyData) : fIsN d .none = ob (isNone d) := rfl
theorem fNotN_n (d : PyData) : fNotN d .none = ob (!isNone d) := rfl
theorem isNone_n : isNone .none = true := rfl
theorem isNone_i : isNone (.int i) = false := rfl
theorem isNone_b (k : Bool) : isNone (.bool k) = false := rfl
theorem isNone_s (k : Str) : isNone (.str k) = false := rfl
theorem isNone_l : isNone (.list a) = false := rfl
theorem isNone_t : isNone (.tuple a) = false := rfl
theorem od_some (d : PyData) : od (some d) = some (.dat d) := rfl
theorem obind_ok (x : α) (k : α → Gm → Out β) : (Out.ok x g).bind k = k x g := rfl
theorem obind_err (k : α → Gm → Out β) : (Out.err e g : Out α).bind k = .err e g := rfl
theorem oof_some (x : α) : Out.of (some x) g = .ok x g := rfl
theorem rbind_ok (x : α) (k : α → Res β) : (Res.ok x).bind k = k x := rfl
theorem rof_some (x : α) : Res.of (some x) = .ok x := rfl
theorem up_ok (x : α) : up (.ok x) g = .ok x g := rfl
theorem frz_dat (d : PyData) : (OD.dat d).frz = some d := by simp [OD.frz]
theorem frz_lst : (OD.lst a).frz = some (.list a) := by simp [OD.frz]
theorem tst_b (k : Bool) : tst (.bool k) g = .ok k g := rfl
theorem sbind_nx (k : Gm → SOut) : (SOut.nx g).bind k = k g := rfl
theorem sbind_rt (o : OD) (k : Gm → SOut) : (SOut.rt o g).bind k = .rt o g := rfl
theorem sbind_br (k : Gm → SOut) : (SOut.br g).bind k = .br g := rfl
theorem sbind_ct (k : Gm → SOut) : (SOut.ct g).bind k = .ct g := rfl
theorem sbind_err (k : Gm → SOut) : (SOut.err e g).bind k = .err e g := rfl
def pSl : Sl → Res PyData
  | .v (.dat d) => .ok d
  | .pin (.dat d) => .ok d
  | _ => .stk
theorem pVar_eq (n : Nat) : pVar n g = pSl (gt g n) := by
  unfold pVar pSl
  rfl
theorem pSl_v (d : PyData) : pSl (.v (.dat d)) = .ok d := rfl
theorem pSl_pin (d : PyData) : pSl (.pin (.dat d)) = .ok d := rfl
def wSl : Sl → Res PyData
  | .v (.dat d) => .ok d
  | .v (.lst ds) => .ok (.list ds)
  | .pin (.dat d) => .ok d
  | .pin (.lst ds) => .ok (.list ds)
  | _ => .stk
theorem wVar_eq (n : Nat) : wVar n g = wSl (gt g n) := by
  unfold wVar
  cases gt g n with
  | no => rfl
  | v o => cases o <;> rfl
  | pin o => cases o <;> rfl
  | al _ _ => rfl
  | xc => rfl
theorem wSl_v (d : PyData) : wSl (.v (.dat d)) = .ok d := rfl
theorem wSl_vl : wSl (.v (.lst a)) = .ok (.list a) := rfl
theorem wSl_pin (d : PyData) : wSl (.pin (.dat d)) = .ok d := rfl
theorem wSl_pl : wSl (.pin (.lst a)) = .ok (.list a) := rfl
end
theorem Nat.cast_zero_i : ((0 : Nat) : Int) = 0 := rfl
theorem Nat.cast_one_i : ((1 : Nat) : Int) = 1 := rfl
theorem log_lt {n b : Nat} (h : n < 2 ^ b) (hb : 0 < b) : n.log2 < b := PySem.Flt.log2_lt_of hb h
theorem mul_small {i j : Int} (h1 : -(2 ^ 64) < j) (h2 : j < 2 ^ 64) : mulOk i j = true := by
  unfold mulOk
  rw [decide_eq_true h1, decide_eq_true h2]
  simp
theorem mul_small' {i j : Int} (h1 : -(2 ^ 64) < i) (h2 : i < 2 ^ 64) : mulOk i j = true := by
  unfold mulOk
  rw [decide_eq_true h1, decide_eq_true h2]
  simp
theorem mul_wide {i j : Int} (h1 : i.natAbs < 2 ^ 100000) (h2 : j.natAbs < 2 ^ 100000) : mulOk i j = true := by
  have a := log_lt h1 (by decide)
  have b := log_lt h2 (by decide)
  unfold mulOk
  have c : i.natAbs.log2 + j.natAbs.log2 < 1000000 := by omega
  simp [c]
/-- whole numbers that are no burden -/
def Sm (a : Int) : Prop := a.natAbs ≤ 2 ^ 8000
theorem Sm.lt {a : Int} (h : Sm a) {n : Nat} (hn : 8000 < n) : a.natAbs < 2 ^ n := Nat.lt_of_le_of_lt h (Nat.pow_lt_pow_right (by decide) hn)
theorem Sm.mul {a b : Int} (h : Sm a) (h' : Sm b) : mulOk a b = true := mul_wide (h.lt (by decide)) (h'.lt (by decide))
theorem Sm.log {a : Int} (h : Sm a) : a.natAbs.log2 < 9000 := log_lt (h.lt (by decide)) (by decide)
theorem Sm.le {a b : Int} (h : Sm a) (h0 : 0 ≤ b) (h1 : b ≤ a) : Sm b := Nat.le_trans (by omega) h
theorem Sm.of {a : Int} {n : Nat} (h1 : -(2 ^ n : Nat) ≤ a) (h2 : a ≤ (2 ^ n : Nat)) (hn : n ≤ 8000) : Sm a := by
  have h : a.natAbs ≤ 2 ^ n := by omega
  exact Nat.le_trans h (Nat.pow_le_pow_right (by decide) hn)
theorem Sm.abs {a : Int} (h : Sm a) : Sm (if a < 0 then -a else a) := by
  unfold Sm at h ⊢
  split <;> omega
/-- a loop that keeps a fact of its slots -/
theorem forM_inv {is : List Nat} {tg : Tg} {mb : Gm → SOut} {P : Gm → Prop} : ∀ (l : List PyData) (g : Gm), (∀ d ∈ l, ∀ g, P g → ∃ g1, tg d g = some g1 ∧ ∃ g2, (mb g1 = .nx g2 ∨ mb g1 = .ct g2) ∧ P (kl is g2)) → P g → ∃ g', forM is tg mb l g = .nx g' ∧ P g'
  | [], g, _, hP => ⟨g, rfl, hP⟩
  | d :: l, g, h, hP => by
    obtain ⟨g1, e1, g2, e2, h2⟩ := h d List.mem_cons_self g hP
    obtain ⟨g', e3, h3⟩ := forM_inv l (kl is g2) (fun d hd => h d (List.mem_cons_of_mem _ hd)) h2
    refine ⟨g', ?_, h3⟩
    unfold forM
    rw [e1]
    rcases e2 with e2 | e2
    · simp only [e2, lp]
      exact e3
    · simp only [e2, lp]
      exact e3
end VL
/-! The value layer, part 11: good data, comprehensions that map. -/
namespace VL
open PySem L2
def gz : Nat := 100000
/-- data of a small depth that may be compared -/
def Gd : Nat → PyData → Prop
  | _, .none => True
  | _, .bool _ => True
  | _, .int _ => True
  | _, .str x => SeqAt.shaped (.str x) = true
  | 0, .list _ => False
  | 0, .tuple _ => False
  | n + 1, .list ds => ds.length ≤ gz ∧ ∀ d ∈ ds, Gd n d
  | n + 1, .tuple ds => ds.length ≤ gz ∧ ∀ d ∈ ds, Gd n d
  | _, .dict _ => False
theorem Gd.up : ∀ {n : Nat} {d : PyData}, Gd n d → Gd (n + 1) d
  | n, .none, _ => by cases n <;> trivial
  | n, .bool _, _ => by cases n <;> trivial
  | n, .int _, _ => by cases n <;> trivial
  | n, .str x, h => by
    cases n with
    | zero => simpa [Gd] using h
    | succ n => simpa [Gd] using h
  | 0, .list _, h => by simp [Gd] at h
  | 0, .tuple _, h => by simp [Gd] at h
  | n + 1, .list ds, h => by
    simp only [Gd] at h ⊢
    exact ⟨h.1, fun d hd => Gd.up (h.2 d hd)⟩
  | n + 1, .tuple ds, h => by
    simp only [Gd] at h ⊢
    exact ⟨h.1, fun d hd => Gd.up (h.2 d hd)⟩
  | n, .dict _, h => by cases n <;> simp [Gd] at h
theorem Gd.le {n m : Nat} {d : PyData} (h : Gd n d) (hm : n ≤ m) : Gd m d := by
  induction hm with
  | refl => exact h
  | step _ ih => exact ih.up
theorem gd_int (n : Nat) (i : Int) : Gd n (.int i) := by cases n <;> trivial
theorem gd_bool (n : Nat) (i : Bool) : Gd n (.bool i) := by cases n <;> trivial
theorem gd_none (n : Nat) : Gd n .none := by cases n <;> trivial
theorem gd_pair (n : Nat) (a b : Int) : Gd (n + 1) (.tuple [.int a, .int b]) := by
  simp only [Gd]
  refine ⟨by simp [gz], fun d hd => ?_⟩
  simp at hd
  rcases hd with rfl | rfl <;> exact gd_int _ _
theorem depthAll_le {k : Nat} : ∀ {ds : List PyData}, (∀ d ∈ ds, d.depth ≤ k) → PyData.depthAll ds ≤ k
  | [], _ => by simp [PyData.depthAll]
  | d :: ds, h => by
    simp only [PyData.depthAll]
    exact Nat.max_le.mpr ⟨h d List.mem_cons_self, depthAll_le fun e he => h e (List.mem_cons_of_mem _ he)⟩
theorem layAll {ds : List PyData} (h : ∀ d ∈ ds, d.canLay0 = true) : PyData.canLayAll0 ds = true := by
  induction ds with
  | nil => rfl
  | cons d ds ih =>
    simp only [PyData.canLayAll0]
    rw [h d List.mem_cons_self, ih fun e he => h e (List.mem_cons_of_mem _ he)]
    rfl
theorem Gd.lay : ∀ {n : Nat} {d : PyData}, Gd n d → d.canLay0 = true ∧ d.depth ≤ n + 1
  | n, .none, _ => ⟨rfl, by simp [PyData.depth]⟩
  | n, .bool _, _ => ⟨rfl, by simp [PyData.depth]⟩
  | n, .int _, _ => ⟨rfl, by simp [PyData.depth]⟩
  | n, .str x, h => by
    have h : SeqAt.shaped (.str x) = true := by cases n <;> simpa [Gd] using h
    exact ⟨SeqAt.canLay_of_shaped h, by simp [PyData.depth]⟩
  | 0, .list _, h => by simp [Gd] at h
  | 0, .tuple _, h => by simp [Gd] at h
  | n + 1, .list ds, h => by
    simp only [Gd] at h
    have z := fun d hd => Gd.lay (h.2 d hd)
    refine ⟨layAll fun d hd => (z d hd).1, ?_⟩
    have := depthAll_le fun d hd => (z d hd).2
    simp only [PyData.depth]
    omega
  | n + 1, .tuple ds, h => by
    simp only [Gd] at h
    have z := fun d hd => Gd.lay (h.2 d hd)
    refine ⟨layAll fun d hd => (z d hd).1, ?_⟩
    have := depthAll_le fun d hd => (z d hd).2
    simp only [PyData.depth]
    omega
  | n, .dict _, h => by cases n <;> simp [Gd] at h
theorem Gd.shaped {n : Nat} {d : PyData} (h : Gd n d) (hn : n ≤ 60) : SeqAt.shaped d = true := by
  obtain ⟨a, b⟩ := h.lay
  unfold SeqAt.shaped
  rw [a, decide_eq_true (show d.depth ≤ 64 by omega)]
  rfl
theorem eqvAll_refl {ds : List PyData} (h : ∀ d ∈ ds, PyData.eqv d d = true) : PyData.eqvAll ds ds = true := by
  induction ds with
  | nil => rfl
  | cons d ds ih =>
    simp only [PyData.eqvAll]
    rw [h d List.mem_cons_self, ih fun e he => h e (List.mem_cons_of_mem _ he)]
    rfl
theorem Gd.eqv : ∀ {n : Nat} {d : PyData}, Gd n d → PyData.eqv d d = true
  | n, .none, _ => rfl
  | n, .bool b, _ => by simp [PyData.eqv]
  | n, .int _, _ => by simp [PyData.eqv]
  | n, .str x, h => by simp [PyData.eqv]
  | 0, .list _, h => by simp [Gd] at h
  | 0, .tuple _, h => by simp [Gd] at h
  | n + 1, .list ds, h => by
    simp only [Gd] at h
    exact eqvAll_refl fun d hd => Gd.eqv (h.2 d hd)
  | n + 1, .tuple ds, h => by
    simp only [Gd] at h
    exact eqvAll_refl fun d hd => Gd.eqv (h.2 d hd)
  | n, .dict _, h => by cases n <;> simp [Gd] at h
theorem fEq_refl {n : Nat} {d : PyData} (h : Gd n d) (hn : n ≤ 60) : fEq d d = some (.dat (.bool true)) := by
  unfold fEq
  rw [if_pos ⟨h.shaped hn, h.shaped hn⟩, h.eqv]
  rfl
theorem fNe_refl {n : Nat} {d : PyData} (h : Gd n d) (hn : n ≤ 60) : fNe d d = some (.dat (.bool false)) := by
  unfold fNe
  rw [if_pos ⟨h.shaped hn, h.shaped hn⟩, h.eqv]
  rfl
theorem fNe_bool (a b : Bool) : fNe (.bool a) (.bool b) = ob (decide (a ≠ b)) := by
  cases a <;> cases b <;> rfl
/-- a comprehension that maps -/
theorem cmp_map {is : List Nat} {tg : Tg} {mt : Gm → Out Bool} {me : Gm → Out PyData} {f : PyData → PyData} {g : Gm} : ∀ (l acc : List PyData), acc.length + l.length ≤ zl →
    (∀ d ∈ l, ∃ g1 g2 g3, tg d g = some g1 ∧ mt g1 = .ok true g2 ∧ me g2 = .ok (f d) g3 ∧ kl is g3 = g) → cmpM is tg mt me l acc g = .ok (acc ++ l.map f) g
  | [], acc, _, _ => by simp [cmpM]
  | d :: l, acc, hz, h => by
    obtain ⟨g1, g2, g3, e1, e2, e3, e4⟩ := h d List.mem_cons_self
    have r := cmp_map l (acc ++ [f d]) (by simp at hz ⊢; omega) fun e he => h e (List.mem_cons_of_mem _ he)
    unfold cmpM
    have hz' : acc.length < zl := by simp at hz; omega
    simp only [e1, e2, e3, if_pos hz', e4, r]
    simp
theorem bools_all (l : List PyData) : bools (l.map fun _ => PyData.bool true) = some (l.map fun _ => true) := by
  have e : (l.map fun _ => PyData.bool true) = (l.map fun _ => true).map PyData.bool := by simp
  rw [e, bools_of]
theorem rng_mem {lo : Int} {n : Nat} {d : PyData} (h : d ∈ rng lo n) : ∃ i : Nat, i < n ∧ d = .int (lo + i) := by
  unfold rng at h
  simp only [List.mem_map, List.mem_range] at h
  obtain ⟨i, hi, rfl⟩ := h
  exact ⟨i, hi, rfl⟩
theorem rngOf_n {n : Int} (h1 : 0 ≤ n) (h2 : n ≤ gz) : rngOf [.int n] = some (0, n.toNat) := by
  unfold gz at h2
  simp only [rngOf]
  rw [cIf_pos (by omega)]
theorem rngOf_nm {n m : Int} (h0 : -(gz : Int) ≤ n) (h1 : n ≤ gz) (h2 : -(gz : Int) ≤ m) (h3 : m ≤ gz) : rngOf [.int n, .int m] = some (n, (m - n).toNat) := by
  unfold gz at *
  simp only [rngOf]
  rw [cIf_pos (by omega)]
section
variable {is : List Nat} {tg : Tg} {mt : Gm → Out Bool} {me : Gm → Out PyData} {ms : Gm → Out (List PyData)} {mb : Gm → SOut} {g g1 : Gm}
theorem compR1 {n : Int} (e : ms g = .ok [.int n] g1) (h1 : 0 ≤ n) (h2 : n ≤ gz) : oCompR is tg mt me ms g = cEnd is g1 (cmpM is tg mt me (rng 0 n.toNat) [] (kl is g1)) := by
  unfold oCompR
  rw [e]
  simp only [rngOf_n h1 h2]
theorem compR2 {n m : Int} (e : ms g = .ok [.int n, .int m] g1) (h0 : -(gz : Int) ≤ n) (h1 : n ≤ gz) (h2 : -(gz : Int) ≤ m) (h3 : m ≤ gz) : oCompR is tg mt me ms g = cEnd is g1 (cmpM is tg mt me (rng n (m - n).toNat) [] (kl is g1)) := by
  unfold oCompR
  rw [e]
  simp only [rngOf_nm h0 h1 h2 h3]
theorem forR1 {n : Int} (e : ms g = .ok [.int n] g1) (h1 : 0 ≤ n) (h2 : n ≤ gz) : sForR is tg ms mb g = forM is tg mb (rng 0 n.toNat) (kl is g1) := by
  unfold sForR
  rw [e]
  simp only [rngOf_n h1 h2]
theorem forR2 {n m : Int} (e : ms g = .ok [.int n, .int m] g1) (h0 : -(gz : Int) ≤ n) (h1 : n ≤ gz) (h2 : -(gz : Int) ≤ m) (h3 : m ≤ gz) : sForR is tg ms mb g = forM is tg mb (rng n (m - n).toNat) (kl is g1) := by
  unfold sForR
  rw [e]
  simp only [rngOf_nm h0 h1 h2 h3]
end
/-- a comprehension that keeps a fact of the slots -/
theorem cmp_inv {is : List Nat} {tg : Tg} {mt : Gm → Out Bool} {me : Gm → Out PyData} {P : Gm → Prop} {Q : PyData → Prop} : ∀ (l acc : List PyData) (g : Gm), acc.length + l.length ≤ zl →
    (∀ d ∈ l, ∀ g, P g → ∃ g1 g2 g3 y, tg d g = some g1 ∧ mt g1 = .ok true g2 ∧ me g2 = .ok y g3 ∧ P (kl is g3) ∧ Q y) → P g → ∃ ys g', cmpM is tg mt me l acc g = .ok (acc ++ ys) g' ∧ P g' ∧ ys.length = l.length ∧ ∀ y ∈ ys, Q y
  | [], acc, g, _, _, hP => ⟨[], g, by simp [cmpM], hP, rfl, fun _ h => by cases h⟩
  | d :: l, acc, g, hz, h, hP => by
    obtain ⟨g1, g2, g3, y, e1, e2, e3, e4, e5⟩ := h d List.mem_cons_self g hP
    obtain ⟨ys, g', r1, r2, r3, r4⟩ := cmp_inv l (acc ++ [y]) (kl is g3) (by simp at hz ⊢; omega) (fun e he => h e (List.mem_cons_of_mem _ he)) e4
    refine ⟨y :: ys, g', ?_, r2, by simp [r3], fun z hz => ?_⟩
    · unfold cmpM
      have hz' : acc.length < zl := by simp at hz; omega
      simp only [e1, e2, e3, if_pos hz', r1]
      simp
    · rcases List.mem_cons.mp hz with rfl | hz
      · exact e5
      · exact r4 z hz
def inI (lo hi : Int) : PyData → Bool
  | .int s => decide (lo ≤ s) && decide (s ≤ hi)
  | _ => false
theorem pickI {l : List PyData} {r lo hi : Int} (hl : l.all (inI lo hi) = true) (h1 : 0 ≤ r) (h2 : r < l.length) : ∃ s, atI l r = some (.int s) ∧ lo ≤ s ∧ s ≤ hi := by
  have hlt : r.toNat < l.length := by omega
  have e := atI_nat l r.toNat
  rw [Int.toNat_of_nonneg h1, List.getElem?_eq_getElem hlt] at e
  have h := List.all_eq_true.mp hl _ (List.getElem_mem hlt)
  cases q : l[r.toNat] with
  | int s =>
    rw [q] at h e
    have h : (decide (lo ≤ s) && decide (s ≤ hi)) = true := h
    obtain ⟨a, b⟩ := Bool.and_eq_true_iff.mp h
    exact ⟨s, e, of_decide_eq_true a, of_decide_eq_true b⟩
  | none =>
    rw [q] at h
    cases h
  | bool _ =>
    rw [q] at h
    cases h
  | str _ =>
    rw [q] at h
    cases h
  | list _ =>
    rw [q] at h
    cases h
  | tuple _ =>
    rw [q] at h
    cases h
  | dict _ =>
    rw [q] at h
    cases h
theorem pick {l : List PyData} {r : Int} (h1 : 0 ≤ r) (h2 : r < l.length) : ∃ d, d ∈ l ∧ atI l r = some d := by
  have hlt : r.toNat < l.length := by omega
  have e := atI_nat l r.toNat
  rw [Int.toNat_of_nonneg h1, List.getElem?_eq_getElem hlt] at e
  exact ⟨_, List.getElem_mem hlt, e⟩
theorem sm_lit {a : Int} (h0 : -(10 ^ 100) ≤ a) (h1 : a ≤ 10 ^ 100) : Sm a := by
  have e : (10 : Nat) ^ 100 ≤ 2 ^ 400 := by decide
  exact Nat.le_trans (Nat.le_trans (show a.natAbs ≤ 10 ^ 100 by omega) e) (Nat.pow_le_pow_right (by decide) (by decide))
end VL
/-! The value layer, part 12: insert, list(range), in, minus. -/
namespace VL
open PySem L2
theorem _root_.L2.Room.units1 {k : Nat} {A : Around} (r : Room k A) : A.units + 65 < cLine := by
  have := r.un
  omega
section
variable {K : PySem.W.Frag} {cg : Str → Option Value}
def rIns : V → List V → Hp → VK → Prop := fun x vs H Q => ∃ (l : Addr) (xs : List V) (i : Int) (y : V), x = .ref l ∧ vs = [.int i, y] ∧ H l = some (.lst xs) ∧ xs.length < sizeLine ∧ 0 ≤ i ∧ i < 2 ^ 63 ∧
    Q .non (upd H l (.lst (xs.take i.toNat ++ [y] ++ xs.drop i.toNat)))
theorem mt_ins {X : Cx} : MtR X "list.insert" rIns := mt_insert
def fIns : List PyData → List PyData → Option (PyData × List PyData)
  | ds, [.int i, d] => if ds.length < zl ∧ 0 ≤ i ∧ i < 2 ^ 63 then some (.none, ds.take i.toNat ++ [d] ++ ds.drop i.toNat) else none
  | _, _ => none
theorem u_ins : MuG K rIns fIns := fun F H p vs ds xs as d ds' Q h1 h2 h3 hf k => by
  unfold fIns at hf
  split at hf
  · split at hf
    · rename_i hz
      cases hf
      cases h3 with
      | cons a b =>
        cases b with
        | cons b c =>
          cases c
          cases a
          exact ⟨p, vs, _, _, rfl, rfl, h1, by rw [dpa_len h2]; exact zl_lt hz.1, hz.2.1, hz.2.2, k .non _ .non (dpa_app (dpa_app (dpa_take _ h2) (.cons b .nil)) (dpa_drop _ h2))⟩
    · cases hf
  · cases hf
def fInL : PyData → PyData → Option OD
  | d, .list ds => if SeqAt.shaped d = true ∧ SeqAt.shaped (.list ds) = true then ob (ds.any fun z => PyData.eqv z d) else none
  | _, _ => none
def fNotInL : PyData → PyData → Option OD
  | d, .list ds => if SeqAt.shaped d = true ∧ SeqAt.shaped (.list ds) = true then ob (!ds.any fun z => PyData.eqv z d) else none
  | _, _ => none
theorem g_inL : OpG K cg (rInD K) fInL := fun F H x y a b o Q e hx hy hf k => by
  unfold fInL at hf
  split at hf
  · split at hf
    · rename_i hz
      cases hf
      exact ⟨_, _, hx.dp e, hy.dp e, hz.1, hz.2, fin_s k e (.bl _)⟩
    · cases hf
  · cases hf
theorem g_notInL : OpG K cg (rNotInD K) fNotInL := fun F H x y a b o Q e hx hy hf k => by
  unfold fNotInL at hf
  split at hf
  · split at hf
    · rename_i hz
      cases hf
      exact ⟨_, _, hx.dp e, hy.dp e, hz.1, hz.2, fin_s k e (.bl _)⟩
    · cases hf
  · cases hf
end
/-! ### - x -/
def rNeg (m : Gm → Res PyData) (g : Gm) : Res OD := (m g).bind fun d => match d with
  | .int i => .ok (.dat (.int (-i)))
  | _ => .stk
def vNeg (m : Gm → Out PyData) (g : Gm) : Out PyData := (m g).bind fun d g1 => match d with
  | .int i => .ok (.int (-i)) g1
  | _ => .stk
section
variable {K : PySem.W.Frag} {cg : Cg} {W : WX}
theorem rv_neg {t : TE} {m : Gm → Out PyData} (h : RV K cg W t m) : RV K cg W (tUn (rU fun i => .int (-i)) t) (vNeg m) := fun pvs g σ S F H Q r q => by
  unfold vNeg at q
  refine h pvs g σ S F H _ r ?_
  cases e : m g with
  | ok d g1 =>
    rw [e] at q
    intro v S1 F1 H1 s1 r1 d1
    cases d1 with
    | int i => exact ⟨i, rfl, q _ S1 F1 H1 s1 r1 (.int _)⟩
    | non => exact q.elim
    | bl b => exact q.elim
    | str x => exact q.elim
    | lst h1 h2 => exact q.elim
    | tup h1 h2 => exact q.elim
  | err e' g1 =>
    rw [e] at q
    exact q
  | stk =>
    rw [e] at q
    exact q.elim
/-! ### list(range(n)) -/
def oLR (m : Gm → Out PyData) (g : Gm) : Out OD := (m g).bind fun d g1 => match d with
  | .int n => if 0 ≤ n ∧ n ≤ gz then .ok (.lst (rng 0 n.toNat)) g1 else .stk
  | _ => .stk
theorem dpa_rg {F : Hp} (n : Int) (h : 0 ≤ n) : DqA K F (rgV 0 n) (rng 0 n.toNat) := by
  have e1 : rgV 0 n = ((List.range n.toNat).map fun i => (0 : Int) + (i : Nat)).map V.int := by
    unfold rgV
    rw [List.map_map, Int.sub_zero]
    rfl
  have e2 : rng 0 n.toNat = ((List.range n.toNat).map fun i => (0 : Int) + (i : Nat)).map PyData.int := by
    unfold rng
    rw [List.map_map]
    rfl
  rw [e1, e2]
  exact dpa_ints _
theorem ro_listRg {t : TE} {m : Gm → Out PyData} (h : RV K cg W t m) : RO K cg W (tLstRg (tRg1 t)) (oLR m) := fun pvs g σ S F H Q r q => by
  unfold oLR at q
  refine h pvs g σ S F H _ r ?_
  cases e : m g with
  | ok d g1 =>
    rw [e] at q
    intro v S1 F1 H1 s1 r1 d1
    simp only [Out.bind] at q
    have q := PoO.st q s1
    cases d1 with
    | int i =>
      simp only at q
      split at q
      · rename_i hz
        have hgz : (gz : Int) = 100000 := rfl
        refine ⟨i, rfl, RgOk.of_le (Int.le_refl 0) (by omega) (by decide) hz.1, fun p hp => ?_⟩
        exact fin_l (fun v A F' H' p3 ow fr => q v A S1 F' H' (p3.stpA fr) (r1.pst p3) ow (r1.apart fr)) r1.fh hp (dpa_rg i hz.1)
      · exact q.elim
    | non => exact q.elim
    | bl b => exact q.elim
    | str x => exact q.elim
    | lst h1 h2 => exact q.elim
    | tup h1 h2 => exact q.elim
  | err e' g1 =>
    rw [e] at q
    exact q
  | stk =>
    rw [e] at q
    exact q.elim
end
section
variable {X : Cx} {W : Wz} {a b c : Expr} {pos p p2 p3 : Pos}
theorem dv_neg {m : Gm → Out PyData} (h : DV X W a m) : DV X W (.UnaryOp .USub a pos) (vNeg m) := let ⟨_, h1, h2⟩ := h; ⟨_, pe_un un_neg h1, rv_neg h2⟩
theorem do_listRg {m : Gm → Out PyData} (hl : X.mg "list" = none) (hr : X.mg "range" = none) (h : DV X W a m) (hc : X.calm = true := by rfl) (gl : Gl X "list" := by rfl) (gr : Gl X "range" := by rfl) (na : starEach [a] X.env = (false, eval a X.env) :: starEach [] X.env := by rfl)
    (na' : starEach [.Call (.Name "range" p2) [a] [] p3] X.env = (false, eval (.Call (.Name "range" p2) [a] [] p3) X.env) :: starEach [] X.env := by rfl) : DO X W (.Call (.Name "list" p) [.Call (.Name "range" p2) [a] [] p3] [] pos) (oLR m) := let ⟨_, h1, h2⟩ := h; ⟨_, pe_listRg hc gl hl (prg_1 gr hr h1 na) na', ro_listRg h2⟩
end
end VL
/-! The value layer, part 13: loops that fold. -/
namespace VL
open PySem L2
theorem fIns_i (ds : List PyData) (i : Int) (d : PyData) : fIns ds [.int i, d] = if ds.length < zl ∧ 0 ≤ i ∧ i < 2 ^ 63 then some (.none, ds.take i.toNat ++ [d] ++ ds.drop i.toNat) else none := rfl
theorem forM_fold {α β : Type} {is : List Nat} {tg : Tg} {mb : Gm → SOut} {enc : α → PyData} {S : β → Gm} {f : β → α → β} : ∀ (l : List α) (x : β), (∀ a ∈ l, ∀ x, ∃ g1, tg (enc a) (S x) = some g1 ∧ ∃ g2, (mb g1 = .nx g2 ∨ mb g1 = .ct g2) ∧ kl is g2 = S (f x a)) →
    forM is tg mb (l.map enc) (S x) = .nx (S (l.foldl f x))
  | [], x, _ => rfl
  | a :: l, x, h => by
    obtain ⟨g1, e1, g2, e2, e3⟩ := h a List.mem_cons_self x
    have r := forM_fold (is := is) (tg := tg) (mb := mb) l (f x a) fun b hb => h b (List.mem_cons_of_mem _ hb)
    rw [List.map_cons]
    unfold forM
    rw [e1]
    rcases e2 with e2 | e2
    · simp only [e2, lp, e3]
      exact r
    · simp only [e2, lp, e3]
      exact r
theorem rng_map (lo : Int) (n : Nat) : rng lo n = ((List.range n).map fun i : Nat => lo + (i : Int)).map PyData.int := by
  unfold rng
  rw [List.map_map]
  rfl
/-- as forM_inv, with the number of the turn -/
theorem forR_inv {is : List Nat} {tg : Tg} {mb : Gm → SOut} {P : Nat → Gm → Prop} {lo : Int} : ∀ (n k : Nat) (g : Gm), (∀ i : Nat, i < k + n → ∀ g, P i g → ∃ g1, tg (.int (lo + (i : Int))) g = some g1 ∧ ∃ g2, (mb g1 = .nx g2 ∨ mb g1 = .ct g2) ∧ P (i + 1) (kl is g2)) → P k g →
    ∃ g', forM is tg mb ((List.range' k n).map fun i : Nat => PyData.int (lo + (i : Int))) g = .nx g' ∧ P (k + n) g'
  | 0, k, g, _, hP => ⟨g, rfl, hP⟩
  | n + 1, k, g, h, hP => by
    obtain ⟨g1, e1, g2, e2, h2⟩ := h k (by omega) g hP
    obtain ⟨g', e3, h3⟩ := forR_inv n (k + 1) (kl is g2) (fun i hi => h i (by omega)) h2
    refine ⟨g', ?_, by rw [show k + (n + 1) = k + 1 + n by omega]; exact h3⟩
    rw [List.range'_succ, List.map_cons]
    unfold forM
    rw [e1]
    rcases e2 with e2 | e2
    · simp only [e2, lp]
      exact e3
    · simp only [e2, lp]
      exact e3
theorem rng_inv {is : List Nat} {tg : Tg} {mb : Gm → SOut} {P : Nat → Gm → Prop} {lo : Int} (n : Nat) (g : Gm) (h : ∀ i : Nat, i < n → ∀ g, P i g → ∃ g1, tg (.int (lo + (i : Int))) g = some g1 ∧ ∃ g2, (mb g1 = .nx g2 ∨ mb g1 = .ct g2) ∧ P (i + 1) (kl is g2)) (h0 : P 0 g) :
    ∃ g', forM is tg mb (rng lo n) g = .nx g' ∧ P n g' := by
  obtain ⟨g', e, h2⟩ := forR_inv (lo := lo) n 0 g (fun i hi => h i (by omega)) h0
  refine ⟨g', ?_, by simpa using h2⟩
  unfold rng
  rw [List.range_eq_range']
  exact e
end VL
/-! The value layer, part 14: ranges with a step. -/
namespace VL
open PySem L2
def rngC (lo c : Int) (n : Nat) : List PyData := (List.range n).map fun i : Nat => .int (lo + (i : Int) * c)
theorem rngC_get {lo c : Int} {n i : Nat} (h : i < n) : (rngC lo c n)[i]? = some (.int (lo + (i : Int) * c)) := by
  unfold rngC
  rw [List.getElem?_map, List.getElem?_range h]
  rfl
theorem rngC_len {lo c : Int} {n : Nat} : (rngC lo c n).length = n := by
  unfold rngC
  rw [List.length_map, List.length_range]
noncomputable def rngOf3 : List PyData → Option (Int × Int × Nat)
  | [.int i, .int j, .int c] => cIf (c ≠ 0 ∧ c.natAbs < 1073741824 ∧ Builtin.Range.small i j c = true ∧ 0 ≤ Builtin.Range.rangeSize i j c) (some (i, c, (Builtin.Range.rangeSize i j c).toNat)) none
  | _ => none
theorem rngOf3_ok {as : List PyData} {i c : Int} {n : Nat} (h : rngOf3 as = some (i, c, n)) : ∃ j, as = [.int i, .int j, .int c] ∧ RgC i j c n := by
  unfold rngOf3 cIf at h
  split at h
  · split at h
    · rename_i hz
      cases h
      exact ⟨_, rfl, hz.1, hz.2.1, hz.2.2.1, by omega⟩
    · cases h
  · cases h
section
variable {K : PySem.W.Frag} {cg : Cg} {W : WX} {pvs : Pv} {g : Gm} {σ : L2.St} {S S1 S' A : Addr → Prop} {F F1 F' H H1 H' : Hp} {D : Ends}
theorem for_rngC {tb : TS} {tg : TG} {m : Tg} {mb : Gm → SOut} {is ts : List Nat} {lo c : Int} {n : Nat} (hg : RG K cg ts tg m) (hb : RS K cg W tb mb) (r : Rel K cg pvs g σ S F H) (q : PoS K cg W pvs S F H D (forM is m mb (rngC lo c n) (kl is g))) :
    ∃ W : Nat → Nat → L2.St → Hp → Prop, (∃ m, W 0 m σ H) ∧ ∀ i m σ H, W i m σ H →
      ((Itc lo c n).stop i H ∧ D.nx σ H) ∨ ((Itc lo c n).go i H ∧ ∃ N : L2.St → Hp → Prop, (∀ σ' H', N σ' H' → ∃ m', m' < m ∧ W (i + 1) m' σ' H') ∧ ∀ x H', (Itc lo c n).yld i H x H' → tg x σ H' fun σ2 H2 => tb { D with nx := N, ct := N, bk := D.nx } σ2 H2) := by
  refine for_rangeC (lo := lo) (n := n) (fun i σ' H' => ∃ g' S' F', Rel K cg pvs g' σ' S' F' H' ∧ PoS K cg W pvs S' F' H' D (forM is m mb ((rngC lo c n).drop i) g')) ?_ ?_ ?_
  · obtain ⟨S2, r2, s2⟩ := r.klS is
    exact ⟨_, S2, F, r2, PoS.st q s2⟩
  · rintro i σ' H' hi ⟨g', S', F', r', q'⟩
    rw [drop_get (rngC_get hi)] at q'
    exact for_turn hg hb r' (.int _) q' _ fun g2 σ2 S2 F2 H2 s2 r2 q2 => ⟨g2, S2, F2, r2, q2⟩
  · rintro σ' H' ⟨g', S', F', r', q'⟩
    rw [List.drop_of_length_le (by rw [rngC_len]; exact Nat.le_refl _)] at q'
    exact q' σ' S' F' H' (.refl r'.fh) r'
noncomputable def sForC (is : List Nat) (tg : Tg) (ms : Gm → Out (List PyData)) (mb : Gm → SOut) (g : Gm) : SOut :=
  match ms g with
  | .ok as g1 => match rngOf3 as with
    | some (lo, c, n) => forM is tg mb (rngC lo c n) (kl is g1)
    | none => .stk
  | .err e g1 => .err e g1
  | .stk => .stk
theorem dqa3 {vs : List V} {i j c : Int} (h : DqA K F vs [.int i, .int j, .int c]) : vs = [.int i, .int j, .int c] := dpa_ints_of [i, j, c] h
theorem rs_forC {ta : TA} {tb : TS} {tg : TG} {m : Tg} {ms : Gm → Out (List PyData)} {mb : Gm → SOut} {is ts : List Nat} (hs : RA K cg W ta ms) (hg : RG K cg ts tg m) (hb : RS K cg W tb mb) : RS K cg W (tFor (iRng3 ta) tg tb) (sForC is m ms mb) := fun pvs g σ S F H D r q => by
  refine hs pvs g σ S F H _ r ?_
  unfold sForC at q
  cases e : ms g with
  | ok as g1 =>
    rw [e] at q
    intro vs S1 F1 H1 s1 r1 d1
    have q1 := PoS.st q s1
    simp only at q1
    cases ez : rngOf3 as with
    | none =>
      rw [ez] at q1
      exact q1.elim
    | some x =>
      obtain ⟨lo, c, n⟩ := x
      rw [ez] at q1
      obtain ⟨j, rfl, hr⟩ := rngOf3_ok ez
      exact ⟨lo, j, c, n, dqa3 d1, hr, for_rngC hg hb r1 q1⟩
  | err e' g1 =>
    rw [e] at q
    exact q.p
  | stk =>
    rw [e] at q
    exact q.elim
theorem comp_rngC {tg : TG} {tt : TT} {te : TE} {m : Tg} {me : Gm → Out PyData} {mt : Gm → Out Bool} {is ts : List Nat} {lo c : Int} {n : Nat} {Q : VK} {L : Addr} (hg : RG K cg ts tg m) (ht : RT K cg W0 tt mt) (he : RV K cg W0 te me) (hts : ∀ j ∈ ts, j ∈ is) (hnd : is.Nodup)
    (r1 : Rel K cg pvs g σ S F H) (q1 : PoO K cg W pvs σ S F H Q (cEnd is g (cmpM is m mt me (rngC lo c n) [] (VL.kl is g)))) (hL : H L = none) :
    ∃ W : Nat → Nat → Hp → Prop, (∃ m, W 0 m (upd H L (.lst []))) ∧ ∀ i m H, W i m H →
      ((Itc lo c n).stop i H ∧ Q (.ref L) H) ∨ ((Itc lo c n).go i H ∧ ∃ Nx : Hp → Prop, (∀ H', Nx H' → ∃ m', m' < m ∧ W (i + 1) m' H') ∧ ∀ x H', (Itc lo c n).yld i H x H' → tg x (L2.wipe σ is) H' fun σ2 H2 => L2.wipe σ2 is = L2.wipe σ is ∧ tt σ2 H2 fun b H3 =>
        if b = true then te σ2 H3 fun y H4 => ∃ acc, H4 L = some (.lst acc) ∧ acc.length < sizeLine ∧ Nx (upd H4 L (.lst (acc ++ [y]))) else Nx H3) := by
  obtain ⟨Sk, rk, hk⟩ := r1.kl is
  have u := pst_own (o := .lst []) r1.fh hL
  have q2 := cmp_end hnd r1 (fun acc g' ex => cmp_no _ _ _ _ _ ex) q1 hL
  have b0 : Stp (fun p => S p ∨ p = L) F (upd H L (.lst [])) (fun p => Sk p ∨ p = L) F (upd H L (.lst [])) := (Stp.refl u.fh).sub fun p hp => hp.imp (hk p) id
  have nSk : ¬ Sk L := fun z => by
    obtain ⟨_, w, ew⟩ := r1.at (hk L z)
    rw [hL] at ew
    cases ew
  have Pv : Nat → Hp → Prop := fun i H' => ∃ g' S' F' vs' acc, Rel K cg pvs (VL.kl is g') (L2.wipe σ is) S' F' H' ∧ H' L = some (.lst vs') ∧ F' L = none ∧ ¬ S' L ∧ DqA K F' vs' acc ∧ PoC K cg pvs (L2.wipe σ is) L S' F' H' (Q (.ref L)) (cmpM is m mt me ((rngC lo c n).drop i) acc (VL.kl is g')) fun _ => True
  refine ⟨fun i k H' => k = n - i ∧ i ≤ n ∧ ∃ g' S' F' vs' acc, Rel K cg pvs (VL.kl is g') (L2.wipe σ is) S' F' H' ∧ H' L = some (.lst vs') ∧ F' L = none ∧ ¬ S' L ∧ DqA K F' vs' acc ∧ PoC K cg pvs (L2.wipe σ is) L S' F' H' (Q (.ref L)) (cmpM is m mt me ((rngC lo c n).drop i) acc (VL.kl is g')) fun _ => True, ⟨n, by simp, Nat.zero_le _, g, Sk, F, [], [], (rk.pst u).wipe, upd_same, r1.fh.free hL, nSk, .nil, PoC.st q2 b0⟩, ?_⟩
  rintro i k H' ⟨rfl, hi, g', S', F', vs', acc, r', a1, a2, a3, a4, q'⟩
  by_cases hlt : i < n
  · refine .inr ⟨hlt, fun H' => ∃ g' S' F' vs' acc, Rel K cg pvs (VL.kl is g') (L2.wipe σ is) S' F' H' ∧ H' L = some (.lst vs') ∧ F' L = none ∧ ¬ S' L ∧ DqA K F' vs' acc ∧ PoC K cg pvs (L2.wipe σ is) L S' F' H' (Q (.ref L)) (cmpM is m mt me ((rngC lo c n).drop (i + 1)) acc (VL.kl is g')) fun _ => True, fun H2 p' => ⟨n - (i + 1), by omega, rfl, hlt, p'⟩, fun x H2 y => ?_⟩
    obtain ⟨e1, e2⟩ := y
    subst e1
    subst e2
    rw [drop_get (rngC_get hlt)] at q'
    exact cmp_turn hg hts ht he r' a1 a2 a3 a4 (.int _) q' fun g2 S2 F2 H2 vs2 acc2 b2 r2 c1 c2 c3 c4 q2 => ⟨g2, S2, F2, vs2, acc2, r2, c1, c2, c3, c4, q2⟩
  · have e : i = n := by omega
    subst e
    rw [List.drop_of_length_le (by rw [rngC_len]; exact Nat.le_refl _)] at q'
    exact .inl ⟨Nat.le_refl _, q'.2 S' F' H' vs' (.refl r'.fh) r' a1 a2 a3 a4⟩
noncomputable def oCompC (is : List Nat) (tg : Tg) (mt : Gm → Out Bool) (me : Gm → Out PyData) (ms : Gm → Out (List PyData)) (g : Gm) : Out OD :=
  match ms g with
  | .ok as g1 => match rngOf3 as with
    | some (lo, c, n) => cEnd is g1 (cmpM is tg mt me (rngC lo c n) [] (VL.kl is g1))
    | none => .stk
  | .err e g1 => .err e g1
  | .stk => .stk
theorem ro_compC {ta : TA} {tg : TG} {tt : TT} {te : TE} {m : Tg} {me : Gm → Out PyData} {ms : Gm → Out (List PyData)} {mt : Gm → Out Bool} {is ts : List Nat} (hs : RA K cg W ta ms) (hg : RG K cg ts tg m) (ht : RT K cg W0 tt mt) (he : RV K cg W0 te me) (hts : ∀ j ∈ ts, j ∈ is) (hnd : is.Nodup) :
    RO K cg W (tLc (iRng3 ta) tg tt te is) (oCompC is m mt me ms) := fun pvs g σ S F H Q r q => by
  refine hs pvs g σ S F H _ r ?_
  unfold oCompC at q
  cases e : ms g with
  | ok as g1 =>
    rw [e] at q
    intro vs S1 F1 H1 s1 r1 d1
    have q1 := PoO.st q s1
    simp only at q1
    cases ez : rngOf3 as with
    | none =>
      rw [ez] at q1
      exact q1.elim
    | some x =>
      obtain ⟨lo, c, n⟩ := x
      rw [ez] at q1
      obtain ⟨j, rfl, hr⟩ := rngOf3_ok ez
      exact ⟨lo, j, c, n, dqa3 d1, hr, fun L hL => comp_rngC hg ht he hts hnd r1 q1 hL⟩
  | err e' g1 =>
    rw [e] at q
    exact q
  | stk =>
    rw [e] at q
    exact q.elim
end
section
variable {X : Cx} {W : Wz} {elt tg iter a b c : Expr} {ifs : List Expr} {scope : Scope} {pos p p2 : Pos} {n : Tg} {ts : List Nat} {mt : Gm → Out Bool} {me ma mb' mc : Gm → Out PyData}
theorem ds_forR3 {mb : Gm → SOut} {body : List Stmt} (is : List Nat) (hp : PassesOwn (model X.prog X.w) X.A X.env X.xe) (hm : X.mg "range" = none) (ha : DV X W a ma) (hb' : DV X W b mb') (hc' : DV X W c mc) (hg : DG X W ts tg n) (hb : DSs X W body mb) (hc : X.calm = true := by rfl) (hgl : Gl X "range" := by rfl)
    (s1 : starEach [a, b, c] X.env = (false, eval a X.env) :: starEach [b, c] X.env := by rfl) (s2 : starEach [b, c] X.env = (false, eval b X.env) :: starEach [c] X.env := by rfl) (s3 : starEach [c] X.env = (false, eval c X.env) :: starEach [] X.env := by rfl) (hpl : (backTo p2 (starEach [b, c] X.env)).any (·.1) = false := by rfl)
    (hs : ∀ x, foldedSetIterable (.Call (.Name "range" p) [a, b, c] [] p2) X.env x = pure x := by intro _; rfl) :
    DS X W (.For tg (.Call (.Name "range" p) [a, b, c] [] p2) body [] pos) (sForC is n (aCons ma (aCons mb' (aCons mc aNil))) mb) := by
  obtain ⟨t, i1, i2⟩ := ha
  obtain ⟨u, j1, j2⟩ := hb'
  obtain ⟨v, k1, k2⟩ := hc'
  obtain ⟨w, l1, l2⟩ := hg
  obtain ⟨y, o1, o2⟩ := hb
  exact ⟨_, ps_for hp hc (pi_range3 hgl hm (pa_cons i1 (pa_cons j1 (pa_cons k1 pa_nil s3) s2) s1) s1 hpl) l1 o1 hs, rs_forC (ra_cons i2 (ra_cons j2 (ra_cons k2 ra_nil))) l2 o2⟩
theorem dc_compR3 (own : List (Str × Nat)) (hN : X.N.Nodup) (hm : X.mg "range" = none) (ha : DV X W a ma) (hb' : DV X W b mb') (hc' : DV X W c mc) (ok : BlkOk X.N X.env.scope scope own) (hg : Blk X scope fun X' => DG X' (w0 W) ts tg n) (ht : Blk X scope fun X' => DTs X' (w0 W) ifs mt) (he : Blk X scope fun X' => DV X' (w0 W) elt me)
    (hts : ∀ j ∈ ts, j ∈ own.map (·.2) := by decide) (hnd : (own.map (·.2)).Nodup := by decide) (hc : X.calm = true := by rfl) (hgl : Gl X "range" := by rfl)
    (s1 : starEach [a, b, c] X.env = (false, eval a X.env) :: starEach [b, c] X.env := by rfl) (s2 : starEach [b, c] X.env = (false, eval b X.env) :: starEach [c] X.env := by rfl) (s3 : starEach [c] X.env = (false, eval c X.env) :: starEach [] X.env := by rfl) (hpl : (backTo p2 (starEach [b, c] X.env)).any (·.1) = false := by rfl)
    (hs : ∀ x, foldedSetIterable (.Call (.Name "range" p) [a, b, c] [] p2) X.env x = pure x := by intro _; rfl) :
    DC X W (.ListComp elt [⟨tg, .Call (.Name "range" p) [a, b, c] [] p2, ifs, 0⟩] scope pos) (oCompC (own.map (·.2)) n mt me (aCons ma (aCons mb' (aCons mc aNil)))) := by
  obtain ⟨t, i1, i2⟩ := ha
  obtain ⟨u, j1, j2⟩ := hb'
  obtain ⟨v, k1, k2⟩ := hc'
  exact dc_mk hc hN (pi_range3 hgl hm (pa_cons i1 (pa_cons j1 (pa_cons k1 pa_nil s3) s2) s1) s1 hpl) ok (fun s H C cl fp => (hg s H C cl fp).pg) (fun s H C cl fp => show PTs _ _ (cT X.K (cgX X W) W0 mt) from ht s H C cl fp) (fun s H C cl fp => (he s H C cl fp).pe) hs (ro_compC (ra_cons i2 (ra_cons j2 (ra_cons k2 ra_nil))) rg_c rt_c rv_c hts hnd)
end
end VL
/-! The value layer, part 15: except X as n, isinstance of n. -/
namespace VL
open PySem L2
section
variable {K : PySem.W.Frag} {cg cg' : Cg} {W : WX} {pvs : Pv} {g : Gm} {σ : L2.St} {S S1 S' A : Addr → Prop} {F F1 F' H H1 H' : Hp} {D : Ends} {i : Nat} {v : V}
theorem st_out : ∀ (g : Gm) (i : Nat) (s : Sl), g.length ≤ i → st g i s = g
  | [], _, _, _ => rfl
  | a :: g, 0, _, h => by simp at h
  | a :: g, i + 1, s, h => congrArg (a :: ·) (st_out g i s (by simpa using h))
/-- fixed values with one more -/
def pvI (pvs : Pv) (i : Nat) (v : V) : Pv := ⟨pvs.p, fun j => if j = i then some v else pvs.x j⟩
theorem Rel.pinE (r : Rel K cg pvs g σ S F H) (hf : cg'.f = cg.f) (hz : cg'.Z (pvI pvs i v)) : ∃ S', Rel K cg' (pvI pvs i v) (st g i .xc) (σ.set i (some v)) S' F H ∧ ∀ q, S' q → S q := by
  obtain ⟨L, h1, h2, h3⟩ := r.ex
  have hf' : (cg'.f : Str → Option Value) = cg.f := hf
  by_cases hi : i < σ.length
  · have hg : i < g.length := by rw [r.len]; exact hi
    refine ⟨fun q => ∃ j, j ≠ i ∧ L j q, ⟨r.fh, by rw [st_len, List.length_set]; exact r.len, hz, fun j => if j = i then fun _ => False else L j, fun j => ?_, fun j k q hjk hj hk => ?_, fun q => ?_⟩, fun q ⟨j, _, hq⟩ => (h3 q).mpr ⟨j, hq⟩⟩
    · by_cases z : j = i
      · subst z
        simp only [if_true]
        unfold SlOk
        rw [gt_st hg]
        exact ⟨⟨v, by rw [List.getElem?_set_self hi], by simp [pvI]⟩, fun _ q => q⟩
      · simp only [if_neg z]
        have b := h1 j
        rw [← hf'] at b
        unfold SlOk at b ⊢
        rw [gt_st_ne z, List.getElem?_set_ne (Ne.symm z)]
        have e : (pvI pvs i v).x j = pvs.x j := by simp [pvI, z]
        rw [e]
        exact b
    · by_cases z : j = i
      · simp only [if_pos z] at hj
      · by_cases y : k = i
        · simp only [if_pos y] at hk
        · simp only [if_neg z] at hj
          simp only [if_neg y] at hk
          exact h2 j k q hjk hj hk
    · refine ⟨fun ⟨j, hj, hq⟩ => ⟨j, by simp only [if_neg hj]; exact hq⟩, fun ⟨j, hj⟩ => ?_⟩
      by_cases z : j = i
      · simp only [if_pos z] at hj
      · simp only [if_neg z] at hj
        exact ⟨j, z, hj⟩
  · have e1 : σ.set i (some v) = σ := List.set_eq_of_length_le (by omega)
    rw [e1, st_out g i _ (by rw [r.len]; omega)]
    refine ⟨S, ⟨r.fh, r.len, hz, L, fun j => ?_, h2, h3⟩, fun _ z => z⟩
    have b := h1 j
    rw [← hf'] at b
    unfold SlOk at b ⊢
    by_cases z : j = i
    · subst z
      have e : gt g j = .no := by
        cases q : gt g j with
        | no => rfl
        | v o => exact absurd (gt_lt (g := g) (i := j) (by rw [q]; intro z; cases z)) (by rw [r.len]; exact hi)
        | pin o => exact absurd (gt_lt (g := g) (i := j) (by rw [q]; intro z; cases z)) (by rw [r.len]; exact hi)
        | al _ _ => exact absurd (gt_lt (g := g) (i := j) (by rw [q]; intro z; cases z)) (by rw [r.len]; exact hi)
        | xc => exact absurd (gt_lt (g := g) (i := j) (by rw [q]; intro z; cases z)) (by rw [r.len]; exact hi)
      rw [e] at b ⊢
      exact b
    · have e : (pvI pvs i v).x j = pvs.x j := by simp [pvI, z]
      rw [e]
      exact b
theorem Rel.unpinE (r : Rel K cg' (pvI pvs i v) g σ S F H) (hf : cg'.f = cg.f) (hz : cg.Z pvs) : ∃ S', Rel K cg pvs (st g i .no) (σ.set i none) S' F H ∧ ∀ q, S' q → S q := by
  obtain ⟨L, h1, h2, h3⟩ := r.ex
  have hf' : (cg'.f : Str → Option Value) = cg.f := hf
  have hno : gt (st g i .no) i = .no := gt_no g i
  refine ⟨fun q => ∃ j, j ≠ i ∧ L j q, ⟨r.fh, by rw [st_len, List.length_set]; exact r.len, hz, fun j => if j = i then fun _ => False else L j, fun j => ?_, fun j k q hjk hj hk => ?_, fun q => ?_⟩, fun q ⟨j, _, hq⟩ => (h3 q).mpr ⟨j, hq⟩⟩
  · by_cases z : j = i
    · subst z
      simp only [if_true]
      unfold SlOk
      rw [hno]
      exact fun _ q => q
    · simp only [if_neg z]
      have b := h1 j
      rw [hf'] at b
      unfold SlOk at b ⊢
      rw [gt_st_ne z, List.getElem?_set_ne (Ne.symm z)]
      have e : (pvI pvs i v).x j = pvs.x j := by simp [pvI, z]
      rw [e] at b
      exact b
  · by_cases z : j = i
    · simp only [if_pos z] at hj
    · by_cases y : k = i
      · simp only [if_pos y] at hk
      · simp only [if_neg z] at hj
        simp only [if_neg y] at hk
        exact h2 j k q hjk hj hk
  · refine ⟨fun ⟨j, hj, hq⟩ => ⟨j, by simp only [if_neg hj]; exact hq⟩, fun ⟨j, hj⟩ => ?_⟩
    by_cases z : j = i
    · simp only [if_pos z] at hj
    · simp only [if_neg z] at hj
      exact ⟨j, z, hj⟩
/-- behind a suite with a name: the name is gone; nothing is raised out of it -/
def asE (i : Nat) : SOut → SOut
  | .nx g => .nx (st g i .no)
  | .rt o g => .rt o (st g i .no)
  | .br g => .br (st g i .no)
  | .ct g => .ct (st g i .no)
  | .err _ _ => .stk
  | .stk => .stk
theorem PoS.asE {Wo : WX} {y : SOut} (hf : cg'.f = cg.f) (hz : cg.Z pvs) (h : PoS K cg Wo pvs S F H D (VL.asE i y)) :
    PoS K cg' W0 (pvI pvs i v) S F H { nx := fun σ' H' => D.nx (σ'.set i none) H', rt := D.rt, bk := fun σ' H' => D.bk (σ'.set i none) H', ct := fun σ' H' => D.ct (σ'.set i none) H' } y := by
  have hf' : (cg'.f : Str → Option Value) = cg.f := hf
  cases y with
  | nx g =>
    intro σ' S' F' H' s r
    obtain ⟨S2, r2, h2⟩ := r.unpinE hf hz
    exact h _ S2 F' H' (s.sub h2) r2
  | rt o g =>
    intro v A σ' S' F' H' s r ow hd
    obtain ⟨S2, r2, h2⟩ := r.unpinE hf hz
    rw [hf'] at ow
    exact h v A _ S2 F' H' (s.sub fun p z => z.imp (h2 p) id) r2 ow fun q ha hs => hd q ha (h2 q hs)
  | br g =>
    intro σ' S' F' H' s r
    obtain ⟨S2, r2, h2⟩ := r.unpinE hf hz
    exact h _ S2 F' H' (s.sub h2) r2
  | ct g =>
    intro σ' S' F' H' s r
    obtain ⟨S2, r2, h2⟩ := r.unpinE hf hz
    exact h _ S2 F' H' (s.sub h2) r2
  | err e g => exact h.elim
  | stk => exact h.elim
/-- the suite's own reading, with what is known of the exception -/
def cSuA (K : PySem.W.Frag) (cg : Cg) (i : Nat) (ms : Er → Gm → SOut) : Addr → Value → Option Addr → TS := fun a cls dop D σ H => ∃ e C pvs g S F, cls = .ref C ∧ cg e.c = some (.ref C) ∧ (e.xs = [] → dop = none) ∧
  Rel K ⟨cg.f, fun pv => pv.x i = some (.ref a)⟩ pvs g σ S F H ∧ PoS K ⟨cg.f, fun pv => pv.x i = some (.ref a)⟩ W0 pvs S F H D (ms e g)
end
/-! ### the clause -/
section
variable {X : Cx} {W : Wz} {pos : Pos}
/-- a suite's context: slot i holds the exception at a -/
abbrev wS (i : Nat) (a : Addr) : Wz := ⟨W0, fun pv => pv.x i = some (.ref a)⟩
theorem ds_tryAs {x n : Str} {i : Nat} {b₀ : Stmt} {suite body : List Stmt} {np pos' : Pos} {mb : Gm → SOut} {l : List (Str × Bool)} {ms : Er → Gm → SOut} (hN : X.N.Nodup) (tk : Takes X W.x) (hZ : ∀ pv, W.Z pv)
    (hb : ∀ (W' : WX) (pn : List (Addr × Obj)) (xe : Value → Shared → Prop), Takes (X.tr pn xe) W' → PassesOwn (model X.prog X.w) X.A X.env xe → DSs (X.tr pn xe) ⟨W', W.Z⟩ body mb)
    (E : XK X.K X.mg x l)
    (hsu : ∀ (e : Er) (a : Addr) (oe : Obj) (C : Addr) (d : Option Addr) (pn : List (Addr × Obj)), X.mg e.c = some (.ref C) → (e.xs = [] → d = none) → Zc (.ref C) d oe → (∃ vs, oe.data = .fields vs) → DSs (X.suite a ((a, oe) :: pn)) (wS i a) (b₀ :: suite) (ms e))
    (hi : X.N[i]? = some n := by rfl) (hln : X.env.kindOf n = some .local := by rfl) (hg : Gl X x := by rfl) (hd : (x == ("__debug__" : Str)) = false := by decide)
    (hs : X.stack = X.env :: X.outer := by rfl) (hf : X.env.frame = some X.env.locals := by rfl) :
    DS X W (.Try body [.ExceptHandler (some (.Name x np)) (some n) (b₀ :: suite) pos'] [] [] pos) (sTry mb [(clsF l, fun e g => VL.asE i (ms e (st g i .xc)))]) := by
  obtain ⟨C0, gC, hl⟩ := E
  refine ⟨_, ps_try_as (tb := fun W' => cS X.K (cgX X W) W' mb) (ts := cSuA X.K (cgX X W) i ms) hs hf hN hi hln ⟨hg, hd, .inl gC⟩ tk (fun W' pn xe t p => (hb W' pn xe t p).pss) (fun a oe cls d pn hz hv => ⟨fun pins s σ H D I hh => ?_⟩), ?_⟩
  · obtain ⟨e, C, pvs, g, S, F, rfl, hC, hdn, rl, q⟩ := hh
    obtain ⟨t, t1, t2⟩ := hsu e a oe C d pn hC hdn hz hv
    exact t1.run pins s σ H D I (t2 pvs g σ S F H D rl q)
  · intro pvs g σ S F H D r q
    refine (rs_c (m := mb) (K := X.K) (cg := cgX X W)) pvs g σ S F H D r ?_
    unfold sTry at q
    cases e : mb g with
    | nx g1 =>
      rw [e] at q
      exact q
    | rt o g1 =>
      rw [e] at q
      exact q
    | br g1 =>
      rw [e] at q
      exact q
    | ct g1 =>
      rw [e] at q
      exact q
    | stk =>
      rw [e] at q
      exact q
    | err e' g1 =>
      rw [e] at q
      intro C dop σ' S' F' H' b r' hc hx
      simp only [caught] at q
      cases ef : clsF l e'.c with
      | none =>
        simp only [ef] at q
        exact q.elim
      | some bb =>
        simp only [ef] at q
        refine ⟨bb, XK.hf hl e'.c C bb hc ef, fun eb a ha => ?_, fun eb => ?_⟩
        · subst eb
          obtain ⟨S2, r2, h2⟩ := r'.pinE (cg' := ⟨X.mg, fun pv => pv.x i = some (.ref a)⟩) (i := i) (v := .ref a) rfl (by simp [pvI])
          refine ⟨e', C, _, _, S2, F', rfl, hc, fun z => ?_, r2, PoS.asE (cg := cgX X W) rfl (hZ _) (PoS.st (PoS.st q b) (Stp.sub (.refl r'.fh) h2))⟩
          unfold XOk at hx
          rw [z] at hx
          exact hx
        · subst eb
          exact (PoS.st q b) C dop σ' S' F' H' (.refl r'.fh) r' hc hx
/-! ### isinstance(n, C) -/
theorem pe_no {e : Expr} : PE X e (fun _ _ _ => False) := ⟨fun _ _ _ _ _ _ h => h.elim⟩
/-- which errors are instances of a class, and that they can be asked -/
def IK (K : PySem.W.Frag) (mg : Str → Option Value) (cv : Value) (l : List (Str × Bool)) : Prop := ∀ p ∈ l, ∃ D, mg p.1 = some (.ref D) ∧ ExcC K D ∧ PySem.W.kitOne K (.ref D) cv = some p.2
def vIsE (i : Nat) (l : List (Str × Bool)) (e : Er) (g : Gm) : Out PyData :=
  match gt g i, e.xs with
  | .xc, [] => match clsF l e.c with
    | some b => .ok (.bool b) g
    | none => .stk
  | _, _ => .stk
theorem dv_isE {i : Nat} {n y : Str} {p p2 p3 : Pos} {l : List (Str × Bool)} {e : Er} {a C : Addr} {oe : Obj} {d : Option Addr} {pn : List (Addr × Obj)} {c : V} {cv : Value} {tc : TE} (I : IK X.K X.mg cv l) (hm : X.mg "isinstance" = none) (hC : X.mg e.c = some (.ref C)) (hdn : e.xs = [] → d = none) (hz : Zc (.ref C) d oe) (hf : ∃ vs, oe.data = .fields vs)
    (hcv : ∀ u, RelV c u → u = cv) (hc : PE (X.suite a ((a, oe) :: pn)) (.Name y p3) (tC c))
    (hN : X.N[i]? = some n := by rfl) (hv : Vis X.env.scope n := by first | exact Or.inl rfl | exact Or.inr (Or.inl rfl) | exact Or.inr (Or.inr rfl)) (hd : (n == ("__debug__" : Str)) = false := by decide) (hcd : (n == ("__classdict__" : Str)) = false := by decide) (hg : Gl (X.suite a ((a, oe) :: pn)) "isinstance" := by rfl)
    (hs : starEach [.Name n p2, .Name y p3] X.env = (false, eval (.Name n p2) X.env) :: starEach [.Name y p3] X.env := by rfl) (hs2 : starEach [.Name y p3] X.env = (false, eval (.Name y p3) X.env) :: starEach [] X.env := by rfl) (hpl : (backTo pos (starEach [.Name y p3] X.env)).any (·.1) = false := by rfl) :
    DV (X.suite a ((a, oe) :: pn)) (wS i a) (.Call (.Name "isinstance" p) [.Name n p2, .Name y p3] [] pos) (vIsE i l e) := by
  have no : (∀ g, vIsE i l e g = .stk) → DV (X.suite a ((a, oe) :: pn)) (wS i a) (.Call (.Name "isinstance" p) [.Name n p2, .Name y p3] [] pos) (vIsE i l e) := fun h => ⟨_, pe_no, fun pvs g σ S F H Q r q => by
    rw [h g] at q
    exact q.elim⟩
  cases ex : e.xs with
  | cons z zs =>
    refine no fun g => ?_
    unfold vIsE
    rw [ex]
    split <;> simp_all
  | nil =>
    cases eb : clsF l e.c with
    | none =>
      refine no fun g => ?_
      unfold vIsE
      rw [ex, eb]
      split <;> simp_all
    | some b =>
      have hd0 := hdn ex
      subst hd0
      obtain ⟨D, hD, exc, kit⟩ := I _ (mem_of_lookup' eb)
      have e1 := hC.symm.trans hD
      cases e1
      refine ⟨_, pe_callB (call_isE exc hz hf) hg hm (by decide +kernel) (pa_cons (pv i hN hv hd hcd) (pa_cons hc pa_nil hs2) hs) (by decide) (by decide) hs hpl, fun pvs g σ S F H Q r q => ?_⟩
      unfold vIsE at q
      cases eg : gt g i with
      | no =>
        rw [eg] at q
        exact q.elim
      | v o =>
        rw [eg] at q
        exact q.elim
      | al _ _ =>
        rw [eg] at q
        exact q.elim
      | pin o =>
        rw [eg] at q
        exact q.elim
      | xc =>
        rw [eg] at q
        rw [ex] at q
        simp only [eb] at q
        obtain ⟨L, h1, h2, h3⟩ := r.ex
        have h := h1 i
        unfold SlOk at h
        rw [eg] at h
        obtain ⟨⟨v, s1, s2⟩, _⟩ := h
        have z : pvs.x i = some (.ref a) := r.z
        rw [s2] at z
        cases z
        exact ⟨_, s1, c, cv, b, rfl, hcv, kit, q (.bl b) S F H (.refl r.fh) r (.bl b)⟩
/-- a class of the text, or a built-in one, as the second argument -/
theorem isE_own {x : Str} {C : Addr} {p3 : Pos} (gC : X.mg x = some (.ref C)) (hg : Gl X x := by rfl) (hd : (x == ("__debug__" : Str)) = false := by decide) : PE X (.Name x p3) (tC (.ref C)) := pe_glob hg gC rfl hd
theorem isE_blt {x : Str} {T : String} {p3 : Pos} (hm : X.mg x = none) (hv : bootBuiltins x = some (.type T)) (hg : Gl X x := by rfl) (hn : x ≠ "__name__" := by decide) (hd : (x == ("__debug__" : Str)) = false := by decide) : PE X (.Name x p3) (tC (.ty T)) := pe_bltn (v := .ty T) hg hm hv rfl hn hd
/-- an own class, by its name -/
def IO (K : PySem.W.Frag) (mg : Str → Option Value) (x : Str) (l : List (Str × Bool)) : Prop := ∃ C, mg x = some (.ref C) ∧ IK K mg (.ref C) l
/-- a built-in class, by its name -/
def IB (K : PySem.W.Frag) (mg : Str → Option Value) (x : Str) (T : String) (l : List (Str × Bool)) : Prop := mg x = none ∧ bootBuiltins x = some (.type T) ∧ IK K mg (.type T) l
section
variable {i : Nat} {n y : Str} {p p2 p3 : Pos} {l : List (Str × Bool)} {e : Er} {a C : Addr} {oe : Obj} {d : Option Addr} {pn : List (Addr × Obj)} {T : String}
theorem dv_isO (I : IO X.K X.mg y l) (hm : X.mg "isinstance" = none) (hC : X.mg e.c = some (.ref C)) (hdn : e.xs = [] → d = none) (hz : Zc (.ref C) d oe) (hf : ∃ vs, oe.data = .fields vs)
    (hN : X.N[i]? = some n := by rfl) (hv : Vis X.env.scope n := by first | exact Or.inl rfl | exact Or.inr (Or.inl rfl) | exact Or.inr (Or.inr rfl)) (hd : (n == ("__debug__" : Str)) = false := by decide) (hcd : (n == ("__classdict__" : Str)) = false := by decide) (hg : Gl (X.suite a ((a, oe) :: pn)) "isinstance" := by rfl) (hgy : Gl (X.suite a ((a, oe) :: pn)) y := by rfl) (hdy : (y == ("__debug__" : Str)) = false := by decide)
    (hs : starEach [.Name n p2, .Name y p3] X.env = (false, eval (.Name n p2) X.env) :: starEach [.Name y p3] X.env := by rfl) (hs2 : starEach [.Name y p3] X.env = (false, eval (.Name y p3) X.env) :: starEach [] X.env := by rfl) (hpl : (backTo pos (starEach [.Name y p3] X.env)).any (·.1) = false := by rfl) :
    DV (X.suite a ((a, oe) :: pn)) (wS i a) (.Call (.Name "isinstance" p) [.Name n p2, .Name y p3] [] pos) (vIsE i l e) := by
  obtain ⟨D, hD, I⟩ := I
  exact dv_isE (tc := tC (.ref D)) (c := .ref D) I hm hC hdn hz hf (fun u h => h) (isE_own hD hgy hdy) hN hv hd hcd hg hs hs2 hpl
theorem dv_isB (I : IB X.K X.mg y T l) (hm : X.mg "isinstance" = none) (hC : X.mg e.c = some (.ref C)) (hdn : e.xs = [] → d = none) (hz : Zc (.ref C) d oe) (hf : ∃ vs, oe.data = .fields vs)
    (hN : X.N[i]? = some n := by rfl) (hv : Vis X.env.scope n := by first | exact Or.inl rfl | exact Or.inr (Or.inl rfl) | exact Or.inr (Or.inr rfl)) (hd : (n == ("__debug__" : Str)) = false := by decide) (hcd : (n == ("__classdict__" : Str)) = false := by decide) (hg : Gl (X.suite a ((a, oe) :: pn)) "isinstance" := by rfl) (hgy : Gl (X.suite a ((a, oe) :: pn)) y := by rfl) (hny : y ≠ "__name__" := by decide) (hdy : (y == ("__debug__" : Str)) = false := by decide)
    (hs : starEach [.Name n p2, .Name y p3] X.env = (false, eval (.Name n p2) X.env) :: starEach [.Name y p3] X.env := by rfl) (hs2 : starEach [.Name y p3] X.env = (false, eval (.Name y p3) X.env) :: starEach [] X.env := by rfl) (hpl : (backTo pos (starEach [.Name y p3] X.env)).any (·.1) = false := by rfl) :
    DV (X.suite a ((a, oe) :: pn)) (wS i a) (.Call (.Name "isinstance" p) [.Name n p2, .Name y p3] [] pos) (vIsE i l e) := by
  obtain ⟨hm2, hb, I⟩ := I
  exact dv_isE (tc := tC (.ty T)) (c := .ty T) I hm hC hdn hz hf (fun u h => h) (isE_blt hm2 hb hgy hny hdy) hN hv hd hcd hg hs hs2 hpl
end
end
/-! ### the facts of the head -/
def excB (K : PySem.W.Frag) (D : Addr) : Bool := decide (PySem.W.findIn K (.ref D) "__getattribute__" = some (some (.builtin "BaseException.__getattribute__"))) && (decide (PySem.W.findIn K (.ref D) "__getattr__" = some none) && (decide (PySem.W.subIn K (.ref D) (.type "BaseException") = some true) && (PySem.W.hasDictIn K D &&
  (decide (PySem.W.findIn K (.ref D) "__class__" = some (some (.builtin "object.__class__"))) && (decide (PySem.W.specialIn K (.builtin "object.__class__") "__get__" = some (some (.builtin "getset_descriptor.__get__"))) && (decide (PySem.W.takesIn K (.builtin "object.__class__") = some true) && decide (PySem.W.mroIn K D (.type "object") = some true)))))))
theorem excB_ok {K : PySem.W.Frag} {D : Addr} (h : excB K D = true) : ExcC K D := by
  unfold excB at h
  simp only [Bool.and_eq_true, decide_eq_true_eq] at h
  obtain ⟨h1, h2, h3, h4, h5, h6, h7, h8⟩ := h
  exact ⟨h1, h2, h3, h4, h5, h6, h7, h8⟩
def ikB (K : PySem.W.Frag) (cv : Value) (l : List (Str × Bool)) : Bool := l.all fun p => match PySem.W.nsIn K mainGlobals p.1 with
  | some (some (.ref D)) => excB K D && decide (PySem.W.kitOne K (.ref D) cv = some p.2)
  | _ => false
def ioB (K : PySem.W.Frag) (x : Str) (l : List (Str × Bool)) : Bool := match PySem.W.nsIn K mainGlobals x with
  | some (some (.ref C)) => ikB K (.ref C) l
  | _ => false
section
variable {K : PySem.W.Frag} {h : Heap} {mg : Str → Option Value}
theorem ikB_ok (X : K.In h) (G : h.Ns mainGlobals mg) {cv : Value} {l : List (Str × Bool)} (c : ikB K cv l = true) : IK K mg cv l := fun p hp => by
  have q := List.all_eq_true.mp c p hp
  split at q
  · rename_i D e
    simp only [Bool.and_eq_true, decide_eq_true_eq] at q
    exact ⟨D, PySem.W.mg_of X G e, excB_ok q.1, q.2⟩
  · cases q
theorem ioB_ok (X : K.In h) (G : h.Ns mainGlobals mg) {x : Str} {l : List (Str × Bool)} (c : ioB K x l = true) : IO K mg x l := by
  unfold ioB at c
  split at c
  · rename_i D e
    exact ⟨D, PySem.W.mg_of X G e, ikB_ok X G c⟩
  · cases c
end
end VL
/-! The value layer, part 16: sorted(a list of data). -/
namespace VL
open PySem L2
def leD : PyData → PyData → Bool := PySem.W.dataLe false (fun d => d)
def sortD (ds : List PyData) : List PyData := ds.mergeSort leD
def tupD : PyData → Bool
  | .tuple (_ :: _) => true
  | _ => false
def othD : PyData → Bool
  | .none => false
  | .tuple _ => false
  | _ => true
def sortOk (ds : List PyData) : Bool := (ds.all fun x => ds.all fun y => PySem.W.alike x y) && ((ds.all tupD || ds.all othD) && ds.all fun d => decide (d.depth ≤ 50))
theorem sortOk_iff {ds : List PyData} : sortOk ds = true ↔ PySem.W.AllAlike ds ∧ PySem.W.Sortable ds ∧ ∀ d ∈ ds, d.depth ≤ 50 := by
  unfold sortOk PySem.W.AllAlike PySem.W.Sortable
  simp only [Bool.and_eq_true, Bool.or_eq_true, List.all_eq_true, decide_eq_true_eq]
  refine and_congr Iff.rfl (and_congr (or_congr ?_ ?_) Iff.rfl)
  · refine forall_congr' fun d => imp_congr_right fun _ => ?_
    cases d with
    | tuple l =>
      cases l with
      | nil => simp [tupD]
      | cons a l => simp [tupD]
    | _ => simp [tupD]
  · refine forall_congr' fun d => imp_congr_right fun _ => ?_
    cases d <;> simp [othD]
/-- sorted(xs): the pairs (value, datum), by the data -/
def rSortD (K : PySem.W.Frag) : List V → Hp → VK → Prop := fun vs H Q => ∃ (a : Addr) (bs : List (V × PyData)), vs = [V.ref a] ∧ SqL K H a (bs.map Prod.fst) ∧ (∀ b ∈ bs, Dp K H b.1 b.2) ∧ sortOk (bs.map Prod.snd) = true ∧
  ∀ p, H p = none → Q (.ref p) (upd H p (.lst ((bs.mergeSort (PySem.W.dataLe false Prod.snd)).map Prod.fst)))
theorem each_vals : ∀ {bs : List (V × PyData)} {its : List Value}, Vals (bs.map Prod.fst) its → PySem.W.EachIs (fun u (b : V × PyData) => RelV b.1 u) its bs
  | [], _, h => by
    cases h
    exact .nil
  | b :: bs, _, h => by
    cases h with
    | cons h1 h2 => exact .cons h1 (each_vals h2)
theorem vals_each : ∀ {bs : List (V × PyData)} {its : List Value}, PySem.W.EachIs (fun u (b : V × PyData) => RelV b.1 u) its bs → Vals (bs.map Prod.fst) its
  | _, _, .nil => .nil
  | _, _, .cons h1 h2 => .cons h1 (vals_each h2)
theorem each_reads {X : Cx} {pins : List (Addr × Obj)} {σ : L2.St} {H : Hp} {s : Shared} (I : Inv X pins σ H s) : ∀ {bs : List (V × PyData)} {its : List Value}, PySem.W.EachIs (fun u (b : V × PyData) => RelV b.1 u) its bs → (∀ b ∈ bs, Dp X.K H b.1 b.2) → PySem.W.EachIs (fun v (b : V × PyData) => ∃ as, Reads s.heap v b.2 as) its bs
  | _, _, .nil, _ => .nil
  | _, _, .cons (b := b) h1 h2, h => .cons (Dp.reads I b.2 b.1 _ (h b List.mem_cons_self) h1) (each_reads I h2 fun c hc => h c (List.mem_cons_of_mem _ hc))
theorem cr_sortD {X : Cx} (hu : X.A.units + 64 < cLine) : CallR X (.builtin "sorted") (rSortD X.K) := by
  intro pins s σ H vs us Q I r h
  obtain ⟨a, bs, rfl, hs, hd, ok, q⟩ := h
  obtain ⟨its, rv, hl, hz⟩ := I.list hs
  obtain ⟨u, rfl, ru⟩ := vals1 r
  obtain rfl : u = Value.ref a := ru
  obtain ⟨o1, o2, o3⟩ := sortOk_iff.mp ok
  have e := each_vals rv
  refine PySem.W.sorted_data (R := fun u (b : V × PyData) => RelV b.1 u) (enc := Prod.snd) hl.isList e (each_reads I e hd) o1 o2 (by simpa using hz) (fun b hb => ?_) fun out hlen eo => ?_
  · have := o3 b.2 (List.mem_map.mpr ⟨b, hb, rfl⟩)
    omega
  · obtain ⟨n, hn⟩ := PyProof.Rows.sortedAll_at s.heap its (List.toArray out)
    refine ⟨.ref _, upd H _ (.lst ((bs.mergeSort (PySem.W.dataLe false Prod.snd)).map Prod.fst)), I.laid (t' := s.toks) (fun b o e => PyProof.Rows.sortedAll_old e) (Nat.le_succ _) ⟨?_, out, n, vals_each eo, hn⟩, rfl, q _ (I.hok.fresh (Nat.le_succ _))⟩
    simpa using hz
def fSorted : List PyData → Option OD
  | [.list ds] => if sortOk ds = true then some (.lst (sortD ds)) else none
  | _ => none
theorem dqa_zip {K : PySem.W.Frag} {F : Hp} : ∀ {vs : List V} {ds : List PyData}, DqA K F vs ds → (vs.zip ds).map Prod.fst = vs ∧ (vs.zip ds).map Prod.snd = ds ∧ ∀ b ∈ vs.zip ds, Dq K F b.1 b.2
  | _, _, .nil => ⟨rfl, rfl, fun b hb => by cases hb⟩
  | _, _, .cons h1 h2 => by
    obtain ⟨a, b, c⟩ := dqa_zip h2
    refine ⟨by simp [a], by simp [b], fun x hx => ?_⟩
    rw [List.zip_cons_cons] at hx
    cases hx with
    | head => exact h1
    | tail _ hx => exact c x hx
theorem dqa_of {K : PySem.W.Frag} {F : Hp} : ∀ {bs : List (V × PyData)}, (∀ b ∈ bs, Dq K F b.1 b.2) → DqA K F (bs.map Prod.fst) (bs.map Prod.snd)
  | [], _ => .nil
  | b :: bs, h => .cons (h b List.mem_cons_self) (dqa_of fun c hc => h c (List.mem_cons_of_mem _ hc))
theorem sortD_map {α : Type} (f : α → PyData) (l : List α) : sortD (l.map f) = (l.mergeSort (PySem.W.dataLe false f)).map f := by
  unfold sortD
  exact (List.map_mergeSort (r := PySem.W.dataLe false f) (s := leD) (f := f) (l := l) (fun _ _ _ _ => rfl)).symm
theorem g_sorted {K : PySem.W.Frag} {cg : Str → Option Value} : CaG K cg (rSortD K) fSorted := fun F H xs as o Q e hx hf k => by
  cases hx with
  | nil => cases hf
  | @cons v vs d ds h1 h2 =>
    cases h2 with
    | cons _ _ => cases d <;> cases hf
    | nil =>
      cases d with
      | list l =>
        have hf' : (if sortOk l = true then some (OD.lst (sortD l)) else none) = some o := hf
        by_cases ok : sortOk l = true
        · rw [if_pos ok] at hf'
          cases hf'
          obtain ⟨p, ws, rfl, hp, hq⟩ := h1
          obtain ⟨z1, z2, z3⟩ := dqa_zip hq
          refine ⟨p, ws.zip l, rfl, ?_, fun b hb => (z3 b hb).dp e b.2, by rw [z2]; exact ok, fun p' hp' => ?_⟩
          · rw [z1]
            exact .inl (.inl hp)
          · refine fin_l k e hp' ?_
            have s2 := sortD_map Prod.snd (ws.zip l)
            rw [z2] at s2
            rw [s2]
            exact dqa_of fun b hb => z3 b ((List.mergeSort_perm _ _).mem_iff.mp hb)
        · rw [if_neg ok] at hf'
          cases hf'
      | _ => cases hf
end VL
/-! The value layer, part 17: plain laws of sorting. -/
namespace VL
open PySem L2
def fuL (i : Nat) (g : Gm) : Nat := match wVar i g with
  | .ok (.list ds) => ds.length + 2
  | _ => 0
theorem sorted_uniq {α : Type} {le : α → α → Bool} : ∀ {l m : List α}, l.Perm m → l.Pairwise (fun a b => le a b = true) → m.Pairwise (fun a b => le a b = true) → (∀ a ∈ l, ∀ b ∈ l, le a b = true → le b a = true → a = b) → l = m
  | [], m, p, _, _, _ => (List.Perm.nil_eq p)
  | a :: l, [], p, _, _, _ => absurd p.length_eq (by simp)
  | a :: l, b :: m, p, h1, h2, anti => by
    obtain ⟨a1, a2⟩ := List.pairwise_cons.mp h1
    obtain ⟨b1, b2⟩ := List.pairwise_cons.mp h2
    have e : a = b := by
      have ha : a ∈ b :: m := p.mem_iff.mp List.mem_cons_self
      have hb : b ∈ a :: l := p.mem_iff.mpr List.mem_cons_self
      cases ha with
      | head => rfl
      | tail _ ha =>
        cases hb with
        | head => rfl
        | tail _ hb => exact anti a List.mem_cons_self b (List.mem_cons_of_mem _ hb) (a1 b hb) (b1 a ha)
    subst e
    rw [sorted_uniq (List.Perm.cons_inv p) a2 b2 fun x hx y hy => anti x (List.mem_cons_of_mem _ hx) y (List.mem_cons_of_mem _ hy)]
theorem leD_def (x y : PyData) : leD x y = !PySem.W.dataLt y x := rfl
theorem leD_trans (a b c : PyData) (h1 : leD a b = true) (h2 : leD b c = true) : leD a c = true := by
  rw [leD_def] at *
  simp only [Bool.not_eq_true'] at *
  cases h : PySem.W.dataLt c a with
  | false => rfl
  | true =>
    rcases PyProof.Rows.lex_negTrans (O := PyProof.Rows.itemOrd) _ (PySem.W.keyToks b) _ h with h | h
    · rw [show PySem.W.dataLt c b = true from h] at h2
      cases h2
    · rw [show PySem.W.dataLt b a = true from h] at h1
      cases h1
theorem leD_total (a b : PyData) : (leD a b || leD b a) = true := by
  rw [leD_def, leD_def]
  cases h : PySem.W.dataLt b a with
  | false => rfl
  | true =>
    cases h' : PySem.W.dataLt a b with
    | false => rfl
    | true =>
      have z := PyProof.Rows.lex_trans (O := PyProof.Rows.itemOrd) _ _ _ h h'
      rw [PyProof.Rows.lex_irrefl] at z
      cases z
theorem sortD_perm (l : List PyData) : (sortD l).Perm l := List.mergeSort_perm _ _
theorem sortD_sorted (l : List PyData) : (sortD l).Pairwise (fun a b => leD a b = true) := List.pairwise_mergeSort leD_trans leD_total l
theorem sortD_uniq {l out : List PyData} (hp : out.Perm l) (hs : out.Pairwise fun a b => leD a b = true) (anti : ∀ a ∈ out, ∀ b ∈ out, leD a b = true → leD b a = true → a = b) : sortD l = out :=
  (sorted_uniq (hp.trans (sortD_perm l).symm) hs (sortD_sorted l) anti).symm
theorem leD_i (a b : Int) : leD (.int a) (.int b) = decide (a ≤ b) := congrFun (congrFun (PySem.W.dataLe_int (fun x : Int => x)) a) b
theorem leD_ii (a b c d : Int) : leD (.tuple [.int a, .int b]) (.tuple [.int c, .int d]) = decide (a < c ∨ (a = c ∧ b ≤ d)) := congrFun (congrFun (PySem.W.dataLe_ii (fun x : Int × Int => x.1) (fun x : Int × Int => x.2)) (a, b)) (c, d)
theorem leD_cons {x y : PyData} (h : PySem.W.alike x y = true) (h' : PySem.W.alike y x = true) (xs ys : List PyData) : leD (.tuple (x :: xs)) (.tuple (y :: ys)) = if PyData.eqv y x = true then leD (.tuple xs) (.tuple ys) else !PySem.W.dataLt y x := by
  rw [leD_def, PySem.W.dataLt_tuple, PySem.W.dataLt_cons h']
  split
  · rw [leD_def, PySem.W.dataLt_tuple]
  · rfl
theorem leD_int_cons (a b : Int) (xs ys : List PyData) : leD (.tuple (.int a :: xs)) (.tuple (.int b :: ys)) = if a = b then leD (.tuple xs) (.tuple ys) else decide (a < b) := by
  rw [leD_cons (by simp [PySem.W.alike]) (by simp [PySem.W.alike]), PySem.W.dataLt_int]
  by_cases e : a = b
  · subst e
    rw [if_pos (by simp [PyData.eqv]), if_pos rfl]
  · rw [if_neg (by simp [PyData.eqv]; exact fun z => e z.symm), if_neg e]
    by_cases l : a < b
    · rw [decide_eq_true l, decide_eq_false (by omega)]
      rfl
    · rw [decide_eq_false l, decide_eq_true (by omega)]
      rfl
theorem leD_nil : leD (.tuple []) (.tuple []) = true := by
  rw [leD_def, PySem.W.dataLt_tuple, PyProof.Rows.lex_irrefl]
  rfl
/-! ### what may be sorted -/
theorem sortOk_of {α : Type} {f : α → PyData} {l : List α} (h1 : ∀ a b, PySem.W.alike (f a) (f b) = true) (h2 : (∀ a, tupD (f a) = true) ∨ ∀ a, othD (f a) = true) (h3 : ∀ a, (f a).depth ≤ 50) : sortOk (l.map f) = true := by
  unfold sortOk
  simp only [Bool.and_eq_true, Bool.or_eq_true, List.all_eq_true, decide_eq_true_eq, List.mem_map]
  refine ⟨?_, ?_, ?_⟩
  · rintro x ⟨a, _, rfl⟩ y ⟨b, _, rfl⟩
    exact h1 a b
  · rcases h2 with h | h
    · exact .inl (by rintro x ⟨a, _, rfl⟩; exact h a)
    · exact .inr (by rintro x ⟨a, _, rfl⟩; exact h a)
  · rintro x ⟨a, _, rfl⟩
    exact h3 a
theorem sortOk_ints (l : List Int) : sortOk (l.map PyData.int) = true := sortOk_of (fun _ _ => by simp [PySem.W.alike]) (.inr fun _ => rfl) fun _ => by simp [PyData.depth]
def iiD (p : Int × Int) : PyData := .tuple [.int p.1, .int p.2]
theorem sortOk_ii (l : List (Int × Int)) : sortOk (l.map iiD) = true := sortOk_of (fun _ _ => by simp [iiD, PySem.W.alike, PySem.W.alikeAll]) (.inl fun _ => rfl) fun _ => by simp [iiD, PyData.depth, PyData.depthAll]
theorem fSorted_l (ds : List PyData) (h : sortOk ds = true) : fSorted [.list ds] = some (.lst (sortD ds)) := by
  show (if sortOk ds = true then some (OD.lst (sortD ds)) else none) = _
  rw [if_pos h]
def ltP (p q : Int × Int) : Bool := decide (p.1 < q.1) || (decide (p.1 = q.1) && decide (p.2 ≤ q.2))
theorem leD_P (p q : Int × Int) : leD (iiD p) (iiD q) = ltP p q := by
  unfold iiD ltP
  rw [leD_ii]
  by_cases h1 : p.1 < q.1 <;> by_cases h2 : p.1 = q.1 <;> by_cases h3 : p.2 ≤ q.2 <;> simp [h1, h2, h3]
/-- pairs of whole numbers are sorted by their order -/
theorem sortD_ii {l out : List (Int × Int)} (hp : out.Perm l) (hs : out.Pairwise fun a b => ltP a b = true) : sortD (l.map iiD) = out.map iiD := by
  refine sortD_uniq (hp.map _) (List.pairwise_map.mpr (hs.imp fun h => by rw [leD_P]; exact h)) fun a ha b hb h1 h2 => ?_
  obtain ⟨p, _, rfl⟩ := List.mem_map.mp ha
  obtain ⟨q, _, rfl⟩ := List.mem_map.mp hb
  rw [leD_P] at h1 h2
  simp [ltP] at h1 h2
  have e1 : p.1 = q.1 := by omega
  have e2 : p.2 = q.2 := by omega
  unfold iiD
  rw [e1, e2]
theorem sortD_i {l out : List Int} (hp : out.Perm l) (hs : out.Pairwise fun a b => a ≤ b) : sortD (l.map PyData.int) = out.map PyData.int := by
  refine sortD_uniq (hp.map _) (List.pairwise_map.mpr (hs.imp fun h => by rw [leD_i]; exact decide_eq_true h)) fun a ha b hb h1 h2 => ?_
  obtain ⟨p, _, rfl⟩ := List.mem_map.mp ha
  obtain ⟨q, _, rfl⟩ := List.mem_map.mp hb
  rw [leD_i] at h1 h2
  have : p = q := by
    have := of_decide_eq_true h1
    have := of_decide_eq_true h2
    omega
  rw [this]
end VL
/-! The value layer, part 18: loops over ranges, their bounds evaluated apart. -/
namespace VL
open PySem L2
noncomputable def forRA (is : List Nat) (tg : Tg) (mb : Gm → SOut) (as : List PyData) (g : Gm) : SOut :=
  match rngOf as with
  | some (lo, n) => forM is tg mb (rng lo n) (kl is g)
  | none => .stk
noncomputable def compRA (is : List Nat) (tg : Tg) (mt : Gm → Out Bool) (me : Gm → Out PyData) (as : List PyData) (g : Gm) : Out OD :=
  match rngOf as with
  | some (lo, n) => cEnd is g (cmpM is tg mt me (rng lo n) [] (kl is g))
  | none => .stk
noncomputable def forCA (is : List Nat) (tg : Tg) (mb : Gm → SOut) (as : List PyData) (g : Gm) : SOut :=
  match rngOf3 as with
  | some (lo, c, n) => forM is tg mb (rngC lo c n) (kl is g)
  | none => .stk
noncomputable def compCA (is : List Nat) (tg : Tg) (mt : Gm → Out Bool) (me : Gm → Out PyData) (as : List PyData) (g : Gm) : Out OD :=
  match rngOf3 as with
  | some (lo, c, n) => cEnd is g (cmpM is tg mt me (rngC lo c n) [] (kl is g))
  | none => .stk
section
variable {is : List Nat} {tg : Tg} {mt : Gm → Out Bool} {me : Gm → Out PyData} {ms : Gm → Out (List PyData)} {mb : Gm → SOut} {g : Gm}
theorem sForR_ok : sForR is tg ms mb g = match ms g with
    | .ok as g1 => forRA is tg mb as g1
    | .err e g1 => .err e g1
    | .stk => .stk := by
  unfold sForR forRA
  cases ms g <;> rfl
theorem oCompR_ok : oCompR is tg mt me ms g = match ms g with
    | .ok as g1 => compRA is tg mt me as g1
    | .err e g1 => .err e g1
    | .stk => .stk := by
  unfold oCompR compRA
  cases ms g <;> rfl
theorem sForC_ok : sForC is tg ms mb g = match ms g with
    | .ok as g1 => forCA is tg mb as g1
    | .err e g1 => .err e g1
    | .stk => .stk := by
  unfold sForC forCA
  cases ms g <;> rfl
theorem oCompC_ok : oCompC is tg mt me ms g = match ms g with
    | .ok as g1 => compCA is tg mt me as g1
    | .err e g1 => .err e g1
    | .stk => .stk := by
  unfold oCompC compCA
  cases ms g <;> rfl
theorem forRA_1 {n : Int} (h1 : 0 ≤ n) (h2 : n ≤ gz) : forRA is tg mb [.int n] g = forM is tg mb (rng 0 n.toNat) (kl is g) := by
  unfold forRA
  rw [rngOf_n h1 h2]
theorem forRA_n {n : Nat} (h2 : n ≤ gz) : forRA is tg mb [.int (n : Int)] g = forM is tg mb (rng 0 n) (kl is g) := by
  rw [forRA_1 (Int.natCast_nonneg n) (Int.ofNat_le.mpr h2), Int.toNat_natCast]
theorem forRA_2 {n m : Int} (h0 : -(gz : Int) ≤ n) (h1 : n ≤ gz) (h2 : -(gz : Int) ≤ m) (h3 : m ≤ gz) : forRA is tg mb [.int n, .int m] g = forM is tg mb (rng n (m - n).toNat) (kl is g) := by
  unfold forRA
  rw [rngOf_nm h0 h1 h2 h3]
theorem compRA_1 {n : Int} (h1 : 0 ≤ n) (h2 : n ≤ gz) : compRA is tg mt me [.int n] g = cEnd is g (cmpM is tg mt me (rng 0 n.toNat) [] (kl is g)) := by
  unfold compRA
  rw [rngOf_n h1 h2]
theorem compRA_n {n : Nat} (h2 : n ≤ gz) : compRA is tg mt me [.int (n : Int)] g = cEnd is g (cmpM is tg mt me (rng 0 n) [] (kl is g)) := by
  rw [compRA_1 (Int.natCast_nonneg n) (Int.ofNat_le.mpr h2), Int.toNat_natCast]
theorem compRA_2 {n m : Int} (h0 : -(gz : Int) ≤ n) (h1 : n ≤ gz) (h2 : -(gz : Int) ≤ m) (h3 : m ≤ gz) : compRA is tg mt me [.int n, .int m] g = cEnd is g (cmpM is tg mt me (rng n (m - n).toNat) [] (kl is g)) := by
  unfold compRA
  rw [rngOf_nm h0 h1 h2 h3]
end
/-- as cmp_inv, telling the items -/
theorem cmp_fold {α β : Type} {is : List Nat} {tg : Tg} {mt : Gm → Out Bool} {me : Gm → Out PyData} {enc : α → PyData} {out : α → Option PyData} {g : Gm} : ∀ (l : List α) (acc : List PyData), acc.length + l.length ≤ zl →
    (∀ a ∈ l, ∃ g1, tg (enc a) g = some g1 ∧ ((∃ y g2 g3, out a = some y ∧ mt g1 = .ok true g2 ∧ me g2 = .ok y g3 ∧ kl is g3 = g) ∨ ∃ g2, out a = none ∧ mt g1 = .ok false g2 ∧ kl is g2 = g)) →
    cmpM is tg mt me (l.map enc) acc g = .ok (acc ++ l.filterMap out) g
  | [], acc, _, _ => by simp [cmpM]
  | a :: l, acc, hz, h => by
    obtain ⟨g1, e1, e2⟩ := h a List.mem_cons_self
    rw [List.map_cons]
    unfold cmpM
    rw [e1]
    rcases e2 with ⟨y, g2, g3, o, m, e, k⟩ | ⟨g2, o, m, k⟩
    · simp only [m, e]
      rw [if_pos (by simp at hz; omega), k, cmp_fold (β := β) (out := out) l (acc ++ [y]) (by simp at hz ⊢; omega) fun b hb => h b (List.mem_cons_of_mem _ hb)]
      simp [List.filterMap_cons, o]
    · simp only [m]
      rw [k, cmp_fold (β := β) (out := out) l acc (by simp at hz ⊢; omega) fun b hb => h b (List.mem_cons_of_mem _ hb)]
      simp [List.filterMap_cons, o]
theorem forRA_0 {is : List Nat} {tg : Tg} {mb : Gm → SOut} {g : Gm} (n : Nat) (z : Int) (hz : z = (n : Int)) (h2 : n ≤ gz) : forRA is tg mb [.int z] g = forM is tg mb (rng 0 n) (kl is g) := by
  subst hz
  exact forRA_n h2
theorem compRA_0 {is : List Nat} {tg : Tg} {mt : Gm → Out Bool} {me : Gm → Out PyData} {g : Gm} (n : Nat) (z : Int) (hz : z = (n : Int)) (h2 : n ≤ gz) : compRA is tg mt me [.int z] g = cEnd is g (cmpM is tg mt me (rng 0 n) [] (kl is g)) := by
  subst hz
  exact compRA_n h2
end VL
/-! The value layer, part 19: a call that looks at what is owned and gives a plain thing. -/
namespace VL
open PySem L2
def scal : PyData → Bool
  | .none => true
  | .bool _ => true
  | .int _ => true
  | .str _ => true
  | _ => false
theorem scal_dq {K : PySem.W.Frag} {F F' : Hp} {v : V} {d : PyData} (h : Dq K F v d) (s : scal d = true) : Dq K F' v d := by
  cases h with
  | non => exact .non
  | bl b => exact .bl b
  | int i => exact .int i
  | str x => exact .str x
  | lst _ _ => cases s
  | tup _ _ => cases s
def oCallT (n : Nat) (m : List OD → FOut) (ml : Gm → Out (List Ar)) (g : Gm) : Out OD := (ml g).bind fun as g1 => match osOf g1 as with
  | none => .stk
  | some os => match frzAll os with
    | none => .stk
    | some ds => if (lends as).Nodup ∧ as.length = n then match m (ds.map OD.dat) with
      | .ok (.dat d) _ => if scal d = true then .ok (.dat d) g1 else .stk
      | .ok _ _ => .stk
      | .err e _ => if e.xs.isEmpty = true then .err e g1 else .stk
      | .stk => .stk
      else .stk
section
variable {K : PySem.W.Frag} {cg : Cg} {W : WX} {pvs : Pv} {g : Gm} {σ : L2.St} {S S1 S' A : Addr → Prop} {F F1 F' H H1 H' : Hp}
theorem more_keep (e : Same F H) : Same F (more F H A) := fun p u h => by
  by_cases hp : A p
  · rw [more_in hp]
    exact e p u h
  · rw [more_out hp]
    exact h
theorem more_fh (e : Same F H) : Same (more F H A) H := fun p u h => by
  by_cases hp : A p
  · rw [more_in hp] at h
    exact h
  · rw [more_out hp] at h
    exact e p u h
theorem OwA.frz {vs : List V} {os : List OD} {ds : List PyData} (e : Same F H) (h : OwA K cg F H vs os A) (hd : frzAll os = some ds) : OwA K cg (more F H A) H vs (ds.map OD.dat) (fun _ => False) := by
  obtain ⟨hl, L, h1, h2, h3, h4⟩ := h
  refine ⟨by rw [List.length_map, frzAll_len hd]; exact hl, fun _ _ => False, fun i v o e1 e2 => ?_, fun _ _ _ _ z => z.elim, fun _ _ _ z => z, fun q => ⟨fun z => z.elim, fun ⟨_, z⟩ => z⟩⟩
  have hi : i < os.length := by
    have := (List.getElem?_eq_some_iff.mp e1).1
    omega
  obtain ⟨d, f1, f2⟩ := frzAll_get hd (List.getElem?_eq_getElem hi)
  rw [List.getElem?_map, f2] at e2
  cases e2
  refine .dat ?_ fun _ z => z
  exact (h1 i v _ e1 (List.getElem?_eq_getElem hi)).freeze f1 (more_keep e) fun p hp => more_in ((h4 p).mpr ⟨i, hp⟩)
theorem ro_callT {n : Nat} {t : TA} {m : List OD → FOut} {ml : Gm → Out (List Ar)} (h : RL K cg W t ml) : RO K cg W (tCallS (spL K cg n m) (WE W) t) (oCallT n m ml) := fun pvs g σ S F H Q r q => by
  refine h pvs g σ S F H _ r ?_
  unfold oCallT at q
  cases e : ml g with
  | err e' g1 =>
    rw [e] at q
    exact q
  | stk =>
    rw [e] at q
    exact q.elim
  | ok as g1 =>
    rw [e] at q
    intro vs S1 F1 H1 s1 r1 d1
    simp only [Out.bind] at q
    have q := PoO.st q s1
    cases e1 : osOf g1 as with
    | none =>
      simp only [e1] at q
      exact q.elim
    | some os =>
      simp only [e1] at q
      cases e2 : frzAll os with
      | none =>
        simp only [e2] at q
        exact q.elim
      | some ds =>
        simp only [e2] at q
        split at q
        · rename_i hnd
          obtain ⟨A, S2, owA, hS, hd, back⟩ := r1.lend d1 hnd.1 e1
          have keepR : ∀ {A' : Addr → Prop} {F' H' : Hp}, Stp (fun _ => False) (more F1 H1 A) H1 A' F' H' → Rel K cg pvs g1 σ S1 F1 H' ∧ Stp S1 F1 H1 S1 F1 H' := fun {A' F' H'} st => by
            have fh : Same F1 H' := fun p u z => st.keep p u id (r1.fh p u z)
            refine ⟨r1.mo (fun _ _ z => z) (fun p hp => ?_) (fun p hp => (r1.at hp).1) fh, fun p u _ z => st.keep p u id z, fun _ _ z => z, fun p u z => .inl ⟨_, z⟩, fun _ z => .inl z, fh⟩
            obtain ⟨_, u, eu⟩ := r1.at hp
            rw [eu, st.keep p u id eu]
          refine ⟨d1.get.1.trans hnd.2, ds.map OD.dat, fun _ => False, more F1 H1 A, more_fh r1.fh, OwA.frz r1.fh owA e2, ?_⟩
          cases e3 : m (ds.map OD.dat) with
          | stk =>
            simp only [e3] at q
            exact q.elim
          | ok o os' =>
            cases o with
            | dat d =>
              simp only [e3] at q
              by_cases sd : scal d = true
              · simp only [sd, if_true] at q
                intro v B A' F' H' st ow ow' dj
                obtain ⟨r2, s2⟩ := keepR st
                cases ow with
                | dat hd1 _ => exact PoO.dat q s2 r2 (scal_dq hd1 sd)
              · simp only [sd] at q
                exact q.elim
            | _ =>
              simp only [e3] at q
              exact q.elim
          | err e' os' =>
            simp only [e3] at q
            cases ex : e'.xs with
            | cons z zs =>
              simp only [ex, List.isEmpty_cons] at q
              exact q.elim
            | nil =>
              simp only [ex, List.isEmpty_nil, if_true] at q
              intro C dop A' F' H' st ow' hc hx
              obtain ⟨r2, s2⟩ := keepR st
              refine q C dop S1 F1 H' s2 r2 hc ?_
              unfold XOk at hx ⊢
              rw [ex] at hx ⊢
              exact hx
        · exact q.elim
end
section
variable {X : Cx} {W : Wz} {e : Expr} {es : List Expr} {pos p : Pos} {x : Str} {k j : Nat} {ps : List Str} {m : List OD → FOut}
theorem do_fkT {n : Nat} {ml : Gm → Out (List Ar)} (F : FK X.prog X.w X.K X.mg X.base k x ps m) (hr : Room j X.A) (hk : k ≤ j) (tk : Takes X W.x) (ha : DL X W (e :: es) ml)
    (hg : Gl X x := by rfl) (hdb : (x == ("__debug__" : Str)) = false := by decide) (he : starEach (e :: es) X.env = (false, eval e X.env) :: starEach es X.env := by rfl) (hpl : (backTo pos (starEach es X.env)).any (·.1) = false := by rfl) (hn : ps.length = n := by rfl) :
    DO X W (.Call (.Name x p) (e :: es) [] pos) (oCallT n m ml) := by
  subst hn
  obtain ⟨f, fd, F, g, kp, b⟩ := F
  obtain ⟨_, h1, h2⟩ := ha
  exact ⟨_, pe_callS F (hr.mono hk) hg g kp b (fun σ => passAt tk σ) h1 hdb he hpl, ro_callT h2⟩
end
end VL
/-! The value layer, part 20: a comprehension over a list that is owned and stays; - x without effects. -/
namespace VL
open PySem L2
section
variable {K : PySem.W.Frag} {cg : Cg} {W : WX} {pvs : Pv} {g : Gm} {σ : L2.St} {S S1 S' A : Addr → Prop} {F F1 F' H H1 H' : Hp}
theorem rr_neg {t : TE} {m : Gm → Res PyData} (h : RW K cg W t m) : RR K cg W (tUn (rU fun i => .int (-i)) t) (rNeg m) := fun pvs g σ S F H Q r q => by
  unfold rNeg at q
  refine h pvs g σ S F H _ r ?_
  cases e : m g with
  | ok d =>
    rw [e] at q
    intro v F1 H1 s1 d1
    cases d with
    | int i =>
      cases d1.int
      exact ⟨i, rfl, q _ (fun _ => False) F1 H1 s1 (.dat (.int _) fun _ z => z) fun _ z => z.elim⟩
    | _ => exact q.elim
  | err e' =>
    rw [e] at q
    exact q
  | stk =>
    rw [e] at q
    exact q.elim
noncomputable def cmpW (is : List Nat) (tg : Tg) (mt : Gm → Out Bool) (me : Gm → Out PyData) (i : Nat) (ds0 : List PyData) : List PyData → List PyData → Gm → Out (List PyData)
  | [], acc, g => cIf ((gt g i).od = some (.lst ds0)) (.ok acc g) .stk
  | d :: ds, acc, g => cIf ((gt g i).od = some (.lst ds0)) (match cmpM is tg mt me [d] acc g with
    | .ok acc' g' => cmpW is tg mt me i ds0 ds acc' g'
    | _ => .stk) .stk
noncomputable def oCompW (is : List Nat) (tg : Tg) (mt : Gm → Out Bool) (me : Gm → Out PyData) (i : Nat) (g : Gm) : Out OD :=
  match (gt g i).od with
  | some (.lst ds) => cEnd is g (cmpW is tg mt me i ds ds [] (VL.kl is g))
  | some (.dat (.list ds)) => cEnd is g (cmpM is tg mt me ds [] (VL.kl is g))
  | _ => .stk
theorem cmpW_no {is : List Nat} {tg : Tg} {mt : Gm → Out Bool} {me : Gm → Out PyData} {i : Nat} {ds0 : List PyData} : ∀ (ds acc : List PyData) (g : Gm) (acc' : List PyData) (g' : Gm), cmpW is tg mt me i ds0 ds acc (VL.kl is g) = .ok acc' g' → ∃ g2, g' = VL.kl is g2
  | [], acc, g, acc', g', h => by
    unfold cmpW cIf at h
    split at h
    · cases h
      exact ⟨g, rfl⟩
    · cases h
  | d :: ds, acc, g, acc', g', h => by
    unfold cmpW cIf at h
    split at h
    · cases e : cmpM is tg mt me [d] acc (VL.kl is g) with
      | ok a1 g1 =>
        rw [e] at h
        obtain ⟨g2, rfl⟩ := cmp_no _ _ _ _ _ e
        exact cmpW_no ds a1 g2 acc' g' h
      | err e' g1 =>
        rw [e] at h
        cases h
      | stk =>
        rw [e] at h
        cases h
    · cases h
theorem ro_compW {tg : TG} {tt : TT} {te : TE} {m : Tg} {me : Gm → Out PyData} {mt : Gm → Out Bool} {is ts : List Nat} {i : Nat} (hg : RG K cg ts tg m) (ht : RT K cg W0 tt mt) (he : RV K cg W0 te me) (hts : ∀ j ∈ ts, j ∈ is) (hnd : is.Nodup) (hi : i ∉ is) :
    RO K cg W (tLc (iList K (tVar i)) tg tt te is) (oCompW is m mt me i) := fun pvs g σ S F H Q r q => by
  unfold oCompW at q
  cases eo : (gt g i).od with
  | none =>
    rw [eo] at q
    exact q.elim
  | some o =>
    rw [eo] at q
    cases o with
    | dat d =>
      cases d with
      | list ds =>
        refine ro_compL (W := W) (ms := vP (pVar i)) (rp_var i).v hg ht he hts hnd pvs g σ S F H Q r ?_
        have e : vP (pVar i) g = .ok (.list ds) g := by
          unfold vP pVar up
          cases eg : gt g i with
          | no =>
            rw [eg] at eo
            cases eo
          | v o =>
            rw [eg] at eo
            cases eo
            rfl
          | pin o =>
            rw [eg] at eo
            cases eo
            rfl
          | al _ _ =>
            rw [eg] at eo
            cases eo
          | xc =>
            rw [eg] at eo
            cases eo
        unfold oComp
        rw [e]
        exact q
      | _ => exact q.elim
    | lst ds =>
      simp only at q
      obtain ⟨w, hw⟩ := r.slot eo
      obtain ⟨a, vs, rfl, hH, hD, _⟩ := r.relst eo hw
      refine ⟨_, hw, a, rfl, ⟨vs, .of hH⟩, fun L hL => ?_⟩
      obtain ⟨Sk, rk, hk⟩ := r.kl is
      have u := pst_own (o := .lst []) r.fh hL
      have q2 := cmp_end hnd r (fun acc g' ex => cmpW_no _ _ _ _ _ ex) q hL
      have b0 : Stp (fun p => S p ∨ p = L) F (upd H L (.lst [])) (fun p => Sk p ∨ p = L) F (upd H L (.lst [])) := (Stp.refl u.fh).sub fun p hp => hp.imp (hk p) id
      have nSk : ¬ Sk L := fun z => by
        obtain ⟨_, w, ew⟩ := r.at (hk L z)
        rw [hL] at ew
        cases ew
      have hwi : (L2.wipe σ is)[i]? = some (some (.ref a)) := by
        rw [wipe_get, if_neg hi]
        exact hw
      let Wn : Nat → Nat → Hp → Prop := fun j n H' => n = ds.length - j ∧ ∃ g' S' F' vs' acc, Rel K cg pvs (VL.kl is g') (L2.wipe σ is) S' F' H' ∧ H' L = some (.lst vs') ∧ F' L = none ∧ ¬ S' L ∧ DqA K F' vs' acc ∧ PoC K cg pvs (L2.wipe σ is) L S' F' H' (Q (.ref L)) (cmpW is m mt me i ds (ds.drop j) acc (VL.kl is g')) fun _ => True
      refine ⟨Wn, ⟨_, rfl, g, Sk, F, [], [], (rk.pst u).wipe, upd_same, r.fh.free hL, nSk, .nil, PoC.st q2 b0⟩, ?_⟩
      rintro j n H' ⟨hn, g', S', F', vs', acc, r', a1, a2, a3, a4, q'⟩
      have chk : (gt (VL.kl is g') i).od = some (.lst ds) := by
        cases ed : ds.drop j with
        | nil =>
          rw [ed] at q'
          unfold cmpW cIf at q'
          split at q'
          · assumption
          · exact q'.elim
        | cons d rest =>
          rw [ed] at q'
          unfold cmpW cIf at q'
          split at q'
          · assumption
          · exact q'.elim
      obtain ⟨w2, hw2⟩ := r'.slot chk
      rw [hwi] at hw2
      cases hw2
      obtain ⟨a', vs2, e2, hH2, hD2, _⟩ := r'.relst chk hwi
      cases e2
      have hl2 := dpa_len hD2
      by_cases hj : j < ds.length
      · right
        have ed : ds.drop j = ds[j] :: ds.drop (j + 1) := List.drop_eq_getElem_cons hj
        have ej : vs2[j]? = some (vs2[j]'(by omega)) := List.getElem?_eq_getElem (by omega)
        refine ⟨⟨vs2, _, .of hH2, ej⟩, fun H2 => ∃ n', n' < n ∧ Wn (j + 1) n' H2, fun H2 z => z, ?_⟩
        rintro x H2 ⟨rfl, hx⟩
        have hx := hx vs2 (.of hH2)
        obtain ⟨d, gd, hd⟩ := dpa_get hD2 hx
        have e3 : d = ds[j] := by
          rw [List.getElem?_eq_getElem hj] at gd
          cases gd
          rfl
        subst e3
        rw [ed] at q'
        unfold cmpW at q'
        rw [cIf_pos chk] at q'
        have qs : PoC K cg pvs (L2.wipe σ is) L S' F' H2 (fun H3 => ∃ n', n' < n ∧ Wn (j + 1) n' H3) (cmpM is m mt me [ds[j]] acc (VL.kl is g')) fun _ => True := by
          cases ec : cmpM is m mt me [ds[j]] acc (VL.kl is g') with
          | err e' g1 =>
            rw [ec] at q'
            exact q'.elim
          | stk =>
            rw [ec] at q'
            exact q'.elim
          | ok acc1 g1 =>
            obtain ⟨g2, rfl⟩ := cmp_no _ _ _ _ _ ec
            rw [ec] at q'
            refine ⟨trivial, fun S3 F3 H3 vs3 b3 r3 c1 c2 c3 c4 => ?_⟩
            exact ⟨ds.length - (j + 1), by omega, rfl, g2, S3, F3, vs3, acc1, r3, c1, c2, c3, c4, PoC.st q' b3⟩
        exact cmp_turn hg hts ht he r' a1 a2 a3 a4 hd qs fun g2 S2 F2 H3 vs3 acc2 b2 r2 c1 c2 c3 c4 q3 => q3.2 S2 F2 H3 vs3 (.refl r2.fh) r2 c1 c2 c3 c4
      · left
        refine ⟨⟨vs2, .of hH2, by omega⟩, ?_⟩
        rw [List.drop_of_length_le (by omega)] at q'
        unfold cmpW at q'
        rw [cIf_pos chk] at q'
        exact q'.2 S' F' H' vs' (.refl r'.fh) r' a1 a2 a3 a4
    | _ => exact q.elim
end
section
variable {X : Cx} {W : Wz} {elt tg a : Expr} {ifs : List Expr} {scope : Scope} {pos p2 : Pos} {n : Tg} {ts : List Nat} {mt : Gm → Out Bool} {me : Gm → Out PyData} {x : Str}
theorem dr_neg {m : Gm → Res PyData} (h : DW X W a m) : DR X W (.UnaryOp .USub a pos) (rNeg m) := let ⟨_, h1, h2⟩ := h; ⟨_, pe_un un_neg h1, rr_neg h2⟩
theorem dc_compW (own : List (Str × Nat)) (hN : X.N.Nodup) (i : Nat) (ok : BlkOk X.N X.env.scope scope own) (hg : Blk X scope fun X' => DG X' (w0 W) ts tg n) (ht : Blk X scope fun X' => DTs X' (w0 W) ifs mt) (he : Blk X scope fun X' => DV X' (w0 W) elt me)
    (hi : X.N[i]? = some x := by rfl) (hv : Vis X.env.scope x := by first | exact Or.inl rfl | exact Or.inr (Or.inl rfl) | exact Or.inr (Or.inr rfl)) (hd : (x == ("__debug__" : Str)) = false := by decide) (hcd : (x == ("__classdict__" : Str)) = false := by decide) (hno : i ∉ own.map (·.2) := by decide)
    (hts : ∀ j ∈ ts, j ∈ own.map (·.2) := by decide) (hnd : (own.map (·.2)).Nodup := by decide) (hc : X.calm = true := by rfl) (hs : ∀ y, foldedSetIterable (.Name x p2) X.env y = pure y := by intro _; rfl) :
    DC X W (.ListComp elt [⟨tg, .Name x p2, ifs, 0⟩] scope pos) (oCompW (own.map (·.2)) n mt me i) :=
  dc_mk hc hN (pi_list (pv i hi hv hd hcd)) ok (fun s H C cl fp => (hg s H C cl fp).pg) (fun s H C cl fp => show PTs _ _ (cT X.K (cgX X W) W0 mt) from ht s H C cl fp) (fun s H C cl fp => (he s H C cl fp).pe) hs (ro_compW rg_c rt_c rv_c hts hnd hno)
end
/-- as cmp_fold, over what is owned -/
theorem cmpW_fold {α : Type} {is : List Nat} {tg : Tg} {mt : Gm → Out Bool} {me : Gm → Out PyData} {i : Nat} {enc : α → PyData} {out : α → Option PyData} {g : Gm} (l : List α) (hc : (gt g i).od = some (.lst (l.map enc))) (hz : l.length ≤ zl)
    (h : ∀ a ∈ l, ∃ g1, tg (enc a) g = some g1 ∧ ((∃ y g2 g3, out a = some y ∧ mt g1 = .ok true g2 ∧ me g2 = .ok y g3 ∧ kl is g3 = g) ∨ ∃ g2, out a = none ∧ mt g1 = .ok false g2 ∧ kl is g2 = g)) :
    cmpW is tg mt me i (l.map enc) (l.map enc) [] g = .ok (l.filterMap out) g := by
  have key : ∀ (l' : List α) (acc : List PyData), (∀ a ∈ l', a ∈ l) → acc.length + l'.length ≤ zl → cmpW is tg mt me i (l.map enc) (l'.map enc) acc g = .ok (acc ++ l'.filterMap out) g := by
    intro l'
    induction l' with
    | nil =>
      intro acc _ _
      rw [List.map_nil]
      unfold cmpW
      rw [cIf_pos hc]
      simp
    | cons a l' ih =>
      intro acc hm hz
      have c1 := cmp_fold (β := Unit) (is := is) (tg := tg) (mt := mt) (me := me) (enc := enc) (out := out) (g := g) [a] acc (by simp at hz ⊢; omega) fun b hb => by
        have : b = a := by simpa using hb
        subst this
        exact h b (hm b List.mem_cons_self)
      rw [List.map_cons]
      unfold cmpW
      rw [cIf_pos hc]
      have c1 : cmpM is tg mt me [enc a] acc g = .ok (acc ++ [a].filterMap out) g := c1
      rw [c1]
      have hl : ([a].filterMap out).length ≤ 1 := by
        have := List.length_filterMap_le out [a]
        simpa using this
      have r := ih (acc ++ [a].filterMap out) (fun b hb => hm b (List.mem_cons_of_mem _ hb)) (by simp at hz ⊢; omega)
      show cmpW is tg mt me i (l.map enc) (l'.map enc) (acc ++ [a].filterMap out) g = _
      rw [r]
      simp only [List.append_assoc]
      congr 2
      cases o : out a <;> simp [List.filterMap_cons, o]
  have r := key l [] (fun _ h => h) (by simpa using hz)
  rw [List.nil_append] at r
  exact r
end VL
/-! The value layer, part 21: methods of data that change nothing. -/
namespace VL
open PySem L2
def MeG (K : PySem.W.Frag) (cg : Str → Option Value) (T : String) (r : V → List V → Hp → VK → Prop) (f : PyData → List PyData → Option OD) : Prop :=
  (∀ (F H : Hp) (x : V) (d : PyData), Same F H → Dq K F x d → (∃ as o, f d as = some o) → tyV K T x H) ∧
  ∀ (F H : Hp) (x : V) (xs : List V) (d : PyData) (as : List PyData) (o : OD) (Q : VK), Same F H → Dq K F x d → DqA K F xs as → f d as = some o → (∀ v A F' H', Pst F H F' H' → Ow K cg F' H' v o A → (∀ q, A q → H q = none) → Q v H') → r x xs H Q
/-- the receiver may be asked for such a method -/
noncomputable def oMeth (f : PyData → List PyData → Option OD) (me : Gm → Out PyData) (ma : Gm → Out (List PyData)) (g : Gm) : Out OD := (me g).bind fun d g1 => cIf (∃ as o, f d as = some o) ((ma g1).bind fun as g2 => .of (f d as) g2) .stk
section
variable {K : PySem.W.Frag} {cg : Cg} {W : WX} {pvs : Pv} {g : Gm} {σ : L2.St} {S S1 S' A : Addr → Prop} {F F1 F' H H1 H' : Hp}
theorem ro_meth {T : String} {r : V → List V → Hp → VK → Prop} {f : PyData → List PyData → Option OD} {te : TE} {ta : TA} {me : Gm → Out PyData} {ma : Gm → Out (List PyData)} (hf : MeG K cg T r f) (he : RV K cg W te me) (ha : RA K cg W ta ma) : RO K cg W (tBM K T r te ta) (oMeth f me ma) := fun pvs g σ S F H Q rl q => by
  unfold oMeth at q
  refine he pvs g σ S F H _ rl ?_
  cases e : me g with
  | err e' g1 =>
    rw [e] at q
    exact q
  | stk =>
    rw [e] at q
    exact q.elim
  | ok d g1 =>
    rw [e] at q
    intro v S1 F1 H1 s1 r1 d1
    simp only [Out.bind] at q
    have q := PoO.st q s1
    by_cases hx : ∃ as o, f d as = some o
    · rw [cIf_pos hx] at q
      refine ⟨hf.1 F1 H1 v d r1.fh d1 hx, ?_⟩
      refine ha pvs g1 σ S1 F1 H1 _ r1 ?_
      cases e1 : ma g1 with
      | err e' g2 =>
        rw [e1] at q
        exact q
      | stk =>
        rw [e1] at q
        exact q.elim
      | ok as g2 =>
        rw [e1] at q
        intro xs S2 F2 H2 s2 r2 d2
        simp only [Out.bind] at q
        have q := PoO.st q s2
        cases e2 : f d as with
        | none =>
          rw [e2] at q
          exact q.elim
        | some o =>
          rw [e2] at q
          refine hf.2 F2 H2 v xs d as o Q r2.fh (dp_mo d1 s2.fr) d2 e2 fun v' A F' H' ps ow fr => ?_
          exact q v' A S2 F' H' (ps.stpA fr) (r2.pst ps) ow (r2.apart fr)
    · rw [cIf_neg hx] at q
      exact q.elim
end
section
variable {X : Cx} {W : Wz} {o e : Expr} {es : List Expr} {name : Str} {apos cpos : Pos} {T id : String} {r : V → List V → Hp → VK → Prop} {f : PyData → List PyData → Option OD} {me : Gm → Out PyData} {ma : Gm → Out (List PyData)}
theorem do_meth (pa : PlainAttrs T) (slot : Slot T name id) (hty : typeOf (.builtin id) = pure (.type "method_descriptor")) (hm : MtR X id r) (hf : MeG X.K X.mg T r f) (ho : DV X W o me) (ha : DA X W (e :: es) ma)
    (hbase : attributeBase o name X.env (eval o X.env) = eval o X.env := by rfl)
    (hfew : ((backTo cpos (starEach (e :: es) X.env)).all (fun x => !x.1) && (backToKw cpos (keywordEach [] X.env)).all (fun x => x.1.isSome)
      && decide ((e :: es).length + ([] : List Keyword).length + (if ([] : List Keyword).isEmpty then 0 else 1) < 30)) = true := by rfl)
    (hline : (apos.endLine == cpos.line) = true := by rfl) (hs : starEach (e :: es) X.env = (false, eval e X.env) :: starEach es X.env := by rfl) (hplain : (backTo cpos (starEach es X.env)).any (·.1) = false := by rfl) :
    DO X W (.Call (.Attribute o name apos) (e :: es) [] cpos) (oMeth f me ma) :=
  let ⟨_, o1, o2⟩ := ho; let ⟨_, a1, a2⟩ := ha; ⟨_, pe_bm pa slot hty hm o1 a1 hbase hfew hline hs hplain, ro_meth (cg := cgX X W) hf o2 a2⟩
end
theorem tru_n : tru .none = some false := rfl
theorem tru_i (i : Int) : tru (.int i) = some (i != 0) := rfl
theorem tru_b (i : Bool) : tru (.bool i) = some i := rfl
theorem tru_t (ds : List PyData) : tru (.tuple ds) = some (!ds.isEmpty) := rfl
theorem tru_l (ds : List PyData) : tru (.list ds) = some (!ds.isEmpty) := rfl
/-! ### l.index(x) -/
def fIndex : PyData → List PyData → Option OD
  | .list ds, [d] => if SeqAt.shaped (.list ds) = true ∧ SeqAt.shaped d = true then (match ds.findIdx? fun z => PyData.eqv z d with
    | some j => oi (j : Nat)
    | none => none) else none
  | _, _ => none
theorem g_index {K : PySem.W.Frag} {cg : Str → Option Value} : MeG K cg "list" (rIndexD K) fIndex := by
  refine ⟨fun F H x d e hd ⟨as, o, h⟩ => ?_, fun F H x xs d as o Q e hd ha hf k => ?_⟩
  · cases hd with
    | lst h1 h2 => exact .inl ⟨rfl, _, .of (e _ _ h1)⟩
    | _ => cases h
  · cases hd with
    | lst h1 h2 =>
      rename_i a vs ds
      cases ha with
      | nil => cases hf
      | @cons y ys d' ds' hy hys =>
        cases hys with
        | cons _ _ => cases hf
        | nil =>
          have hf : (if SeqAt.shaped (.list ds) = true ∧ SeqAt.shaped d' = true then (match ds.findIdx? fun z => PyData.eqv z d' with
            | some j => oi (j : Nat)
            | none => none) else none) = some o := hf
          by_cases hs : SeqAt.shaped (.list ds) = true ∧ SeqAt.shaped d' = true
          · rw [if_pos hs] at hf
            cases ej : ds.findIdx? fun z => PyData.eqv z d' with
            | none =>
              rw [ej] at hf
              cases hf
            | some j =>
              rw [ej] at hf
              cases hf
              obtain ⟨hj, hz, hno⟩ := List.findIdx?_eq_some_iff_getElem.mp ej
              refine ⟨a, y, d', ds, j, ds[j], rfl, rfl, (Dq.lst h1 h2 : Dq K F (.ref a) (.list ds)).dp e _, hy.dp e d', hs.1, hs.2, List.getElem?_eq_getElem hj, hz, fun m z' hm hz' => ?_, fin_s k e (.int _)⟩
              have := hno m hm
              rw [List.getElem?_eq_getElem (by omega)] at hz'
              cases hz'
              simpa using this
          · rw [if_neg hs] at hf
            cases hf
    | _ => cases hf
end VL
/-! The value layer, part 22: dicts whose keys are tuples. -/
namespace VL
open PySem L2
/-! ### keys -/
def keyOf : PyData → Option Key
  | .int i => some (.inl i)
  | .str x => some (.inr x)
  | _ => none
def keysOf : List PyData → Option (List Key)
  | [] => some []
  | d :: ds => match keyOf d, keysOf ds with
    | some k, some ks => some (k :: ks)
    | _, _ => none
theorem keys_dq {K : PySem.W.Frag} {F : Hp} : ∀ {ds : List PyData} {ks : List Key} {vs : List V}, keysOf ds = some ks → DqA K F vs ds → vs = ks.map kV ∧ ds = ks.map kD
  | [], _, _, h, .nil => by
    cases h
    exact ⟨rfl, rfl⟩
  | d :: ds, ks, _, h, .cons h1 h2 => by
    unfold keysOf at h
    cases e1 : keyOf d with
    | none =>
      rw [e1] at h
      cases h
    | some k =>
      cases e2 : keysOf ds with
      | none =>
        rw [e1, e2] at h
        cases h
      | some ks' =>
        rw [e1, e2] at h
        cases h
        obtain ⟨a, b⟩ := keys_dq e2 h2
        cases h1 <;> cases e1
        · exact ⟨by rw [a]; rfl, by rw [b]; rfl⟩
        · exact ⟨by rw [a]; rfl, by rw [b]; rfl⟩
/-! ### tables -/
section
variable {κ : Type} [DecidableEq κ]
def valD (kvs : List (κ × PyData)) (k : κ) : Option PyData := (kvs.find? fun kv => decide (kv.1 = k)).map (·.2)
def putD (kvs : List (κ × PyData)) (k : κ) (v : PyData) : List (κ × PyData) :=
  if (kvs.any fun kv => decide (kv.1 = k)) = true then kvs.map (fun kv => if kv.1 = k then (kv.1, v) else kv) else kvs ++ [(k, v)]
abbrev KD (K : PySem.W.Frag) (F : Hp) : List (κ × V) → List (κ × PyData) → Prop := Paired fun p q => p.1 = q.1 ∧ Dq K F p.2 q.2
variable {K : PySem.W.Frag} {F F' : Hp}
theorem kd_of : ∀ {ks : List κ} {vs : List V} {ds : List PyData}, DqA K F vs ds → KD K F (ks.zip vs) (ks.zip ds)
  | [], _, _, _ => by simpa using Paired.nil
  | _ :: _, _, _, .nil => .nil
  | k :: ks, _, _, .cons h1 h2 => .cons ⟨rfl, h1⟩ (kd_of h2)
theorem kd_to : ∀ {kvs : List (κ × V)} {kds : List (κ × PyData)}, KD K F kvs kds → ∃ (ks : List κ) (vs : List V) (ds : List PyData), kvs = ks.zip vs ∧ kds = ks.zip ds ∧ ks.length = ds.length ∧ DqA K F vs ds
  | _, _, .nil => ⟨[], [], [], rfl, rfl, rfl, .nil⟩
  | _, _, .cons (a := p) (b := q) h t => by
    obtain ⟨ks, vs, ds, e1, e2, e3, e4⟩ := kd_to t
    obtain ⟨a, v⟩ := p
    obtain ⟨b, d⟩ := q
    obtain ⟨h1, h2⟩ := h
    have h1 : a = b := h1
    subst h1
    exact ⟨a :: ks, v :: vs, d :: ds, by rw [e1]; rfl, by rw [e2]; rfl, by simp [e3], .cons h2 e4⟩
theorem KD.mo {kvs : List (κ × V)} {kds : List (κ × PyData)} (h : KD K F kvs kds) (e : Same F F') : KD K F' kvs kds := by
  induction h with
  | nil => exact .nil
  | cons h t ih => exact .cons ⟨h.1, dp_mo h.2 e⟩ ih
theorem KD.val {kvs : List (κ × V)} {kds : List (κ × PyData)} (h : KD K F kvs kds) (k : κ) : (valV kvs k = none ∧ valD kds k = none) ∨ ∃ v d, valV kvs k = some v ∧ valD kds k = some d ∧ Dq K F v d := by
  induction h with
  | nil => exact .inl ⟨rfl, rfl⟩
  | @cons p q ps qs h t ih =>
    by_cases e : p.1 = k
    · have e' : q.1 = k := h.1.symm.trans e
      exact .inr ⟨p.2, q.2, valV_pos e, by simp [valD, e'], h.2⟩
    · have e' : ¬ q.1 = k := fun z => e (h.1.trans z)
      have a : valD (q :: qs) k = valD qs k := by simp [valD, e']
      rw [valV_neg e, a]
      exact ih
theorem KD.any {kvs : List (κ × V)} {kds : List (κ × PyData)} (h : KD K F kvs kds) (k : κ) : (kvs.any fun kv => decide (kv.1 = k)) = kds.any fun kv => decide (kv.1 = k) := by
  induction h with
  | nil => rfl
  | @cons p q ps qs h t ih => rw [List.any_cons, List.any_cons, ih, h.1]
theorem KD.len {kvs : List (κ × V)} {kds : List (κ × PyData)} (h : KD K F kvs kds) : kvs.length = kds.length := Paired.length h
theorem KD.repl {kvs : List (κ × V)} {kds : List (κ × PyData)} (h : KD K F kvs kds) (k : κ) {v : V} {d : PyData} (hd : Dq K F v d) : KD K F (kvs.map fun kv => if kv.1 = k then (kv.1, v) else kv) (kds.map fun kv => if kv.1 = k then (kv.1, d) else kv) := by
  induction h with
  | nil => exact .nil
  | @cons p q ps qs h t ih =>
    rw [List.map_cons, List.map_cons]
    refine .cons ?_ ih
    by_cases e : p.1 = k
    · rw [if_pos e, if_pos (h.1.symm.trans e)]
      exact ⟨h.1, hd⟩
    · rw [if_neg e, if_neg (fun z => e (h.1.trans z))]
      exact h
theorem KD.put {kvs : List (κ × V)} {kds : List (κ × PyData)} (h : KD K F kvs kds) (k : κ) {v : V} {d : PyData} (hd : Dq K F v d) : KD K F (putK kvs k v) (putD kds k d) := by
  unfold putK putD
  rw [h.any k]
  by_cases e : (kds.any fun kv => decide (kv.1 = k)) = true
  · rw [if_pos e, if_pos e]
    exact h.repl k hd
  · rw [if_neg e, if_neg e]
    exact Paired.snoc h ⟨rfl, hd⟩
end
/-! ### reading: the key is any tuple -/
open PySem.Spec PyProof.Rows in
theorem key_sq {X : Cx} {pins : List (Addr × Obj)} {σ : L2.St} {H : Hp} {s : Shared} {b : Addr} {ks : List Key} (I : Inv X pins σ H s) (h : SqT X.K H b (ks.map kV)) : (tupleKind (mixKind X.prog X.w)).is s.heap ks b := by
  obtain ⟨its, r, ⟨o, h1, h2, n, h3⟩, _⟩ := I.tuple h
  exact ⟨o, its.toArray, n, h1, h2, h3, by simpa using items_are r⟩
def tDGetT (K : PySem.W.Frag) (td ty tx : TE) : TE := fun σ H Q => td σ H fun x H1 => ∃ a, x = .ref a ∧ IsD H1 a ∧ ty σ H1 fun y H2 => tx σ H2 fun z H3 => ∃ kvs k b, H3 a = some (.dT kvs) ∧ y = .ref b ∧ SqT K H3 b (k.map kV) ∧ Q ((valV kvs k).getD z) H3
def tDIxT (K : PySem.W.Frag) (td ty : TE) : TE := fun σ H Q => td σ H fun x H1 => ty σ H1 fun y H2 => ∃ a kvs k b v, x = .ref a ∧ H2 a = some (.dT kvs) ∧ y = .ref b ∧ SqT K H2 b (k.map kV) ∧ valV kvs k = some v ∧ Q v H2
section
variable {X : Cx} {o i e f : Expr} {apos cpos pos : Pos} {td ty tx : TE}
open PySem.Spec PyProof.Rows in
theorem pe_dgetT (hu : X.A.units + 1 < cLine) (ho : PE X o td) (he : PE X e ty) (hf : PE X f tx) (m : M2 X o "get" apos e f cpos) : PE X (.Call (.Attribute o "get" apos) [e, f] [] cpos) (tDGetT X.K td ty tx) := by
  refine ⟨fun pins s σ H Q I h => ?_⟩
  refine wpAny_Call_method m.base m.few m.line PySem.F.plainAttrs_dict PySem.F.slot_dict_get PySem.F.type_dict_get (thn (ho.run pins s σ H _ I h) fun u s1 ⟨x, H1, I1, rx, a, ex, d, q1⟩ => ?_)
  subst ex
  obtain rfl : u = Value.ref a := rx
  obtain ⟨t1, t2, _⟩ := isD_at I1 d
  refine ⟨t1, t2, ?_⟩
  rw [m.trees]
  refine Calls.callWith_builtin rfl (Calls.evalArgs_plain (Calls.spliced_cons (thn (he.run pins s1 σ H1 _ I1 q1) fun iv s2 ⟨y, H2, I2, ry, q2⟩ =>
    Calls.spliced_cons (thn (hf.run pins s2 σ H2 _ I2 q2) fun fv s3 ⟨z, H3, I3, rz, kvs, k, b, ea, ey, eb, q3⟩ => Calls.spliced_nil ?_))))
  subst ey
  cases (show iv = Value.ref b from ry)
  obtain ⟨_, hd, xs, rel, dd⟩ := dt_of I3.hok ea
  exact call_meetsIn PySem.F.slot_dict_get dd.typeIs PySem.F.entry_dict_get (PySem.F.args_dict_get_3 _ _ _) (meetsH_dict_get_default (tupleKind (mixKind X.prog X.w)) a b hd fv) ⟨tupleKind_room_in1 hu, k, xs, key_sq I3 eb, dd, ⟨_, H3, I3.tok _, (rel.val k).getD rz, q3⟩⟩
open PySem.Spec PyProof.Rows in
theorem pe_dixT (hu : X.A.units + 1 < cLine) (ho : PE X o td) (hi : PE X i ty) (hs : NoSl i) : PE X (.Subscript o i pos) (tDIxT X.K td ty) := by
  refine ⟨fun pins s σ H Q I h => ?_⟩
  refine subD_of PySem.F.slot_dict_getitem.lookup hs (thn (ho.run pins s σ H _ I h) fun u s1 ⟨x, H1, I1, rx, q1⟩ => thn (hi.run pins s1 σ H1 _ I1 q1) fun iv s2 ⟨y, H2, I2, ry, a, kvs, k, b, v, ex, ea, ey, eb, ev, q2⟩ => ?_)
  subst ex ey
  obtain rfl : u = Value.ref a := rx
  cases (show iv = Value.ref b from ry)
  obtain ⟨_, hd, xs, rel, dd⟩ := dt_of I2.hok ea
  obtain ⟨w', hw, rw'⟩ := RelO.some_of (v := v) (o := (atKey xs k).map (·.2)) (by rw [← ev]; exact rel.val k)
  obtain ⟨p, hp, hp2⟩ := Option.map_eq_some_iff.mp hw
  refine ⟨dd.typeIs, wpAny_getItem_heap (tupleKind_room_in1 hu) (key_sq I2 eb) dd hp ?_⟩
  rw [hp2]
  exact ⟨v, H2, I2.tok _, rw', q2⟩
end
/-! ### in the layer -/
def vDGet (i : Nat) (me mx : Gm → Out PyData) (g : Gm) : Out PyData :=
  match (gt g i).od with
  | some (.dt _) => (me g).bind fun d g1 => (mx g1).bind fun z g2 => match (gt g2 i).od, d with
    | some (.dt kvs), .tuple ds => match keysOf ds with
      | some ks => .ok ((valD kvs ks).getD z) g2
      | none => .stk
    | _, _ => .stk
  | _ => .stk
def vDIx (i : Nat) (me : Gm → Out PyData) (g : Gm) : Out PyData :=
  match (gt g i).od with
  | some (.dt _) => (me g).bind fun d g1 => match (gt g1 i).od, d with
    | some (.dt kvs), .tuple ds => match keysOf ds with
      | some ks => match valD kvs ks with
        | some z => .ok z g1
        | none => .stk
      | none => .stk
    | _, _ => .stk
  | _ => .stk
def oTupK (m : Gm → Out (List PyData)) (g : Gm) : Out OD := (m g).bind fun ds g1 => match keysOf ds with
  | some ks => if ds.length ≤ zl then .ok (.tk ks) g1 else .stk
  | none => .stk
def oTk (i : Nat) (g : Gm) : Out OD :=
  match (gt g i).od with
  | some (.tk ks) => .ok (.tk ks) g
  | _ => .stk
/-- a slot that may hold a tracked tuple -/
def pTk (i : Nat) (g : Gm) : Res PyData :=
  match (gt g i).od with
  | some (.tk ks) => .ok (.tuple (ks.map kD))
  | some (.dat d) => .ok d
  | _ => .stk
def sDPutT (i : Nat) (mk : Gm → Out OD) (me : Gm → Out PyData) (g : Gm) : SOut :=
  match me g with
  | .ok d g1 => match (gt g1 i).od with
    | some (.dt _) => match mk g1 with
      | .ok (.tk ks) g2 => match (gt g2 i).od with
        | some (.dt kvs) => if kvs.length < zl then .nx (st g2 i ((gt g2 i).with (.dt (putD kvs ks d)))) else .stk
        | _ => .stk
      | .err e g2 => .err e g2
      | _ => .stk
    | _ => .stk
  | .err e g1 => .err e g1
  | .stk => .stk
def oDNewT (g : Gm) : Out OD := .ok (.dt []) g
section
variable {K : PySem.W.Frag} {cg : Cg} {W : WX} {pvs : Pv} {g : Gm} {σ : L2.St} {S S1 S' A : Addr → Prop} {F F1 F' H H1 H' : Hp}
/-- the dict in a slot -/
theorem Rel.redt {i : Nat} {kds : List (List Key × PyData)} {w : V} (r : Rel K cg pvs g σ S F H) (e : (gt g i).od = some (.dt kds)) (hw : σ[i]? = some (some w)) : ∃ p kvs, w = .ref p ∧ H p = some (.dT kvs) ∧ KD K F kvs kds ∧
    ∀ kvs' kds', KD K F kvs' kds' → ∃ S', Rel K cg pvs (st g i ((gt g i).with (.dt kds'))) σ S' F (upd H p (.dT kvs')) ∧ Stp S F H S' F (upd H p (.dT kvs')) := by
  obtain ⟨v, A, S1, e1, ow, hS, hd, back⟩ := r.take e
  rw [hw] at e1
  cases e1
  cases ow with
  | @dt p ks vs ds _ h1 h2 hl h3 h4 =>
    refine ⟨p, _, rfl, h1, kd_of h3, fun kvs' kds' h' => ?_⟩
    have s1 : Stp A F H (fun q => q = p) F (upd H p (.dT kvs')) := by
      have s0 := stp_upd (o := .dT kvs') r.fh h2
      exact ⟨fun b u hb hh => s0.keep b u (fun z => hb ((h4 b).mpr z)) hh, s0.fr, fun b u hh => .inl ⟨u, hh⟩, fun b hb => .inl ((h4 b).mpr hb), s0.fh⟩
    obtain ⟨ks', vs', ds', e1, e2, e3, e4⟩ := kd_to h'
    subst e1 e2
    obtain ⟨r2, s2⟩ := back (.dt (ks'.zip ds')) (fun q => q = p) F _ s1 (.dt upd_same h2 e3 e4 fun _ => Iff.rfl)
    exact ⟨_, r2, s2⟩
theorem rv_dget {i : Nat} {te tx : TE} {me mx : Gm → Out PyData} (he : RV K cg W te me) (hx : RV K cg W tx mx) : RV K cg W (tDGetT K (tVar i) te tx) (vDGet i me mx) := fun pvs g σ S F H Q r q => by
  unfold vDGet at q
  split at q
  · rename_i kds0 eo
    obtain ⟨w, hw⟩ := r.slot eo
    obtain ⟨a, kvs0, rfl, hH, _, _⟩ := r.redt eo hw
    refine ⟨_, hw, a, rfl, .inr ⟨_, .inl hH⟩, ?_⟩
    refine he pvs g σ S F H _ r ?_
    cases e1 : me g with
    | err e' g1 =>
      rw [e1] at q
      exact q
    | stk =>
      rw [e1] at q
      exact q.elim
    | ok d g1 =>
      rw [e1] at q
      intro y S1 F1 H1 s1 r1 d1
      simp only [Out.bind] at q
      replace q := PoV.st q s1
      refine hx pvs g1 σ S1 F1 H1 _ r1 ?_
      cases e2 : mx g1 with
      | err e' g2 =>
        rw [e2] at q
        exact q
      | stk =>
        rw [e2] at q
        exact q.elim
      | ok z g2 =>
        rw [e2] at q
        intro zv S2 F2 H2 s2 r2 d2
        simp only at q
        replace q := PoV.st q s2
        split at q
        · rename_i kds ds eo2
          split at q
          · rename_i ks ek
            obtain ⟨b, kvs, eb, hH2, kd, _⟩ := r2.redt eo2 hw
            cases eb
            have d1 := dp_mo d1 s2.fr
            cases d1 with
            | tup t1 t2 =>
              obtain ⟨ev, _⟩ := keys_dq ek t2
              subst ev
              refine ⟨kvs, ks, _, hH2, rfl, sqt_mono r2.fh t1, q _ S2 F2 H2 (.refl r2.fh) r2 ?_⟩
              rcases kd.val ks with ⟨a1, a2⟩ | ⟨v, d', a1, a2, a3⟩
              · rw [a1, a2]
                exact d2
              · rw [a1, a2]
                exact a3
          · exact q.elim
        · exact q.elim
  · exact q.elim
theorem rv_dix {i : Nat} {te : TE} {me : Gm → Out PyData} (he : RV K cg W te me) : RV K cg W (tDIxT K (tVar i) te) (vDIx i me) := fun pvs g σ S F H Q r q => by
  unfold vDIx at q
  split at q
  · rename_i kds0 eo
    obtain ⟨w, hw⟩ := r.slot eo
    obtain ⟨a, kvs0, rfl, hH, _, _⟩ := r.redt eo hw
    refine ⟨_, hw, ?_⟩
    refine he pvs g σ S F H _ r ?_
    cases e1 : me g with
    | err e' g1 =>
      rw [e1] at q
      exact q
    | stk =>
      rw [e1] at q
      exact q.elim
    | ok d g1 =>
      rw [e1] at q
      intro y S1 F1 H1 s1 r1 d1
      simp only [Out.bind] at q
      replace q := PoV.st q s1
      split at q
      · rename_i kds ds eo2
        split at q
        · rename_i ks ek
          split at q
          · rename_i z ez
            obtain ⟨b, kvs, eb, hH2, kd, _⟩ := r1.redt eo2 hw
            cases eb
            cases d1 with
            | tup t1 t2 =>
              obtain ⟨ev, _⟩ := keys_dq ek t2
              subst ev
              rcases kd.val ks with ⟨a1, a2⟩ | ⟨v, d', a1, a2, a3⟩
              · rw [a2] at ez
                cases ez
              · rw [a2] at ez
                cases ez
                exact ⟨a, kvs, ks, _, v, rfl, hH2, rfl, sqt_mono r1.fh t1, a1, q _ S1 F1 H1 (.refl r1.fh) r1 a3⟩
          · exact q.elim
        · exact q.elim
      · exact q.elim
  · exact q.elim
theorem ro_tupK {t : TA} {m : Gm → Out (List PyData)} (h : RA K cg W t m) : RO K cg W (tTup t) (oTupK m) := fun pvs g σ S F H Q r q => by
  refine h pvs g σ S F H _ r ?_
  unfold oTupK at q
  cases e : m g with
  | ok ds g1 =>
    rw [e] at q
    intro vs S1 F1 H1 s1 r1 d1
    simp only [Out.bind] at q
    replace q := PoO.st q s1
    split at q
    · rename_i ks ek
      split at q
      · rename_i hz
        obtain ⟨ev, _⟩ := keys_dq ek d1
        refine ⟨by rw [dpa_len d1]; exact zl_le hz, fun p hp => ?_⟩
        subst ev
        have n := pst_new (o := .tup (ks.map kV)) r1.fh hp
        exact q (.ref p) (fun _ => False) S1 _ _ (n.stpA fun _ z => z.elim) (r1.pst n) (.tk upd_same fun _ z => z) fun _ z => z.elim
      · exact q.elim
    · exact q.elim
  | err e' g1 =>
    rw [e] at q
    exact q
  | stk =>
    rw [e] at q
    exact q.elim
theorem ro_tk (i : Nat) : RO K cg W (tVar i) (oTk i) := fun pvs g σ S F H Q r q => by
  unfold oTk at q
  split at q
  · rename_i ks e
    obtain ⟨v, A, S1, e1, ow, _⟩ := r.take e
    cases ow with
    | tk h1 h2 => exact ⟨_, e1, q _ (fun _ => False) S F H ((Stp.refl r.fh).sub fun p z => z.elim id False.elim) r (.tk h1 fun _ z => z) fun _ z => z.elim⟩
  · exact q.elim
theorem rp_tk (i : Nat) : RP K cg W (tVar i) (pTk i) := fun pvs g σ S F H Q r q => by
  unfold pTk at q
  split at q
  · rename_i ks e
    obtain ⟨v, A, S1, e1, ow, _⟩ := r.take e
    cases ow with
    | tk h1 h2 => exact ⟨_, e1, q _ F H (.refl r.fh) (.tup (.of h1) (dqa_keys _))⟩
  · rename_i d e
    obtain ⟨v, A, S1, e1, ow, _⟩ := r.take e
    cases ow with
    | dat h1 h2 => exact ⟨_, e1, q _ F H (.refl r.fh) h1⟩
  · exact q.elim
theorem ro_dnewT : RO K cg W tDNewT oDNewT := fun pvs g σ S F H Q r q => fun p hp => by
  have n := pst_own (o := .dT []) r.fh hp
  have f : ∀ q, q = p → H q = none := fun q e => by rw [e]; exact hp
  exact q (.ref p) (fun q => q = p) S F _ (n.stpA f) (r.pst n) (.dt (ks := []) (vs := []) (ds := []) upd_same (r.fh.free hp) rfl .nil fun _ => Iff.rfl) (r.apart f)
theorem rs_dput {i : Nat} {te tk : TE} {me : Gm → Out PyData} {mk : Gm → Out OD} (he : RV K cg W te me) (hk : RO K cg W tk mk) : RS K cg W (sDPut (tVar i) tk te) (sDPutT i mk me) := fun pvs g σ S F H D r q => by
  refine he pvs g σ S F H _ r ?_
  unfold sDPutT at q
  cases e : me g with
  | err e' g1 =>
    rw [e] at q
    exact ErrS.p q
  | stk =>
    rw [e] at q
    exact q.elim
  | ok d g1 =>
    rw [e] at q
    intro v S1 F1 H1 s1 r1 d1
    simp only at q
    replace q := PoS.st q s1
    split at q
    · rename_i kds0 eo
      obtain ⟨w, hw⟩ := r1.slot eo
      refine ⟨w, hw, ?_⟩
      refine hk pvs g1 σ S1 F1 H1 _ r1 ?_
      split at q
      · rename_i ks g2 e2
        rw [e2]
        intro y A S2 F2 H2 s2 r2 ow dj
        replace q := PoS.st q (s2.sub fun p z => .inl z)
        split at q
        · rename_i kds eo2
          split at q
          · rename_i hz
            obtain ⟨a, kvs, rfl, hH2, kd, back⟩ := r2.redt eo2 hw
            cases ow with
            | tk h1 h2 =>
              obtain ⟨S3, r3, s3⟩ := back _ _ (kd.put ks (dp_mo d1 s2.fr))
              refine ⟨a, _, rfl, .t hH2 (r2.fh _ _ h1) (by rw [kd.len]; exact zl_lt hz), q σ S3 F2 _ s3 r3⟩
          · exact q.elim
        · exact q.elim
      · rename_i e' g2 e2
        rw [e2]
        exact ErrS.p q
      · exact q.elim
    · exact q.elim
end
end VL
/-! The value layer, part 23: sorted(a dict whose keys are tuples). -/
namespace VL
open PySem PySem.Spec PyProof.Rows L2
abbrev tkD' (ks : List Key) : PyData := .tuple (ks.map kD)
theorem reads_keys {h : Heap} : ∀ {ks : List Key} {its : List Value}, Vals (ks.map kV) its → ReadsAll h its (ks.map kD) []
  | [], _, r => by
    cases r
    exact .nil
  | .inl i :: ks, _, r => by
    cases r with
    | cons h1 h2 =>
      obtain ⟨t, rfl⟩ := h1
      exact .cons (.int i t) (reads_keys h2)
  | .inr x :: ks, _, r => by
    cases r with
    | cons h1 h2 =>
      obtain ⟨t, rfl⟩ := h1
      exact .cons (.str x t) (reads_keys h2)
def rSortDT : List V → Hp → VK → Prop := fun vs H Q => ∃ (a : Addr) (kvs : List (List Key × V)), vs = [V.ref a] ∧ H a = some (.dT kvs) ∧ sortOk (kvs.map fun p => tkD' p.1) = true ∧
  ∀ (p : Addr) (bs : List (V × PyData)), H p = none → bs.map Prod.snd = kvs.map (fun p => tkD' p.1) → (∀ b ∈ bs, ∃ a ks, b.1 = .ref a ∧ H a = some (.tup (ks.map kV)) ∧ b.2 = tkD' ks) →
    Q (.ref p) (upd H p (.lst ((bs.mergeSort (PySem.W.dataLe false Prod.snd)).map Prod.fst)))
theorem pr_bs {H : Hp} : ∀ {kvs : List (List Key × V)} {xs : List (List Key × Addr × Value)}, KT H kvs xs → xs.map (fun x => tkD' x.1) = kvs.map (fun p => tkD' p.1) ∧ ∀ x ∈ xs, H x.2.1 = some (.tup (x.1.map kV))
  | _, _, .nil => ⟨rfl, fun x hx => nomatch hx⟩
  | _, _, .cons h t => by
    obtain ⟨a, b⟩ := pr_bs t
    refine ⟨by rw [List.map_cons, List.map_cons, a, h.1], fun x hx => ?_⟩
    rcases List.mem_cons.mp hx with rfl | hx
    · rw [← h.1]
      exact h.2.1
    · exact b x hx
theorem each_refs (xs : List (List Key × Addr × Value)) : PySem.W.EachIs (fun u (b : V × PyData) => RelV b.1 u) (xs.map fun x => Value.ref x.2.1) (xs.map fun x => (V.ref x.2.1, tkD' x.1)) := by
  induction xs with
  | nil => exact .nil
  | cons x xs ih => exact .cons rfl ih
theorem cr_sortDT {X : Cx} (hc : X.calm = true) (hu : X.A.units + 64 < cLine) : CallR X (.builtin "sorted") rSortDT := by
  intro pins s σ H vs us Q I r h
  obtain ⟨d, kvs, rfl, hd, ok, q⟩ := h
  obtain ⟨u, rfl, rx⟩ := vals1 r
  obtain rfl : u = Value.ref d := rx
  obtain ⟨z, hs, ks, pr, o, es, ep, ho, hx, hdt, he, hn⟩ := (show ObjOk X.prog X.w H s.heap d (.dT kvs) from I.hok d _ hd)
  have l1 : es.size = ks.length := size_of_entries he
  have l2 : kvs.length = ks.length := Paired.length pr
  obtain ⟨b1, b2⟩ := pr_bs pr
  obtain ⟨o1, o2, o3⟩ := sortOk_iff.mp ok
  refine Calls.call_function_entry kind_sorted plain_sorted entry_sorted (args_sorted1 _) ?_
  unfold Builtin.«sorted»
  refine wpAny_bind (m := checkCount "sorted" 1 1 _) (wpAny_pure ?_)
  refine wpAny_bind (PySem.W.kdu_collect (A := X.A.in1) (kdl_raw hs hx hdt) (I.ok.hd hc) ho (by omega) fun h' tk acc hk it => ?_)
  have ea : acc.toList = ks.map fun x => Value.ref x.2.1 := by
    have hl : acc.toList.length = ks.length := by rw [Array.length_toList, it.1]; exact l1
    apply List.ext_getElem?
    intro j
    rw [List.getElem?_map]
    cases hj : acc.toList[j]? with
    | none =>
      have h1 := List.getElem?_eq_none_iff.mp hj
      rw [List.getElem?_eq_none (by omega)]
      all_goals rfl
    | some v =>
      obtain ⟨en, hen, hv⟩ := it.2 j v (by rw [← Array.getElem?_toList]; exact hj)
      have qe := entry_at he j
      rw [hen] at qe
      cases hb : ks[j]? with
      | none =>
        rw [hb] at qe
        exact nomatch (show some en = none from qe)
      | some b =>
        rw [hb] at qe
        have e2 : en = entryOfKey (tupleKind (mixKind X.prog X.w)) b := Option.some.inj qe
        rw [hv, e2]
        all_goals rfl
  have I1 : Inv X pins σ H { s with heap := h', toks := tk } := I.kept hk
  have hz : ks.length ≤ sizeLine := by omega
  rw [ea]
  refine wpAny_bind (wpAny_newList ?_ (by rw [List.length_map]; exact hz))
  have hoL : (h'.push (seqObj "list" (ks.map fun x => Value.ref x.2.1).toArray 0)).get? h'.objs.size = some (seqObj "list" (ks.map fun x => Value.ref x.2.1).toArray 0) := Heap.get?_push_size _ rfl
  show wpAny _ _ _ _ _ { s with heap := h'.push (seqObj "list" (ks.map fun x => Value.ref x.2.1).toArray 0), toks := tk }
  have er : ∀ (xs : List (List Key × Addr × Value)), (∀ x ∈ xs, H x.2.1 = some (.tup (x.1.map kV))) → PySem.W.EachIs (fun v (b : V × PyData) => ∃ as, Reads (h'.push (seqObj "list" (ks.map fun x => Value.ref x.2.1).toArray 0)) v (Prod.snd b) as ∧ h'.objs.size ∉ as) (xs.map fun x => Value.ref x.2.1) (xs.map fun x => (V.ref x.2.1, tkD' x.1)) := by
    intro xs
    induction xs with
    | nil => exact fun _ => .nil
    | cons x xs ih =>
      intro hx
      refine .cons ⟨[], ?_, by simp⟩ (ih fun y hy => hx y (List.mem_cons_of_mem _ hy))
      obtain ⟨_, its, rv, ob, g1, g2, n, g3⟩ := (show ObjOk X.prog X.w H h' x.2.1 (.tup (x.1.map kV)) from I1.hok _ _ (hx x List.mem_cons_self))
      exact .tuple (Heap.get?_push_of_some _ g1) g2 g3 (by simpa using reads_keys rv)
  have hm : (ks.map fun x => ((V.ref x.2.1, tkD' x.1) : V × PyData)).map Prod.snd = kvs.map (fun p => tkD' p.1) := by
    rw [List.map_map, ← b1]
    rfl
  refine wpAny_bind (wpAny_holding (PySem.W.list_sort_data (s := { s with heap := h'.push (seqObj "list" (ks.map fun x => Value.ref x.2.1).toArray 0), toks := tk }) (R := fun u (b : V × PyData) => RelV b.1 u) (enc := Prod.snd) hoL (each_refs ks) (er ks b2) (by rw [hm]; exact o1) (by rw [hm]; exact o2) (by rw [List.length_map]; exact hz) (fun b hb => ?_) fun out hlen eo => ?_))
  · have := o3 b.2 (by rw [← hm]; exact List.mem_map.mpr ⟨b, hb, rfl⟩)
    have e : X.A.in1.units ≤ X.A.units + 1 := Nat.le_refl _
    omega
  · obtain ⟨n, hn'⟩ := sortedHeap_at (vs := ks.map fun x => Value.ref x.2.1) (out := out.toArray) hoL
    refine wpAny_pure ⟨_, rfl, .ref h'.objs.size, upd H h'.objs.size (.lst (((ks.map fun x => ((V.ref x.2.1, tkD' x.1) : V × PyData)).mergeSort (PySem.W.dataLe false Prod.snd)).map Prod.fst)), I1.laid (t' := tk) (fun b u e => ?_) (Nat.le_refl _) ⟨by simpa using hz, out, n, vals_each eo, by simpa using hn'⟩, rfl, q _ _ (I1.hok.fresh (Nat.le_refl _)) hm fun b hb => ?_⟩
    · have hb : b < h'.objs.size := Heap.lt_size e
      rw [sortedHeap_old (Nat.ne_of_lt hb) (by rw [size_push']; exact Nat.lt_succ_of_lt hb)]
      exact Heap.get?_push_of_some _ e
    · obtain ⟨x, hx, rfl⟩ := List.mem_map.mp hb
      exact ⟨_, _, rfl, b2 x hx, rfl⟩
/-- all tuples are frozen -/
theorem pst_tup {F H : Hp} (e : Same F H) : ∃ F', Pst F H F' H ∧ ∀ b vs, H b = some (.tup vs) → F' b = some (.tup vs) := by
  refine ⟨more F H fun p => F p = none ∧ ∃ vs, H p = some (.tup vs), ⟨fun _ _ z => z, more_same fun p hp => hp.1, fun p u h => ?_, more_heap e⟩, fun b vs hb => ?_⟩
  · by_cases z : F p = none ∧ ∃ vs, H p = some (.tup vs)
    · exact .inr (.inr z.2)
    · rw [more_out z] at h
      exact .inl ⟨u, h⟩
  · by_cases z : F b = none
    · rw [more_in ⟨z, vs, hb⟩]
      exact hb
    · rw [more_out fun y => z y.1]
      cases q : F b with
      | none => exact absurd q z
      | some u =>
        have := e b u q
        rw [hb] at this
        rw [this]
def oSortDT (i : Nat) (g : Gm) : Out OD :=
  match (gt g i).od with
  | some (.dt kvs) => if sortOk (kvs.map fun p => tkD' p.1) = true then .ok (.lst (sortD (kvs.map fun p => tkD' p.1))) g else .stk
  | _ => .stk
theorem kd_keys {K : PySem.W.Frag} {F : Hp} : ∀ {kvs : List (List Key × V)} {kds : List (List Key × PyData)}, KD K F kvs kds → kvs.map (fun p => tkD' p.1) = kds.map fun p => tkD' p.1
  | _, _, .nil => rfl
  | _, _, .cons h t => by rw [List.map_cons, List.map_cons, kd_keys t, h.1]
section
variable {K : PySem.W.Frag} {cg : Cg} {W : WX}
theorem ro_sortDT {i : Nat} {t : TA} (ht : ∀ σ H Q v, σ[i]? = some (some v) → Q [v] H → t σ H Q) : RO K cg W (tCB rSortDT t) (oSortDT i) := fun pvs g σ S F H Q r q => by
  unfold oSortDT at q
  split at q
  · rename_i kds eo
    split at q
    · rename_i ok
      obtain ⟨w, hw⟩ := r.slot eo
      obtain ⟨a, kvs, rfl, hH, kd, _⟩ := r.redt eo hw
      have kk := kd_keys kd
      refine ht σ H _ _ hw ⟨a, kvs, rfl, hH, by rw [kk]; exact ok, fun p bs hp e1 e2 => ?_⟩
      obtain ⟨F1, p1, f1⟩ := pst_tup r.fh
      have dq : ∀ b ∈ bs, Dq K F1 b.1 b.2 := fun b hb => by
        obtain ⟨a', ks, x1, x2, x3⟩ := e2 b hb
        rw [x1, x3]
        exact .tup (.of (f1 _ _ x2)) (dqa_keys ks)
      have p2 := pst_own (o := .lst ((bs.mergeSort (PySem.W.dataLe false Prod.snd)).map Prod.fst)) p1.fh hp
      have f : ∀ q, q = p → H q = none := fun q e => by rw [e]; exact hp
      have pp := p1.trans p2
      refine q (.ref p) (fun q => q = p) S F1 _ (pp.stpA f) (r.pst pp) (.lst upd_same (p1.fh.free hp) ?_ fun _ => Iff.rfl) (r.apart f)
      have s2 := sortD_map Prod.snd bs
      rw [e1, kk] at s2
      rw [s2]
      exact dqa_of fun b hb => dq b ((List.mergeSort_perm _ _).mem_iff.mp hb)
    · exact q.elim
  · exact q.elim
end
theorem frz_tk (ks : List Key) : OD.frz (.tk ks) = some (.tuple (ks.map kD)) := rfl
section
variable {X : Cx} {W : Wz} {e f : Expr} {pos apos cpos p p2 pos' : Pos} {x : Str}
theorem do_dnewT : DO X W (.Dict [] [] pos) oDNewT := ⟨_, pe_dnewT, ro_dnewT⟩
theorem do_tupK {es : List Expr} {m : Gm → Out (List PyData)} {x1} (h : DA X W es m) : DO X W (.Tuple es x1 pos) (oTupK m) := let ⟨_, h1, h2⟩ := h; ⟨_, pe_tup h1, ro_tupK h2⟩
theorem dp_tk (i : Nat) (hN : X.N[i]? = some x := by rfl) (hv : Vis X.env.scope x := by first | exact Or.inl rfl | exact Or.inr (Or.inl rfl) | exact Or.inr (Or.inr rfl)) (hd : (x == ("__debug__" : Str)) = false := by decide)
    (hcd : (x == ("__classdict__" : Str)) = false := by decide) : DP X W (.Name x pos) (pTk i) := ⟨_, pv i hN hv hd hcd, rp_tk i⟩
theorem do_tk (i : Nat) (hN : X.N[i]? = some x := by rfl) (hv : Vis X.env.scope x := by first | exact Or.inl rfl | exact Or.inr (Or.inl rfl) | exact Or.inr (Or.inr rfl)) (hd : (x == ("__debug__" : Str)) = false := by decide)
    (hcd : (x == ("__classdict__" : Str)) = false := by decide) : DO X W (.Name x pos) (oTk i) := ⟨_, pv i hN hv hd hcd, ro_tk i⟩
theorem dv_dget (i : Nat) {me mx : Gm → Out PyData} (hu : X.A.units + 65 < cLine) (he : DV X W e me) (hf : DV X W f mx) (hN : X.N[i]? = some x := by rfl) (hv : Vis X.env.scope x := by first | exact Or.inl rfl | exact Or.inr (Or.inl rfl) | exact Or.inr (Or.inr rfl)) (hd : (x == ("__debug__" : Str)) = false := by decide)
    (hcd : (x == ("__classdict__" : Str)) = false := by decide) (m : M2 X (.Name x p) "get" apos e f cpos := by exact ⟨rfl, rfl, rfl, rfl⟩) : DV X W (.Call (.Attribute (.Name x p) "get" apos) [e, f] [] cpos) (vDGet i me mx) :=
  let ⟨_, e1, e2⟩ := he; let ⟨_, f1, f2⟩ := hf; ⟨_, pe_dgetT (by omega) (pv i hN hv hd hcd) e1 f1 m, rv_dget e2 f2⟩
theorem dv_dix (i : Nat) {me : Gm → Out PyData} (hu : X.A.units + 65 < cLine) (he : DV X W e me) (hN : X.N[i]? = some x := by rfl) (hv : Vis X.env.scope x := by first | exact Or.inl rfl | exact Or.inr (Or.inl rfl) | exact Or.inr (Or.inr rfl)) (hd : (x == ("__debug__" : Str)) = false := by decide)
    (hcd : (x == ("__classdict__" : Str)) = false := by decide) (hs : NoSl e := by exact fun _ _ => rfl) : DV X W (.Subscript (.Name x p) e pos) (vDIx i me) :=
  let ⟨_, e1, e2⟩ := he; ⟨_, pe_dixT (by omega) (pv i hN hv hd hcd) e1 hs, rv_dix e2⟩
theorem ds_dput (i : Nat) {mk : Gm → Out OD} {me : Gm → Out PyData} (hu : X.A.units + 65 < cLine) (hk : DO X W e mk) (he : DV X W f me) (hN : X.N[i]? = some x := by rfl) (hv : Vis X.env.scope x := by first | exact Or.inl rfl | exact Or.inr (Or.inl rfl) | exact Or.inr (Or.inr rfl)) (hd : (x == ("__debug__" : Str)) = false := by decide)
    (hcd : (x == ("__classdict__" : Str)) = false := by decide) (hs : swapsWith f (some (.Subscript (.Name x p) e pos')) pos.line X.env = pure false := by rfl) : DS X W (.Assign [.Subscript (.Name x p) e pos'] f pos) (sDPutT i mk me) :=
  let ⟨_, k1, k2⟩ := hk; let ⟨_, e1, e2⟩ := he; ⟨_, ps_dput (by omega) (pv i hN hv hd hcd) k1 e1 hs, rs_dput e2 k2⟩
theorem do_sortDT (i : Nat) (hc : X.calm = true) (hu : X.A.units + 65 < cLine) (hm : X.mg "sorted" = none) (hN : X.N[i]? = some x := by rfl) (hv : Vis X.env.scope x := by first | exact Or.inl rfl | exact Or.inr (Or.inl rfl) | exact Or.inr (Or.inr rfl)) (hd : (x == ("__debug__" : Str)) = false := by decide)
    (hcd : (x == ("__classdict__" : Str)) = false := by decide) (hg : Gl X "sorted" := by rfl) (hs : starEach [.Name x p2] X.env = (false, eval (.Name x p2) X.env) :: starEach [] X.env := by rfl) (hpl : (backTo pos (starEach [] X.env)).any (·.1) = false := by rfl) :
    DO X W (.Call (.Name "sorted" p) [.Name x p2] [] pos) (oSortDT i) :=
  ⟨_, pe_callB (cr_sortDT hc (by omega)) hg hm (by decide +kernel) (pa_cons (pv i hN hv hd hcd) pa_nil hs) (by decide) (by decide) hs hpl, ro_sortDT fun σ H Q v hv q => ⟨v, hv, q⟩⟩
end
end VL
/-! The value layer, part 24: parts of nodes; places. -/
namespace VL
open PySem L2
section
variable {κ : Type} [DecidableEq κ]
def ixOf : List κ → κ → Option Nat
  | [], _ => none
  | x :: r, k => if x = k then some 0 else (ixOf r k).map (· + 1)
theorem ixOf_lt : ∀ {l : List κ} {k : κ} {j : Nat}, ixOf l k = some j → j < l.length
  | [], _, _, h => by cases h
  | x :: r, k, j, h => by
    unfold ixOf at h
    split at h
    · cases h
      simp
    · obtain ⟨i, hi, rfl⟩ := Option.map_eq_some_iff.mp h
      have := ixOf_lt hi
      simp
      omega
theorem ixOf_val : ∀ {l : List κ} {vs : List V} {k : κ} {j : Nat} {v : V}, ixOf l k = some j → vs[j]? = some v → valV (l.zip vs) k = some v
  | [], _, _, _, _, h, _ => by cases h
  | x :: r, [], _, _, _, _, e => by simp at e
  | x :: r, w :: vs, k, j, v, h, e => by
    unfold ixOf at h
    split at h
    · rename_i hx
      cases h
      simp at e
      subst e
      exact valV_pos hx
    · rename_i hx
      obtain ⟨i, hi, rfl⟩ := Option.map_eq_some_iff.mp h
      show valV ((x, w) :: r.zip vs) k = some v
      rw [valV_neg hx]
      exact ixOf_val hi (by simpa using e)
end
theorem ixOf_look : ∀ {l : List Str} {vs : List V} {k : Str} {j : Nat} {v : V}, ixOf l k = some j → vs[j]? = some v → (l.zip vs).lookup k = some v
  | [], _, _, _, _, h, _ => by cases h
  | x :: r, [], _, _, _, _, e => by simp at e
  | x :: r, w :: vs, k, j, v, h, e => by
    unfold ixOf at h
    split at h
    · rename_i hx
      cases h
      simp at e
      subst e
      simp [List.lookup, hx]
    · rename_i hx
      obtain ⟨i, hi, rfl⟩ := Option.map_eq_some_iff.mp h
      have hx' : (k == x) = false := by
        rw [beq_eq_false_iff_ne]
        exact fun z => hx z.symm
      simp only [List.zip_cons_cons, List.lookup, hx']
      exact ixOf_look hi (by simpa using e)
/-! ### parts -/
structure Pts (K : PySem.W.Frag) (cg : Str → Option Value) (F H : Hp) (vs : List V) (os : List OD) (L : Nat → Addr → Prop) : Prop where
  len : vs.length = os.length
  ow : ∀ (i : Nat) (v : V) (o : OD), vs[i]? = some v → os[i]? = some o → Ow K cg F H v o (L i)
  dj : ∀ i j q, i ≠ j → L i q → L j q → False
  out : ∀ i q, os.length ≤ i → ¬ L i q
section
variable {K : PySem.W.Frag} {cg : Str → Option Value} {F F' H H' : Hp} {vs : List V} {os : List OD} {L : Nat → Addr → Prop}
theorem Pts.at (P : Pts K cg F H vs os L) {i : Nat} {q : Addr} (h : L i q) : F q = none ∧ (∃ u, H q = some u) ∧ ¬ Nw H q := by
  have hi : i < os.length := by
    rcases Nat.lt_or_ge i os.length with z | z
    · exact z
    · exact absurd h (P.out i q z)
  have w := P.ow i (vs[i]'(by rw [P.len]; exact hi)) (os[i]) (List.getElem?_eq_getElem (by rw [P.len]; exact hi)) (List.getElem?_eq_getElem hi)
  exact ⟨(w.at h).1, (w.at h).2, w.nn h⟩
/-- what a step at the part j leaves as it is -/
theorem Pts.other {B B' : Addr → Prop} (st : Stp B F H B' F' H') {q : Addr} (h0 : F q = none) (h1 : ∃ u, H q = some u) (h2 : ¬ Nw H q) (hb : ¬ B q) : H' q = H q ∧ F' q = none ∧ ¬ B' q := by
  obtain ⟨u, hu⟩ := h1
  refine ⟨by rw [hu, st.keep q u hb hu], ?_, fun z => ?_⟩
  · cases e : F' q with
    | none => rfl
    | some z =>
      rcases st.nw q z e with ⟨y, hy⟩ | y | y
      · rw [h0] at hy
        cases hy
      · exact absurd y h2
      · exact absurd y hb
  · rcases st.fp q z with y | y
    · exact hb y
    · rw [hu] at y
      cases y
theorem Pts.step (P : Pts K cg F H vs os L) {j : Nat} {B' : Addr → Prop} {w : V} {o' : OD} (st : Stp (L j) F H B' F' H') (hw : vs[j]? = some w) (ow : Ow K cg F' H' w o' B') : Pts K cg F' H' vs (os.set j o') (fun i => if i = j then B' else L i) := by
  refine ⟨by rw [List.length_set]; exact P.len, fun i v o e1 e2 => ?_, fun i k q hik hi hk => ?_, fun i q hi => ?_⟩
  · by_cases z : i = j
    · subst z
      simp only [if_true]
      rw [hw] at e1
      cases e1
      have hj : i < os.length := by
        have := (List.getElem?_eq_some_iff.mp e2).1
        simpa using this
      rw [List.getElem?_set_self hj] at e2
      cases e2
      exact ow
    · simp only [if_neg z]
      rw [List.getElem?_set_ne (Ne.symm z)] at e2
      have b := P.ow i v o e1 e2
      have ot : ∀ q, L i q → H' q = H q ∧ F' q = none ∧ ¬ B' q := fun q hq => by
        obtain ⟨a1, a2, a3⟩ := P.at hq
        exact Pts.other st a1 a2 a3 fun y => P.dj i j q z hq y
      exact b.mo st.fr (fun q hq => (ot q hq).1) fun q hq => (ot q hq).2.1
  · have cross : ∀ i, i ≠ j → L i q → B' q → False := fun i hij hi hb => by
      obtain ⟨a1, a2, a3⟩ := P.at hi
      exact (Pts.other st a1 a2 a3 fun y => P.dj i j q hij hi y).2.2 hb
    by_cases z : i = j
    · subst z
      simp only [if_true] at hi
      by_cases y : k = i
      · exact hik y.symm
      · simp only [if_neg y] at hk
        exact cross k y hk hi
    · simp only [if_neg z] at hi
      by_cases y : k = j
      · subst y
        simp only [if_true] at hk
        exact cross i z hi hk
      · simp only [if_neg y] at hk
        exact P.dj i k q hik hi hk
  · rw [List.length_set] at hi
    by_cases z : i = j
    · subst z
      have : i < os.length := by
        have := (List.getElem?_eq_some_iff.mp hw).1
        rw [P.len] at this
        exact this
      omega
    · simp only [if_neg z]
      exact P.out i q hi
/-- a part of a node that is owned -/
theorem Ow.part {A : Addr → Prop} {v : V} {k : Kd} {j : Nat} {o : OD} (h : Ow K cg F H v (.nd k os) A) (hj : os[j]? = some o) : ∃ (p : Addr) (vs : List V) (w : V) (B : Addr → Prop), v = .ref p ∧ Shp cg H p k vs ∧ vs.length = os.length ∧ vs[j]? = some w ∧ Ow K cg F H w o B ∧ (∀ q, B q → A q) ∧ ¬ B p ∧
    ∀ o' B' F' H', Stp B F H B' F' H' → Ow K cg F' H' w o' B' → ∃ A', Ow K cg F' H' v (.nd k (os.set j o')) A' ∧ Stp A F H A' F' H' := by
  cases h with
  | @nd p k vs os L A h1 h2 h3 h4 h5 h6 h7 h8 =>
    have P : Pts K cg F H vs os L := ⟨h3, h4, h5, h7⟩
    have hlt : j < os.length := (List.getElem?_eq_some_iff.mp hj).1
    have hw : vs[j]? = some (vs[j]'(by omega)) := List.getElem?_eq_getElem (by omega)
    refine ⟨p, vs, _, L j, rfl, h1, h3, hw, h4 j _ o hw hj, fun q hq => (h8 q).mpr (.inr ⟨j, hq⟩), h6 j, fun o' B' F' H' st ow => ?_⟩
    have P' := P.step st hw ow
    have own : Ow K cg F H (.ref p) (.nd k os) A := .nd h1 h2 h3 h4 h5 h6 h7 h8
    have hp := (h8 p).mpr (.inl rfl)
    obtain ⟨p1, p2, p3⟩ := Pts.other st h2 (own.at hp).2 (own.nn hp) (h6 j)
    refine ⟨fun q => q = p ∨ ∃ i, (if i = j then B' else L i) q, .nd (L := fun i => if i = j then B' else L i) ?_ p2 P'.len P'.ow P'.dj (fun i hi => ?_) P'.out fun _ => Iff.rfl, ?_⟩
    · cases k with
      | ins c names =>
        obtain ⟨C, dx, z, e, l⟩ := h1
        exact ⟨C, dx, z, p1.trans e, l⟩
      | dk keys => exact ⟨p1.trans h1.1, h1.2⟩
      | ls => exact p1.trans h1
      | tp => exact h1.elim
    · by_cases z : i = j
      · simp only [if_pos z] at hi
        exact p3 hi
      · simp only [if_neg z] at hi
        exact h6 i hi
    · refine ⟨fun q u hq e => st.keep q u (fun z => hq ((h8 q).mpr (.inr ⟨j, z⟩))) e, st.fr, fun q u e => (st.nw q u e).imp id fun z => z.imp id fun y => (h8 q).mpr (.inr ⟨j, y⟩), fun q hq => ?_, st.fh⟩
      rcases hq with hq | ⟨i, hi⟩
      · exact .inl ((h8 q).mpr (.inl hq))
      · by_cases z : i = j
        · simp only [if_pos z] at hi
          exact (st.fp q hi).imp (fun y => (h8 q).mpr (.inr ⟨j, y⟩)) id
        · simp only [if_neg z] at hi
          exact .inl ((h8 q).mpr (.inr ⟨i, hi⟩))
/-- a part of a node that is frozen -/
theorem Ow.partF {A : Addr → Prop} {v : V} {k : Kd} {j : Nat} {o : OD} (h : Ow K cg F H v (.fz k os) A) (hj : os[j]? = some o) : ∃ (p : Addr) (vs : List V) (w : V) (B : Addr → Prop), v = .ref p ∧ ShpF cg F p k vs ∧ vs.length = os.length ∧ vs[j]? = some w ∧ Ow K cg F H w o B ∧ (∀ q, B q → A q) ∧
    ∀ o' B' F' H', Stp B F H B' F' H' → Ow K cg F' H' w o' B' → ∃ A', Ow K cg F' H' v (.fz k (os.set j o')) A' ∧ Stp A F H A' F' H' := by
  cases h with
  | @fz p k vs os L A h1 h3 h4 h5 h7 h8 =>
    have P : Pts K cg F H vs os L := ⟨h3, h4, h5, h7⟩
    have hlt : j < os.length := (List.getElem?_eq_some_iff.mp hj).1
    have hw : vs[j]? = some (vs[j]'(by omega)) := List.getElem?_eq_getElem (by omega)
    refine ⟨p, vs, _, L j, rfl, h1, h3, hw, h4 j _ o hw hj, fun q hq => (h8 q).mpr ⟨j, hq⟩, fun o' B' F' H' st ow => ?_⟩
    have P' := P.step st hw ow
    refine ⟨fun q => ∃ i, (if i = j then B' else L i) q, .fz (L := fun i => if i = j then B' else L i) (h1.mo st.fr) P'.len P'.ow P'.dj P'.out fun _ => Iff.rfl, ?_⟩
    refine ⟨fun q u hq e => st.keep q u (fun z => hq ((h8 q).mpr ⟨j, z⟩)) e, st.fr, fun q u e => (st.nw q u e).imp id fun z => z.imp id fun y => (h8 q).mpr ⟨j, y⟩, fun q hq => ?_, st.fh⟩
    obtain ⟨i, hi⟩ := hq
    by_cases z : i = j
    · simp only [if_pos z] at hi
      exact (st.fp q hi).imp (fun y => (h8 q).mpr ⟨j, y⟩) id
    · simp only [if_neg z] at hi
      exact .inl ((h8 q).mpr ⟨i, hi⟩)
end
/-! ### places -/
inductive Pl where
  | s (i : Nat)
  | a (k : Nat)
  | f (i : Nat) (c n : Str)
  | k (i : Nat) (x : Key)
def plOd (g : Gm) : Pl → Option OD
  | .s i => (gt g i).od
  | .a k => match gt g k with
    | .al i j => match gt g i with
      | .pin (.fz _ os) => os[j]?
      | _ => none
    | _ => none
  | .f i c n => match (gt g i).od with
    | some (.nd (.ins c' names) os) => if c' = c then (match ixOf names n with
      | some j => os[j]?
      | none => none) else none
    | _ => none
  | .k i x => match (gt g i).od with
    | some (.fz (.dk keys) os) => match ixOf keys x with
      | some j => os[j]?
      | none => none
    | _ => none
def plPut (g : Gm) (o : OD) : Pl → Gm
  | .s i => st g i ((gt g i).with o)
  | .a k => match gt g k with
    | .al i j => match gt g i with
      | .pin (.fz kd os) => st g i (.pin (.fz kd (os.set j o)))
      | _ => g
    | _ => g
  | .f i _ n => match (gt g i).od with
    | some (.nd (.ins c' names) os) => match ixOf names n with
      | some j => st g i ((gt g i).with (.nd (.ins c' names) (os.set j o)))
      | none => g
    | _ => g
  | .k i x => match (gt g i).od with
    | some (.fz (.dk keys) os) => match ixOf keys x with
      | some j => st g i ((gt g i).with (.fz (.dk keys) (os.set j o)))
      | none => g
    | _ => g
/-- the value that stands in a place -/
def PlV (cg : Str → Option Value) (σ : L2.St) (H : Hp) (v : V) : Pl → Prop
  | .s i => σ[i]? = some (some v)
  | .a k => σ[k]? = some (some v)
  | .f i c n => ∃ p C dx fs, σ[i]? = some (some (.ref p)) ∧ cg c = some (.ref C) ∧ H p = some (.ins C dx fs) ∧ fs.lookup n = some v
  | .k i x => ∃ p kvs, σ[i]? = some (some (.ref p)) ∧ H p = some (.dK kvs) ∧ valV kvs x = some v
theorem PlV.keep {cg : Str → Option Value} {σ : L2.St} {H H' : Hp} {v : V} {pl : Pl} (h : PlV cg σ H v pl) (e : Same H H') : PlV cg σ H' v pl := by
  cases pl with
  | s i => exact h
  | a k => exact h
  | f i c n =>
    obtain ⟨p, C, dx, fs, h1, h2, h3, h4⟩ := h
    exact ⟨p, C, dx, fs, h1, h2, e _ _ h3, h4⟩
  | k i x =>
    obtain ⟨p, kvs, h1, h2, h3⟩ := h
    exact ⟨p, kvs, h1, e _ _ h2, h3⟩
theorem PlV.uniq {cg : Str → Option Value} {σ : L2.St} {H : Hp} {v v' : V} {pl : Pl} (h : PlV cg σ H v pl) (h' : PlV cg σ H v' pl) : v = v' := by
  cases pl with
  | s i =>
    have := (show σ[i]? = some (some v) from h).symm.trans (show σ[i]? = some (some v') from h')
    cases this
    rfl
  | a k =>
    have := (show σ[k]? = some (some v) from h).symm.trans (show σ[k]? = some (some v') from h')
    cases this
    rfl
  | f i c n =>
    obtain ⟨p, C, dx, fs, h1, h2, h3, h4⟩ := h
    obtain ⟨p', C', dx', fs', h1', h2', h3', h4'⟩ := h'
    rw [h1] at h1'
    cases h1'
    rw [h3] at h3'
    cases h3'
    rw [h4] at h4'
    cases h4'
    rfl
  | k i x =>
    obtain ⟨p, kvs, h1, h2, h3⟩ := h
    obtain ⟨p', kvs', h1', h2', h3'⟩ := h'
    rw [h1] at h1'
    cases h1'
    rw [h2] at h2'
    cases h2'
    rw [h3] at h3'
    cases h3'
    rfl
section
variable {K : PySem.W.Frag} {cg : Cg} {W : WX} {pvs : Pv} {g : Gm} {σ : L2.St} {S S1 S' A : Addr → Prop} {F F1 F' H H1 H' : Hp}
/-- a slot's part changes -/
theorem stp_sub {B B' A A' : Addr → Prop} (hs : ∀ q, B q → A q) (hp : ∀ q, A' q → A q ∨ H q = none) (st : Stp B F H B' F' H') : Stp A F H A' F' H' :=
  ⟨fun q u hq e => st.keep q u (fun z => hq (hs q z)) e, st.fr, fun q u e => (st.nw q u e).imp id fun z => z.imp id (hs q), hp, st.fh⟩
theorem Rel.takeP {pl : Pl} {o : OD} (r : Rel K cg pvs g σ S F H) (e : plOd g pl = some o) : ∃ (v : V) (A : Addr → Prop), PlV cg σ H v pl ∧ Ow K cg F H v o A ∧ (∀ q, A q → S q) ∧
    ∀ o' A' F' H', Stp A F H A' F' H' → Ow K cg F' H' v o' A' → ∃ S', Rel K cg pvs (plPut g o' pl) σ S' F' H' ∧ Stp S F H S' F' H' := by
  cases pl with
  | s i =>
    obtain ⟨v, A, S1, e1, ow, hS, hd, back⟩ := r.take e
    exact ⟨v, A, e1, ow, fun q hq => (hS q).mpr (.inl hq), fun o' A' F' H' st w => ⟨_, back o' A' F' H' st w⟩⟩
  | f i c n =>
    simp only [plOd] at e
    split at e
    · rename_i c' names os eo
      split at e
      · rename_i ec
        split at e
        · rename_i j ej
          obtain ⟨v, A, S1, e1, ow, hS, hd, back⟩ := r.take eo
          obtain ⟨p, vs, w, B, rfl, sh, hl, hw, owp, hB, _, bp⟩ := ow.part e
          obtain ⟨C, dx, z, hp, l⟩ := sh
          refine ⟨w, B, ⟨p, C, dx, _, e1, by rw [← ec]; exact z, hp, ixOf_look ej hw⟩, owp, fun q hq => (hS q).mpr (.inl (hB q hq)), fun o' A' F' H' st w' => ?_⟩
          obtain ⟨A2, ow2, st2⟩ := bp o' A' F' H' st w'
          have b := back _ A2 F' H' st2 ow2
          refine ⟨_, ?_, b.2⟩
          have eg : plPut g o' (.f i c n) = VL.st g i ((gt g i).with (.nd (.ins c' names) (os.set j o'))) := by simp only [plPut, eo, ej]
          rw [eg]
          exact b.1
        · cases e
      · cases e
    · cases e
  | k i x =>
    simp only [plOd] at e
    split at e
    · rename_i keys os eo
      split at e
      · rename_i j ej
        obtain ⟨v, A, S1, e1, ow, hS, hd, back⟩ := r.take eo
        obtain ⟨p, vs, w, B, rfl, sh, hl, hw, owp, hB, bp⟩ := ow.partF e
        obtain ⟨hp, l⟩ := sh
        refine ⟨w, B, ⟨p, _, e1, r.fh _ _ hp, ixOf_val ej hw⟩, owp, fun q hq => (hS q).mpr (.inl (hB q hq)), fun o' A' F' H' st w' => ?_⟩
        obtain ⟨A2, ow2, st2⟩ := bp o' A' F' H' st w'
        have b := back _ A2 F' H' st2 ow2
        refine ⟨_, ?_, b.2⟩
        have eg : plPut g o' (.k i x) = VL.st g i ((gt g i).with (.fz (.dk keys) (os.set j o'))) := by simp only [plPut, eo, ej]
        rw [eg]
        exact b.1
      · cases e
    · cases e
  | a k =>
    simp only [plOd] at e
    split at e
    · rename_i i j ek
      split at e
      · rename_i kd os eo
        have eo' : (gt g i).od = some (.fz kd os) := by rw [eo]; rfl
        obtain ⟨v, A, S1, e1, ow, hS, hd, back⟩ := r.take eo'
        obtain ⟨p, vs, w, B, rfl, sh, hl, hw, owp, hB, bp⟩ := ow.partF e
        obtain ⟨L, h1, h2, h3⟩ := r.ex
        have hi := h1 i
        unfold SlOk at hi
        rw [eo] at hi
        obtain ⟨v', e1', pv', _⟩ := hi
        rw [e1] at e1'
        cases e1'
        have hk := h1 k
        unfold SlOk at hk
        rw [ek] at hk
        obtain ⟨⟨u, p', k', vs', f1, f2, f3, f4⟩, _⟩ := hk
        rw [pv'] at f2
        cases f2
        have evs : u = w := by
          have key : ∀ (q1 q2 : List V), vs'[j]? = q1[j]? → vs[j]? = q2[j]? → q1 = q2 → u = w := fun q1 q2 a b c => by
            rw [f4] at a
            rw [hw] at b
            subst c
            rw [← a] at b
            cases b
            rfl
          cases kd with
          | ls =>
            cases k' with
            | ls =>
              have := (show F p = some (.lst vs) from sh).symm.trans (show F p = some (.lst vs') from f3)
              cases this
              exact key vs vs rfl rfl rfl
            | tp =>
              have := (show F p = some (.lst vs) from sh).symm.trans (show F p = some (.tup vs') from f3)
              cases this
            | dk ks =>
              have := (show F p = some (.lst vs) from sh).symm.trans f3.1
              cases this
            | ins c ns =>
              obtain ⟨C, dx, _, z, _⟩ := f3
              have := (show F p = some (.lst vs) from sh).symm.trans z
              cases this
          | tp =>
            cases k' with
            | tp =>
              have := (show F p = some (.tup vs) from sh).symm.trans (show F p = some (.tup vs') from f3)
              cases this
              exact key vs vs rfl rfl rfl
            | ls =>
              have := (show F p = some (.tup vs) from sh).symm.trans (show F p = some (.lst vs') from f3)
              cases this
            | dk ks =>
              have := (show F p = some (.tup vs) from sh).symm.trans f3.1
              cases this
            | ins c ns =>
              obtain ⟨C, dx, _, z, _⟩ := f3
              have := (show F p = some (.tup vs) from sh).symm.trans z
              cases this
          | dk keys =>
            cases k' with
            | dk ks =>
              have z := sh.1.symm.trans f3.1
              injection z with z
              injection z with z
              have a1 := congrArg (List.map Prod.snd) z
              rw [List.map_snd_zip (by rw [sh.2]; exact Nat.le_refl _), List.map_snd_zip (by rw [f3.2]; exact Nat.le_refl _)] at a1
              exact key vs' vs rfl rfl a1.symm
            | ls =>
              have := sh.1.symm.trans (show F p = some (.lst vs') from f3)
              cases this
            | tp =>
              have := sh.1.symm.trans (show F p = some (.tup vs') from f3)
              cases this
            | ins c ns =>
              obtain ⟨C, dx, _, z, _⟩ := f3
              have := sh.1.symm.trans z
              cases this
          | ins c ns =>
            obtain ⟨C, dx, _, y, yl⟩ := sh
            cases k' with
            | ins c' ns' =>
              obtain ⟨C', dx', _, z, zl⟩ := f3
              have z := y.symm.trans z
              injection z with z
              injection z with _ _ z
              have a1 := congrArg (List.map Prod.snd) z
              rw [List.map_snd_zip (by rw [yl]; exact Nat.le_refl _), List.map_snd_zip (by rw [zl]; exact Nat.le_refl _)] at a1
              exact key vs' vs rfl rfl a1.symm
            | ls =>
              have := y.symm.trans (show F p = some (.lst vs') from f3)
              cases this
            | tp =>
              have := y.symm.trans (show F p = some (.tup vs') from f3)
              cases this
            | dk ks =>
              have := y.symm.trans f3.1
              cases this
        subst evs
        refine ⟨u, B, f1, owp, fun q hq => (hS q).mpr (.inl (hB q hq)), fun o' A' F' H' st w' => ?_⟩
        obtain ⟨A2, ow2, st2⟩ := bp o' A' F' H' st w'
        have b := back _ A2 F' H' st2 ow2
        rw [eo] at b
        refine ⟨_, ?_, b.2⟩
        have eg : plPut g o' (.a k) = VL.st g i (.pin (.fz kd (os.set j o'))) := by simp only [plPut, ek, eo]
        rw [eg]
        exact b.1
      · cases e
    · cases e
/-- t reads the place -/
def RdPl (K : PySem.W.Frag) (cg : Cg) (t : TE) (pl : Pl) : Prop := ∀ σ H Q v, PlV cg σ H v pl → Q v H → t σ H Q
theorem rd_s (i : Nat) : RdPl K cg (tVar i) (.s i) := fun σ H Q v h q => ⟨v, h, q⟩
theorem rd_a (k : Nat) : RdPl K cg (tVar k) (.a k) := fun σ H Q v h q => ⟨v, h, q⟩
/-- a class of the text, for its attribute n -/
def AK (K : PySem.W.Frag) (mg : Str → Option Value) (c n : Str) : Prop := ∃ C, mg c = some (.ref C) ∧ L2.Cls K C ∧ NoAttr K C n
theorem rd_f {c n : Str} (i : Nat) (hc : AK K cg c n) : RdPl K cg (tFld K (tVar i) n) (.f i c n) := fun σ H Q v h q => by
  obtain ⟨p, C, dx, fs, h1, h2, h3, h4⟩ := h
  obtain ⟨C', z, cl, na⟩ := hc
  rw [h2] at z
  cases z
  exact ⟨_, h1, p, C, dx, fs, v, rfl, h3, cl, na, h4, q⟩
/-! ### reading -/
def wP (pl : Pl) (g : Gm) : Res PyData :=
  match plOd g pl with
  | some (.dat d) => .ok d
  | some (.lst ds) => .ok (.list ds)
  | _ => .stk
theorem rw_pl {t : TE} {pl : Pl} (rd : RdPl K cg t pl) : RW K cg W t (wP pl) := fun pvs g σ S F H Q r q => by
  unfold wP at q
  split at q
  · rename_i d e
    obtain ⟨v, A, pv, ow, _⟩ := r.takeP e
    cases ow with
    | dat hd _ => exact rd σ H Q v pv (q v F H (.refl r.fh) (hd.vw r.fh))
  · rename_i ds e
    obtain ⟨v, A, pv, ow, _⟩ := r.takeP e
    cases ow with
    | lst a1 a2 a3 a4 => exact rd σ H Q _ pv (q _ F H (.refl r.fh) ⟨_, _, rfl, a1, a3⟩)
  · exact q.elim
/-- the list in a place -/
theorem Rel.lstP {pl : Pl} {ds : List PyData} (r : Rel K cg pvs g σ S F H) (e : plOd g pl = some (.lst ds)) : ∃ p vs, PlV cg σ H (.ref p) pl ∧ H p = some (.lst vs) ∧ DqA K F vs ds ∧
    ∀ vs' ds', DqA K F vs' ds' → ∃ S', Rel K cg pvs (plPut g (.lst ds') pl) σ S' F (upd H p (.lst vs')) ∧ Stp S F H S' F (upd H p (.lst vs')) := by
  obtain ⟨v, A, pv, ow, hs, back⟩ := r.takeP e
  cases ow with
  | @lst p vs ds _ h1 h2 h3 h4 =>
    refine ⟨p, vs, pv, h1, h3, fun vs' ds' h' => ?_⟩
    have s0 := stp_upd (o := .lst vs') r.fh h2
    have s1 : Stp A F H (fun q => q = p) F (upd H p (.lst vs')) := ⟨fun b u hb hh => s0.keep b u (fun z => hb ((h4 b).mpr z)) hh, s0.fr, fun b u hh => .inl ⟨u, hh⟩, fun b hb => .inl ((h4 b).mpr hb), s0.fh⟩
    exact back (.lst ds') (fun q => q = p) F _ s1 (.lst upd_same h2 h' fun _ => Iff.rfl)
/-! ### x[i] = e -/
def sSetP (pl : Pl) (mi : Gm → Res PyData) (me : Gm → Out PyData) (g : Gm) : SOut :=
  match me g with
  | .ok d g1 => match plOd g1 pl with
    | some (.lst ds) => match mi g1 with
      | .ok (.int n) => match ixN ds.length n with
        | some j => .nx (plPut g1 (.lst (ds.set j d)) pl)
        | none => .stk
      | .err e => .err e g1
      | _ => .stk
    | _ => .stk
  | .err e g1 => .err e g1
  | .stk => .stk
theorem rs_setP {to te ti : TE} {me : Gm → Out PyData} {mi : Gm → Res PyData} {pl : Pl} (rd : RdPl K cg to pl) (he : RV K cg W te me) (hi : RW K cg W ti mi) : RS K cg W (tAsg te (gSub to ti rSetL)) (sSetP pl mi me) := fun pvs g σ S F H D r q => by
  refine he pvs g σ S F H _ r ?_
  unfold sSetP at q
  cases e1 : me g with
  | err e' g1 =>
    rw [e1] at q
    exact ErrS.p q
  | stk =>
    rw [e1] at q
    exact q.elim
  | ok d g1 =>
    rw [e1] at q
    intro v S1 F1 H1 s1 r1 d1
    simp only at q
    replace q := PoS.st q s1
    split at q
    · rename_i ds eo
      obtain ⟨p, vs, pv, h1, h2, back⟩ := r1.lstP eo
      refine rd σ H1 _ _ pv ?_
      refine hi pvs g1 σ S1 F1 H1 _ r1 ?_
      split at q
      · rename_i n em
        rw [em]
        intro iv F2 H2 p2 vi
        have ei := vi.int
        subst ei
        have eo2 : plOd g1 pl = some (.lst ds) := eo
        have r2 := r1.pst p2
        obtain ⟨p', vs', pv', h1', h2', back'⟩ := r2.lstP eo2
        have := (pv.keep p2.keep).uniq pv'
        cases this
        split at q
        · rename_i j ej
          obtain ⟨S3, r3, s3⟩ := back' _ _ (dpa_set (dp_mo d1 p2.fr) j h2')
          have hl : vs'.length = ds.length := dpa_len h2'
          exact ⟨p, vs', n, j, rfl, rfl, h1', by rw [hl]; exact ej, (PoS.st q p2.stp) σ S3 F2 _ s3 r3⟩
        · exact q.elim
      · rename_i e' em
        rw [em]
        intro C dop F' H' p2 hc hx
        exact (ErrS.p (σ := σ) q) C dop S1 F' H' p2.stp (r1.pst p2) hc hx
      · exact q.elim
    · exact q.elim
end
end VL
/-! The value layer, part 25: instances: attributes, methods, new ones. -/
namespace VL
open PySem PySem.Spec PyProof.Rows L2
/-! ### x[i] += e -/
def rGetL : V → V → Hp → VK → Prop := fun o i H Q => ∃ p xs n v, o = .ref p ∧ i = .int n ∧ H p = some (.lst xs) ∧ 0 ≤ n ∧ xs[n.toNat]? = some v ∧ Q v H
theorem get_listP {X : Cx} : PGet X rGetL := by
  intro pins s σ H o i ov iv Q I ro ri h
  obtain ⟨p, xs, n, v, rfl, rfl, hp, h0, hx, q⟩ := h
  cases ro
  obtain ⟨t, rfl⟩ := ri
  obtain ⟨its, r, pl, hz⟩ := I.list (SqL.of hp)
  obtain ⟨w, ew, rw'⟩ := r.get hx
  have hl := r.length
  have hn := line63
  have hlt := (List.getElem?_eq_some_iff.mp hx).1
  exact wpAny_getItem_list pl.isList h0 (by omega) (by simpa using ew) ⟨v, H, I, rw', q⟩
section
variable {K : PySem.W.Frag} {cg : Cg} {W : WX} {pvs : Pv} {g : Gm} {σ : L2.St} {S S1 S' A : Addr → Prop} {F F1 F' H H1 H' : Hp}
def sAugP (pl : Pl) (f : Int → Int → Int) (mi me : Gm → Res PyData) (g : Gm) : SOut :=
  match plOd g pl with
  | some (.lst ds) => match mi g with
    | .ok (.int n) => if 0 ≤ n then (match ds[n.toNat]? with
      | some (.int a) => match me g with
        | .ok (.int b) => .nx (plPut g (.lst (ds.set n.toNat (.int (f a b)))) pl)
        | .err e => .err e g
        | _ => .stk
      | _ => .stk) else .stk
    | .err e => .err e g
    | _ => .stk
  | _ => .stk
theorem rs_augP {to ti te : TE} {mi me : Gm → Res PyData} {pl : Pl} {f : Int → Int → Int} (rd : RdPl K cg to pl) (hi : RW K cg W ti mi) (he : RW K cg W te me) : RS K cg W (tAugS to ti te rGetL (ipI f) rSetL) (sAugP pl f mi me) := fun pvs g σ S F H D r q => by
  unfold sAugP at q
  split at q
  · rename_i ds eo
    obtain ⟨p, vs, pv, h1, h2, _⟩ := r.lstP eo
    refine rd σ H _ _ pv ?_
    refine hi pvs g σ S F H _ r ?_
    split at q
    · rename_i n em
      rw [em]
      intro iv F2 H2 p2 vi
      have ei := vi.int
      subst ei
      have r2 := r.pst p2
      split at q
      · rename_i h0
        split at q
        · rename_i a ea
          have hd2 : DqA K F2 vs ds := dpa_mo h2 p2.fr
          obtain ⟨w, ew, dw⟩ := dpa_get' hd2 ea
          cases dw
          refine ⟨p, vs, n, _, rfl, rfl, p2.keep _ _ h1, h0, ew, ?_⟩
          refine he pvs g σ S F2 H2 _ r2 ?_
          split at q
          · rename_i b eb
            rw [eb]
            intro bv F3 H3 p3 vb
            have ebv := vb.int
            subst ebv
            have r3 := r2.pst p3
            obtain ⟨p', vs', pv', h1', h2', back'⟩ := r3.lstP eo
            have := (pv.keep (p2.trans p3).keep).uniq pv'
            cases this
            have e1 := (p2.trans p3).keep _ _ h1
            rw [h1'] at e1
            cases e1
            refine ⟨a, b, rfl, rfl, ?_⟩
            have hlt := (List.getElem?_eq_some_iff.mp ea).1
            obtain ⟨S4, r4, s4⟩ := back' _ _ (dpa_set (.int (f a b)) n.toNat h2')
            have ix : ixN vs.length n = some n.toNat := by
              have hl := dpa_len h2'
              unfold ixN
              rw [if_pos h0, if_pos (by omega)]
            exact ⟨p, vs, n, n.toNat, rfl, rfl, h1', ix, (PoS.st q (p2.trans p3).stp) σ S4 F3 _ s4 r4⟩
          · rename_i e' eb
            rw [eb]
            intro C dop F' H' p3 hc hx
            exact (ErrS.p (σ := σ) q) C dop S F' H' (p2.trans p3).stp (r2.pst p3) hc hx
          · exact q.elim
        · exact q.elim
      · exact q.elim
    · rename_i e' em
      rw [em]
      intro C dop F' H' p2 hc hx
      exact (ErrS.p (σ := σ) q) C dop S F' H' p2.stp (r.pst p2) hc hx
    · exact q.elim
  · exact q.elim
/-! ### x.n = e -/
theorem putF_set : ∀ {names : List Str} {vs : List V} {n : Str} {j : Nat} {y : V}, ixOf names n = some j → names.length = vs.length → putF n y (names.zip vs) = names.zip (vs.set j y)
  | [], _, _, _, _, h, _ => by cases h
  | x :: r, [], _, _, _, _, h => by simp at h
  | x :: r, w :: vs, n, j, y, h, hl => by
    unfold ixOf at h
    split at h
    · rename_i hx
      cases h
      simp [putF, hx]
    · rename_i hx
      obtain ⟨i, hi, rfl⟩ := Option.map_eq_some_iff.mp h
      have := putF_set (y := y) hi (by simpa using hl)
      simp [putF, hx, this]
theorem putF_new : ∀ {names : List Str} {vs : List V} {n : Str} {y : V}, ixOf names n = none → names.length = vs.length → putF n y (names.zip vs) = (names ++ [n]).zip (vs ++ [y])
  | [], [], _, _, _, _ => rfl
  | [], _ :: _, _, _, _, h => by simp at h
  | x :: r, [], _, _, _, h => by simp at h
  | x :: r, w :: vs, n, y, h, hl => by
    unfold ixOf at h
    split at h
    · cases h
    · rename_i hx
      have hi : ixOf r n = none := by simpa using h
      have := putF_new (y := y) hi (by simpa using hl)
      simp [putF, hx, this]
def sFldP (i : Nat) (c n : Str) (mo : Gm → Out OD) (g : Gm) : SOut :=
  match mo g with
  | .ok o g1 => match (gt g1 i).od with
    | some (.nd (.ins c' names) os) => if c' = c ∧ names.length < 900 then (match ixOf names n with
      | some j => .nx (st g1 i ((gt g1 i).with (.nd (.ins c names) (os.set j o))))
      | none => .nx (st g1 i ((gt g1 i).with (.nd (.ins c (names ++ [n])) (os ++ [o]))))) else .stk
    | _ => .stk
  | .err e g1 => .err e g1
  | .stk => .stk
/-- a new part beside the others -/
theorem Ow.newPart {B : Addr → Prop} {p : Addr} {k k' : Kd} {vs : List V} {os : List OD} {L : Nat → Addr → Prop} {w : V} {o' : OD} {u : HO} {j : Nat} (h2 : F p = none) (P : Pts K cg F H vs os L) (h6 : ∀ i, ¬ L i p) (hw : Ow K cg F H w o' B) (hB : ∀ q, B q → q ≠ p ∧ ∀ i, ¬ L i q) (e : Same F H) (hp : ∃ u, H p = some u)
    (sh : Shp cg (upd H p u) p k' (if j < vs.length then vs.set j w else vs ++ [w])) :
    Ow K cg F (upd H p u) (.ref p) (.nd k' (if j < os.length then os.set j o' else os ++ [o'])) (fun q => q = p ∨ ∃ i, (if i = (if j < os.length then j else os.length) then B else L i) q) := by
  have ne : ∀ q, q ≠ p → upd H p u q = H q := fun q hq => upd_ne hq
  have hl := P.len
  generalize hJ : (if j < os.length then j else os.length) = J
  have hval : ∀ (i : Nat) (v : V) (o : OD), (if j < vs.length then vs.set j w else vs ++ [w])[i]? = some v → (if j < os.length then os.set j o' else os ++ [o'])[i]? = some o → (i = J ∧ v = w ∧ o = o') ∨ (i ≠ J ∧ vs[i]? = some v ∧ os[i]? = some o) := by
    intro i v o e1 e2
    by_cases hj : j < os.length
    · rw [if_pos (by omega)] at e1
      rw [if_pos hj] at e2 hJ
      subst hJ
      by_cases z : i = j
      · subst z
        rw [List.getElem?_set_self (by omega)] at e1
        rw [List.getElem?_set_self hj] at e2
        cases e1
        cases e2
        exact .inl ⟨rfl, rfl, rfl⟩
      · rw [List.getElem?_set_ne (Ne.symm z)] at e1 e2
        exact .inr ⟨z, e1, e2⟩
    · rw [if_neg (by omega)] at e1
      rw [if_neg hj] at e2 hJ
      subst hJ
      by_cases z : i = os.length
      · subst z
        rw [← hl] at e1
        simp at e1
        simp at e2
        exact .inl ⟨rfl, e1.symm, e2.symm⟩
      · have hi : i < os.length + 1 := by
          have := (List.getElem?_eq_some_iff.mp e2).1
          simpa using this
        rw [List.getElem?_append_left (by omega)] at e1 e2
        exact .inr ⟨z, e1, e2⟩
  refine .nd (L := fun i => if i = J then B else L i) sh h2 ?_ (fun i v o e1 e2 => ?_) (fun i i' q hii hi hi' => ?_) (fun i hi => ?_) (fun i q hi => ?_) fun _ => Iff.rfl
  · by_cases hj : j < os.length
    · rw [if_pos hj, if_pos (by omega), List.length_set, List.length_set]
      exact hl
    · rw [if_neg hj, if_neg (by omega)]
      simp [hl]
  · rcases hval i v o e1 e2 with ⟨z, rfl, rfl⟩ | ⟨z, a1, a2⟩
    · simp only [if_pos z]
      exact hw.mo (fun _ _ h => h) (fun q hq => ne q (hB q hq).1) fun q hq => (hw.at hq).1
    · simp only [if_neg z]
      have b := P.ow i v o a1 a2
      exact b.mo (fun _ _ h => h) (fun q hq => ne q (fun y => h6 i (y ▸ hq))) fun q hq => (b.at hq).1
  · by_cases z : i = J
    · simp only [if_pos z] at hi
      by_cases y : i' = J
      · exact hii (z.trans y.symm)
      · simp only [if_neg y] at hi'
        exact (hB q hi).2 i' hi'
    · simp only [if_neg z] at hi
      by_cases y : i' = J
      · simp only [if_pos y] at hi'
        exact (hB q hi').2 i hi
      · simp only [if_neg y] at hi'
        exact P.dj i i' q hii hi hi'
  · by_cases z : i = J
    · simp only [if_pos z] at hi
      exact (hB p hi).1 rfl
    · simp only [if_neg z] at hi
      exact h6 i hi
  · by_cases z : i = J
    · exfalso
      by_cases hj : j < os.length
      · rw [if_pos hj] at hi hJ
        rw [List.length_set] at hi
        omega
      · rw [if_neg hj] at hi hJ
        simp at hi
        omega
    · simp only [if_neg z]
      refine P.out i q ?_
      by_cases hj : j < os.length
      · rw [if_pos hj, List.length_set] at hi
        exact hi
      · rw [if_neg hj] at hi
        simp at hi
        omega
/-- a slot is taken out; how something else in its place comes back -/
theorem Rel.swap {i : Nat} {o : OD} (r : Rel K cg pvs g σ S F H) (e : (gt g i).od = some o) : ∃ (v : V) (A S1 : Addr → Prop), σ[i]? = some (some v) ∧ Ow K cg F H v o A ∧ (∀ q, S q ↔ A q ∨ S1 q) ∧ (∀ q, A q → S1 q → False) ∧
    ∀ o' A' F' H', Same F F' → Same F' H' → (∀ q, S1 q → H' q = H q ∧ F' q = none) → (∀ q, A' q → S1 q → False) → Ow K cg F' H' v o' A' → Rel K cg pvs (VL.st g i ((gt g i).with o')) σ (fun q => A' q ∨ S1 q) F' H' := by
  obtain ⟨L, h1, h2, h3⟩ := r.ex
  have hi : i < g.length := gt_lt fun z => by
    rw [z] at e
    cases e
  have h := h1 i
  unfold SlOk at h
  have key : ∃ v, σ[i]? = some (some v) ∧ Ow K cg F H v o (L i) ∧ ∀ o' A' F' H', Ow K cg F' H' v o' A' → SlOk K cg F' H' pvs σ (VL.st g i ((gt g i).with o')) i A' := by
    cases q : gt g i with
    | no =>
      rw [q] at e
      cases e
    | al j n =>
      rw [q] at e
      cases e
    | xc =>
      rw [q] at e
      cases e
    | v o1 =>
      rw [q] at e h
      cases e
      obtain ⟨v, e1, h⟩ := h
      refine ⟨v, e1, h, fun o' A' F' H' w => ?_⟩
      unfold SlOk
      rw [gt_st hi]
      exact ⟨v, e1, w⟩
    | pin o1 =>
      rw [q] at e h
      cases e
      obtain ⟨v, e1, e2, h⟩ := h
      refine ⟨v, e1, h, fun o' A' F' H' w => ?_⟩
      unfold SlOk
      rw [gt_st hi]
      exact ⟨v, e1, e2, w⟩
  obtain ⟨v, e1, ow, back⟩ := key
  refine ⟨v, L i, fun q => ∃ j, j ≠ i ∧ L j q, e1, ow, fun q => ?_, fun q ha ⟨j, hj, hb⟩ => h2 j i q hj hb ha, fun o' A' F' H' eF fh' ot dj w => ?_⟩
  · refine ⟨fun hq => ?_, fun hq => ?_⟩
    · obtain ⟨j, hj⟩ := (h3 q).mp hq
      by_cases z : j = i
      · subst z
        exact .inl hj
      · exact .inr ⟨j, z, hj⟩
    · rcases hq with hq | ⟨j, _, hq⟩
      · exact (h3 q).mpr ⟨i, hq⟩
      · exact (h3 q).mpr ⟨j, hq⟩
  · refine ⟨fh', by rw [st_len]; exact r.len, r.z, fun j => if j = i then A' else L j, fun j => ?_, fun j k q hjk hj hk => ?_, fun q => ?_⟩
    · by_cases z : j = i
      · subst z
        simp only [if_true]
        exact back o' A' F' H' w
      · simp only [if_neg z]
        have b := (h1 j).mo eF (fun p hp => (ot p ⟨j, z, hp⟩).1) (fun p hp => (ot p ⟨j, z, hp⟩).2)
        unfold SlOk at b ⊢
        rw [gt_st_ne z]
        exact b
    · by_cases z : j = i
      · subst z
        simp only [if_true] at hj
        by_cases y : k = j
        · exact hjk y.symm
        · simp only [if_neg y] at hk
          exact dj q hj ⟨k, y, hk⟩
      · simp only [if_neg z] at hj
        by_cases y : k = i
        · subst y
          simp only [if_true] at hk
          exact dj q hk ⟨j, z, hj⟩
        · simp only [if_neg y] at hk
          exact h2 j k q hjk hj hk
    · refine ⟨fun hq => ?_, fun ⟨j, hj⟩ => ?_⟩
      · rcases hq with hq | ⟨j, hj, hq⟩
        · exact ⟨i, by simp only [if_true]; exact hq⟩
        · exact ⟨j, by simp only [if_neg hj]; exact hq⟩
      · by_cases z : j = i
        · subst z
          simp only [if_true] at hj
          exact .inl hj
        · simp only [if_neg z] at hj
          exact .inr ⟨j, z, hj⟩
theorem rs_fld {c n : Str} {i : Nat} {tv : TE} {mo : Gm → Out OD} (hc : AK K cg c n) (ho : RO K cg W tv mo) : RS K cg W (sFld K (tVar i) tv n) (sFldP i c n mo) := fun pvs g σ S F H D r q => by
  refine ho pvs g σ S F H _ r ?_
  unfold sFldP at q
  cases e : mo g with
  | err e' g1 =>
    rw [e] at q
    exact ErrS.p q
  | stk =>
    rw [e] at q
    exact q.elim
  | ok o g1 =>
    rw [e] at q
    intro y B S1 F1 H1 s1 r1 ow1 dj1
    simp only at q
    split at q
    · rename_i c' names os eo
      split at q
      · rename_i hcn
        obtain ⟨rfl, hlen⟩ := hcn
        obtain ⟨v, A, S2, e1, ow, hS, hd, back⟩ := r1.swap eo
        obtain ⟨C', z, cl, na⟩ := hc
        cases ow with
        | @nd p k vs os L A h1 h2 h3 h4 h5 h6 h7 h8 =>
          obtain ⟨C, dx, zc, hp, l⟩ := h1
          have ec : C' = C := by
            rw [zc] at z
            cases z
            rfl
          subst ec
          refine ⟨_, e1, p, C', dx, _, rfl, hp, cl, na, by rw [List.length_zip, l, Nat.min_self]; omega, ?_⟩
          have P : Pts K cg F1 H1 vs os L := ⟨h3, h4, h5, h7⟩
          have hB : ∀ q, B q → q ≠ p ∧ ∀ i, ¬ L i q := fun q hq => ⟨fun z => by
            subst z
            exact dj1 _ hq ((hS _).mpr (.inl ((h8 _).mpr (.inl rfl)))), fun i hi => dj1 q hq ((hS q).mpr (.inl ((h8 q).mpr (.inr ⟨i, hi⟩))))⟩
          have fin : ∀ (j : Nat) (ns : List Str) (os2 : List OD) (vs2 : List V), (if j < os.length then os.set j o else os ++ [o]) = os2 → (if j < vs.length then vs.set j y else vs ++ [y]) = vs2 → ns.length = vs2.length → putF n y (names.zip vs) = ns.zip vs2 →
              PoS K cg W pvs S F H D (.nx (st g1 i ((gt g1 i).with (.nd (.ins c' ns) os2)))) → D.nx σ (upd H1 p (.ins C' dx (putF n y (names.zip vs)))) := by
            intro j ns os2 vs2 eo2 ev2 el ep q
            have own := Ow.newPart (k' := .ins c' ns) (u := .ins C' dx (ns.zip vs2)) (j := j) (k := .ls) h2 P h6 ow1 hB r1.fh ⟨_, hp⟩ (by
              rw [ev2]
              exact ⟨C', dx, zc, upd_same, el⟩)
            rw [eo2] at own
            rw [ep]
            have u0 := stp_upd (o := .ins C' dx (ns.zip vs2)) r1.fh h2
            have pA : A p := (h8 p).mpr (.inl rfl)
            have nA : ∀ b, (b = p ∨ ∃ i, (if i = (if j < os.length then j else os.length) then B else L i) b) → A b ∨ B b := fun b hb => by
              rcases hb with hb | ⟨i', hb⟩
              · exact .inl ((h8 b).mpr (.inl hb))
              · by_cases y : i' = (if j < os.length then j else os.length)
                · rw [if_pos y] at hb
                  exact .inr hb
                · rw [if_neg y] at hb
                  exact .inl ((h8 b).mpr (.inr ⟨_, hb⟩))
            have r3 := back _ _ F1 _ (fun _ _ h => h) u0.fh (fun b hb => ⟨upd_ne fun z => hd b (z ▸ pA) hb, (r1.at ((hS b).mpr (.inr hb))).1⟩) (fun b hb hs => (nA b hb).elim (fun y => hd b y hs) fun y => dj1 b y ((hS b).mpr (.inr hs))) own
            refine q σ _ F1 _ ?_ r3
            refine s1.trans ⟨fun b u hb hh => u0.keep b u (fun z => hb (.inl ((hS b).mpr (.inl (z ▸ pA))))) hh, u0.fr, fun b u hh => .inl ⟨u, hh⟩, fun b hb => .inl ?_, u0.fh⟩
            rcases hb with hb | hb
            · rcases nA b hb with y | y
              · exact .inl ((hS b).mpr (.inl y))
              · exact .inr y
            · exact .inl ((hS b).mpr (.inr hb))
          split at q
          · rename_i j ej
            have hj := ixOf_lt ej
            exact fin j names (os.set j o) (vs.set j y) (if_pos (by omega)) (if_pos (by omega)) (by rw [List.length_set]; exact l) (putF_set ej l) q
          · rename_i ej
            exact fin os.length (names ++ [n]) (os ++ [o]) (vs ++ [y]) (if_neg (by omega)) (if_neg (by omega)) (by simp [l]) (putF_new ej l) q
      · exact q.elim
    · exact q.elim
end
end VL
/-! The value layer, part 26: methods, new instances, tuples of owned things, aliases. -/
namespace VL
open PySem PySem.Spec PyProof.Rows L2
/-! ### o.m(..) -/
def tMeC (C : Addr) (nm : Str) (ta : TE) (t : TA) : TA := fun σ H Q => ta σ H fun x H1 => (∃ a dx fs, x = .ref a ∧ H1 a = some (.ins C dx fs) ∧ fs.lookup nm = none) ∧ t σ H1 fun vs H2 => Q (x :: vs) H2
section
variable {X : Cx} {CX : CXT} {k : Nat} {f C : Addr} {fd : FuncData} {ps : List Str} {sp : Sp} {E : L2.St → L2.XK} {m : Str} {pos apos : Pos} {e o : Expr} {es : List Expr} {ta : TE} {t : TA}
theorem pe_methS {pl : Sem Bool} (he : PE X o ta) (c : L2.Cls X.K C) (hm : Meth X.K C m f) (F : FnOk X.prog X.w X.K X.mg X.base CX k f fd ps sp) (hr : Room k X.A) (hb : Binds X.K fd ps []) (hx : ∀ σ, PassesAt CX X σ (E σ)) (ha : PA X (e :: es) t)
    (hst : starEach (e :: es) X.env = (false, eval e X.env) :: starEach es X.env := by rfl) (hpl : (backTo pos (starEach es X.env)).any (·.1) = false := by rfl)
    (ht : eval (.Call (.Attribute o m apos) (e :: es) [] pos) X.env = (eval o X.env >>= fun ov => standAt apos.atName >>= fun _ => holding [ov] (getMethod ov m pl) >>= fun (f, first) => callWith pos f first (backTo pos (starEach (e :: es) X.env)) (backToKw pos (keywordEach [] X.env))) := by rfl) :
    PE X (.Call (.Attribute o m apos) (e :: es) [] pos) (tCallS sp E (tMeC C m ta t)) := by
  refine ⟨fun pins s σ H Q I h => ?_⟩
  refine PySem.W.methodCall_KW (pl := pl) (thn (he.run pins s σ H _ I h) fun u s1 ⟨x, H1, I1, rx, ⟨a, dx, fs, ex, ea, l⟩, q⟩ => ?_) ht
  subst ex
  cases (show u = Value.ref a from rx)
  refine getmeth_ok I1 ea c hm l ?_
  refine PySem.W.callWith_K (first := [.ref a]) (h₀ := X.base) I.ok.mod.kin hm.kp (thn (ha.run pos pins s1 σ H1 _ I1 q) fun us s2 ⟨vs, H2, I2, r, q2⟩ => ⟨I2.kIn, ?_⟩) hst hpl
  exact run_fnS (us := .ref a :: us) (vs := .ref a :: vs) F hr hb (hx σ) I2 (.cons rfl r) q2
theorem pe_methS0 {pl : Sem Bool} (he : PE X o ta) (c : L2.Cls X.K C) (hm : Meth X.K C m f) (F : FnOk X.prog X.w X.K X.mg X.base CX k f fd ps sp) (hr : Room k X.A) (hb : Binds X.K fd ps []) (hx : ∀ σ, PassesAt CX X σ (E σ))
    (ht : eval (.Call (.Attribute o m apos) [] [] pos) X.env = (eval o X.env >>= fun ov => standAt apos.atName >>= fun _ => holding [ov] (getMethod ov m pl) >>= fun (f, first) => callWith pos f first (backTo pos (starEach [] X.env)) (backToKw pos (keywordEach [] X.env))) := by rfl) :
    PE X (.Call (.Attribute o m apos) [] [] pos) (tCallS sp E (tMeC C m ta tNil)) := by
  refine ⟨fun pins s σ H Q I h => ?_⟩
  refine PySem.W.methodCall_KW (pl := pl) (thn (he.run pins s σ H _ I h) fun u s1 ⟨x, H1, I1, rx, ⟨a, dx, fs, ex, ea, l⟩, q⟩ => ?_) ht
  subst ex
  cases (show u = Value.ref a from rx)
  refine getmeth_ok I1 ea c hm l ?_
  exact PySem.W.callWith_K0 (first := [.ref a]) I1.kIn hm.kp (run_fnS (us := [.ref a]) (vs := [.ref a]) F hr hb (hx σ) I1 (.cons rfl .nil) q)
end
theorem ixOf_none : ∀ {names : List Str} {vs : List V} {n : Str}, ixOf names n = none → (names.zip vs).lookup n = none
  | [], _, _, _ => rfl
  | x :: r, [], _, _ => rfl
  | x :: r, w :: vs, n, h => by
    unfold ixOf at h
    split at h
    · cases h
    · rename_i hx
      have hi : ixOf r n = none := by simpa using h
      have hx' : (n == x) = false := by
        rw [beq_eq_false_iff_ne]
        exact fun z => hx z.symm
      simp only [List.zip_cons_cons, List.lookup, hx']
      exact ixOf_none hi
/-- the method nm of the class c keeps its mirror -/
def MK (P : Program) (w : World) (K : PySem.W.Frag) (mg : Str → Option Value) (base : Heap) (k : Nat) (c nm : Str) (ps : List Str) (m : List OD → FOut) : Prop :=
  ∃ C f fd, mg c = some (.ref C) ∧ L2.Cls K C ∧ Meth K C nm f ∧ FnOk P w K mg base (L2.CX P w) k f fd ps (spL K mg ps.length m) ∧ Binds K fd ps []
section
variable {K : PySem.W.Frag} {cg : Cg} {W : WX} {pvs : Pv} {g : Gm} {σ : L2.St} {S S1 S' A : Addr → Prop} {F F1 F' H H1 H' : Hp}
/-- the receiver in a slot, then the arguments -/
def lLC (i : Nat) (c nm : Str) (r : Gm → Out (List Ar)) (g : Gm) : Out (List Ar) :=
  match (gt g i).od with
  | some (.nd (.ins c' names) _) => if c' = c ∧ ixOf names nm = none then lL i r g else .stk
  | _ => .stk
theorem Rel.insAt {i : Nat} {c : Str} {names : List Str} {os : List OD} {C : Addr} (r : Rel K cg pvs g σ S F H) (hc : cg c = some (.ref C)) (e : (gt g i).od = some (.nd (.ins c names) os)) : ∃ p dx vs, σ[i]? = some (some (.ref p)) ∧ H p = some (.ins C dx (names.zip vs)) := by
  obtain ⟨v, A, S1, e1, ow, _⟩ := r.take e
  cases ow with
  | @nd p k vs os L A h1 h2 h3 h4 h5 h6 h7 h8 =>
    obtain ⟨C', dx, z, hp, l⟩ := h1
    rw [hc] at z
    cases z
    exact ⟨p, dx, vs, e1, hp⟩
theorem rl_lc {i : Nat} {c nm : Str} {C : Addr} {t : TA} {mr : Gm → Out (List Ar)} (hc : cg c = some (.ref C)) (hr : RL K cg W t mr) : RL K cg W (tMeC C nm (tVar i) t) (lLC i c nm mr) := fun pvs g σ S F H Q r q => by
  unfold lLC at q
  split at q
  · rename_i c' names os eo
    split at q
    · rename_i hcn
      obtain ⟨rfl, hn⟩ := hcn
      obtain ⟨p, dx, vs, e1, hp⟩ := r.insAt hc eo
      obtain ⟨v, ev, rest⟩ := rl_l (i := i) hr pvs g σ S F H Q r q
      rw [e1] at ev
      cases ev
      exact ⟨_, e1, ⟨p, dx, _, rfl, hp, ixOf_none hn⟩, rest⟩
    · exact q.elim
  · exact q.elim
end
section
variable {X : Cx} {W : Wz} {e o : Expr} {es : List Expr} {pos p apos : Pos} {x c nm : Str} {k j : Nat} {ps : List Str} {m : List OD → FOut}
theorem do_mk {n : Nat} {ml : Gm → Out (List Ar)} {pl : Sem Bool} (i : Nat) (M : MK X.prog X.w X.K X.mg X.base k c nm ps m) (hr : Room j X.A) (hk : k ≤ j) (tk : Takes X W.x) (ha : DL X W (e :: es) ml)
    (hN : X.N[i]? = some x := by rfl) (hv : Vis X.env.scope x := by first | exact Or.inl rfl | exact Or.inr (Or.inl rfl) | exact Or.inr (Or.inr rfl)) (hd : (x == ("__debug__" : Str)) = false := by decide) (hcd : (x == ("__classdict__" : Str)) = false := by decide)
    (hst : starEach (e :: es) X.env = (false, eval e X.env) :: starEach es X.env := by rfl) (hpl : (backTo pos (starEach es X.env)).any (·.1) = false := by rfl) (hn : ps.length = n := by rfl)
    (ht : eval (.Call (.Attribute (.Name x p) nm apos) (e :: es) [] pos) X.env = (eval (.Name x p) X.env >>= fun ov => standAt apos.atName >>= fun _ => holding [ov] (getMethod ov nm pl) >>= fun (f, first) => callWith pos f first (backTo pos (starEach (e :: es) X.env)) (backToKw pos (keywordEach [] X.env))) := by rfl) :
    DO X W (.Call (.Attribute (.Name x p) nm apos) (e :: es) [] pos) (oCall n m (lLC i c nm ml)) := by
  subst hn
  obtain ⟨C, f, fd, gC, cl, me, F, b⟩ := M
  obtain ⟨t, h1, h2⟩ := ha
  exact ⟨_, pe_methS (pv i hN hv hd hcd) cl me F (hr.mono hk) b (fun σ => passAt tk σ) h1 hst hpl ht, ro_call (rl_lc (cg := cgX X W) gC h2)⟩
theorem do_mk0 {n : Nat} {pl : Sem Bool} (i : Nat) (M : MK X.prog X.w X.K X.mg X.base k c nm ps m) (hr : Room j X.A) (hk : k ≤ j) (tk : Takes X W.x)
    (hN : X.N[i]? = some x := by rfl) (hv : Vis X.env.scope x := by first | exact Or.inl rfl | exact Or.inr (Or.inl rfl) | exact Or.inr (Or.inr rfl)) (hd : (x == ("__debug__" : Str)) = false := by decide) (hcd : (x == ("__classdict__" : Str)) = false := by decide) (hn : ps.length = n := by rfl)
    (ht : eval (.Call (.Attribute (.Name x p) nm apos) [] [] pos) X.env = (eval (.Name x p) X.env >>= fun ov => standAt apos.atName >>= fun _ => holding [ov] (getMethod ov nm pl) >>= fun (f, first) => callWith pos f first (backTo pos (starEach [] X.env)) (backToKw pos (keywordEach [] X.env))) := by rfl) :
    DO X W (.Call (.Attribute (.Name x p) nm apos) [] [] pos) (oCall n m (lLC i c nm lNil)) := by
  subst hn
  obtain ⟨C, f, fd, gC, cl, me, F, b⟩ := M
  exact ⟨_, pe_methS0 (pv i hN hv hd hcd) cl me F (hr.mono hk) b (fun σ => passAt tk σ) ht, ro_call (rl_lc (cg := cgX X W) gC rl_nil)⟩
/-! ### attributes in the text -/
theorem dw_f {a1 : Pos} (i : Nat) (hc : AK X.K X.mg c nm) (hN : X.N[i]? = some x := by rfl) (hv : Vis X.env.scope x := by first | exact Or.inl rfl | exact Or.inr (Or.inl rfl) | exact Or.inr (Or.inr rfl)) (hd : (x == ("__debug__" : Str)) = false := by decide)
    (hcd : (x == ("__classdict__" : Str)) = false := by decide) (hb : attributeBase (.Name x p) nm X.env (eval (.Name x p) X.env) = eval (.Name x p) X.env := by rfl) : DW X W (.Attribute (.Name x p) nm a1) (wP (.f i c nm)) := ⟨_, pe_fld (pv i hN hv hd hcd) hb, rw_pl (cg := cgX X W) (rd_f i hc)⟩
theorem ds_fld {pos' : Pos} {value : Expr} {mo : Gm → Out OD} (i : Nat) (hc : AK X.K X.mg c nm) (ho : DO X W value mo) (hN : X.N[i]? = some x := by rfl) (hv : Vis X.env.scope x := by first | exact Or.inl rfl | exact Or.inr (Or.inl rfl) | exact Or.inr (Or.inr rfl)) (hd : (x == ("__debug__" : Str)) = false := by decide)
    (hcd : (x == ("__classdict__" : Str)) = false := by decide) (hs : swapsWith value (some (.Attribute (.Name x p) nm pos')) pos.line X.env = pure false := by rfl) : DS X W (.Assign [.Attribute (.Name x p) nm pos'] value pos) (sFldP i c nm mo) :=
  let ⟨_, h1, h2⟩ := ho; ⟨_, ps_fld (pv i hN hv hd hcd) h1 hs, rs_fld (cg := cgX X W) hc h2⟩
theorem ds_setF {ix : Expr} {p2 p3 : Pos} {mi : Gm → Res PyData} {me : Gm → Out PyData} (i : Nat) (hc : AK X.K X.mg c nm) (he : DV X W e me) (hi : DW X W ix mi) (hN : X.N[i]? = some x := by rfl) (hv : Vis X.env.scope x := by first | exact Or.inl rfl | exact Or.inr (Or.inl rfl) | exact Or.inr (Or.inr rfl)) (hd : (x == ("__debug__" : Str)) = false := by decide)
    (hcd : (x == ("__classdict__" : Str)) = false := by decide) (hb : attributeBase (.Name x p) nm X.env (eval (.Name x p) X.env) = eval (.Name x p) X.env := by rfl)
    (ha : ∀ v, assign (.Subscript (.Attribute (.Name x p) nm p2) ix p3) X.env v = (holding [v] (eval (.Attribute (.Name x p) nm p2) X.env) >>= fun ov => holding [v, ov] (eval ix X.env) >>= fun iv => standAt p3 >>= fun _ => holding [v, ov, iv] (setItem ov iv v) >>= fun _ => release [v, ov, iv] []) := by intro _; rfl)
    (hs : swapsWithSole [.Subscript (.Attribute (.Name x p) nm p2) ix p3] e pos.line X.env = pure false := by rfl) (hw : swappedStores [.Subscript (.Attribute (.Name x p) nm p2) ix p3] e X.env = pure none := by rfl) (h1 : (assignEach [.Subscript (.Attribute (.Name x p) nm p2) ix p3] X.env).map (·.2) = [assign (.Subscript (.Attribute (.Name x p) nm p2) ix p3) X.env] := by rfl) :
    DS X W (.Assign [.Subscript (.Attribute (.Name x p) nm p2) ix p3] e pos) (sSetP (.f i c nm) mi me) :=
  let ⟨_, e1, e2⟩ := he; let ⟨_, i1, i2⟩ := hi; ⟨_, ps_asg e1 (pg_sub (pe_fld (pv i hN hv hd hcd) hb) i1 set_list ha) hs hw h1, rs_setP (cg := cgX X W) (rd_f i hc) e2 i2⟩
theorem ds_augF {ix : Expr} {p2 p3 : Pos} {mi me : Gm → Res PyData} {op : Operator} {f : Int → Int → Int} (i : Nat) (hc : AK X.K X.mg c nm) (hp : PIp X op (ipI f)) (hi : DW X W ix mi) (he : DW X W e me) (hN : X.N[i]? = some x := by rfl) (hv : Vis X.env.scope x := by first | exact Or.inl rfl | exact Or.inr (Or.inl rfl) | exact Or.inr (Or.inr rfl)) (hd : (x == ("__debug__" : Str)) = false := by decide)
    (hcd : (x == ("__classdict__" : Str)) = false := by decide) (hb : attributeBase (.Name x p) nm X.env (eval (.Name x p) X.env) = eval (.Name x p) X.env := by rfl)
    (ha : ∀ ov iv new, augStore ix ov iv new = (holding [new, ov, iv] (setItem ov iv new) >>= fun _ => release [new, ov, iv] [] >>= fun _ => pure .next) := by intros; rfl) :
    DS X W (.AugAssign (.Subscript (.Attribute (.Name x p) nm p2) ix p3) op e pos) (sAugP (.f i c nm) f mi me) :=
  let ⟨_, e1, e2⟩ := he; let ⟨_, i1, i2⟩ := hi; ⟨_, ps_augS (pe_fld (pv i hN hv hd hcd) hb) i1 get_listP e1 hp set_list ha, rs_augP (cg := cgX X W) (rd_f i hc) i2 e2⟩
end
/-! ### C() -/
def CMK (P : Program) (w : World) (K : PySem.W.Frag) (mg : Str → Option Value) (base : Heap) (k : Nat) (c : Str) (m : List OD → FOut) : Prop :=
  ∃ C f fd, mg c = some (.ref C) ∧ Mk K C f ∧ FnOk P w K mg base (L2.CX P w) k f fd ["self"] (spL K mg 1 m) ∧ Binds K fd ["self"] []
def oNew (c : Str) (m : List OD → FOut) (g : Gm) : Out OD :=
  match m [.nd (.ins c []) []] with
  | .ok (.dat .none) [o] => .ok o g
  | _ => .stk
section
variable {K : PySem.W.Frag} {cg : Cg} {W : WX} {pvs : Pv} {g : Gm} {σ : L2.St} {S S1 S' A : Addr → Prop} {F F1 F' H H1 H' : Hp}
theorem ro_new {c : Str} {C : Addr} {m : List OD → FOut} (hc : cg c = some (.ref C)) : RO K cg W (tMake C (spL K cg 1 m) [] (fun _ _ _ => False) tNil) (oNew c m) := fun pvs g σ S F H Q r q => by
  intro x dx hx hdx ne
  unfold oNew at q
  have n1 := pst_own (o := .own x) r.fh hdx
  have hx1 : upd H dx (.own x) x = none := by rw [upd_ne (Ne.symm ne)]; exact hx
  have n2 := pst_own (o := .ins C dx []) n1.fh hx1
  have n := n1.trans n2
  refine ⟨rfl, [.nd (.ins c []) []], fun q => q = x, F, n.fh, ⟨rfl, fun i q => i = 0 ∧ q = x, fun i v o e1 e2 => ?_, fun i j q hij h1 h2 => hij (h1.1.trans h2.1.symm), fun i q hi h => ?_, fun q => ⟨fun h => ⟨0, rfl, h⟩, fun ⟨_, _, h⟩ => h⟩⟩, ?_⟩
  · cases i with
    | zero =>
      cases e1
      cases e2
      refine .nd (vs := []) (L := fun _ _ => False) ⟨C, dx, hc, upd_same, rfl⟩ (r.fh.free hx) rfl (fun i v o e1 e2 => (by simp at e1)) (fun _ _ _ _ h _ => h) (fun _ h => h) (fun _ _ _ h => h) fun q => ?_
      simp
    | succ i => simp at e1
  · obtain ⟨rfl, _⟩ := h
    simp at hi
  · split at q
    · rename_i o em
      rw [em]
      intro v B A' F' H' st ow owA dj
      cases ow with
      | dat hd hB =>
        cases hd
        refine ⟨rfl, ?_⟩
        obtain ⟨hl, L, l1, l2, l3, l4⟩ := owA
        have ow0 := l1 0 (.ref x) o rfl rfl
        have rr := r.pst n
        have xS : ¬ S x := fun z => by
          obtain ⟨_, u, eu⟩ := r.at z
          rw [hx] at eu
          cases eu
        have a0 : ∀ q, A' q ↔ L 0 q := fun q => by
          rw [l4 q]
          refine ⟨fun ⟨i, hi⟩ => ?_, fun h => ⟨0, h⟩⟩
          cases i with
          | zero => exact hi
          | succ i => exact absurd hi (l3 (i + 1) q (by simp))
        have st1 : Stp (fun q => q = x) F _ A' F' H' := st.sub fun p z => .inl z
        refine q (.ref x) A' S F' H' ?_ (rr.stp st1 fun p hs hp => xS (hp ▸ hs)) (ow0.iff a0) fun p hp hs => ?_
        · refine ⟨fun p u hs e => st1.keep p u (fun z => (by rw [z, hx] at e; cases e)) (n.keep p u e), st1.fr, fun p u e => ?_, fun p hp => ?_, st1.fh⟩
          · rcases st1.nw p u e with z | z | z
            · exact .inl z
            · exact .inr (.inl (z.back fun u => n.keep p u))
            · exact .inr (.inl (.inl (by rw [z]; exact hx)))
          · rcases hp with hp | hp
            · exact .inl hp
            · rcases st1.fp p hp with z | z
              · exact .inr (by rw [z]; exact hx)
              · exact .inr (n.keep.free z)
        · obtain ⟨_, u, eu⟩ := r.at hs
          rcases st1.fp p hp with z | z
          · exact xS (z ▸ hs)
          · rw [n.keep p u eu] at z
            cases z
    · exact q.elim
end
section
variable {X : Cx} {W : Wz} {pos p : Pos} {x : Str} {k j : Nat} {m : List OD → FOut}
theorem do_new (M : CMK X.prog X.w X.K X.mg X.base k x m) (hr : Room (j + 1) X.A) (hk : k ≤ j) (hg : Gl X x := by rfl) (hdb : (x == ("__debug__" : Str)) = false := by decide) : DO X W (.Call (.Name x p) [] [] pos) (oNew x m) := by
  obtain ⟨C, f, fd, gC, mk, F, b⟩ := M
  refine ⟨_, pe_make0 mk F (hr.mono (Nat.succ_le_succ hk)) hg gC b (.nil) (fun pins σ H s e s' I h => ?_) hdb, ro_new (cg := cgX X W) gC⟩
  obtain ⟨_, _, _, _, _, _, _, _, _, _, _, _, z⟩ := h
  exact z.elim
end
end VL
/-! The value layer, part 27: tuples of owned things, their parts, methods of what has no name. -/
namespace VL
open PySem PySem.Spec PyProof.Rows L2
section
variable (K : PySem.W.Frag) (cg : Cg) (W : WX)
def PoAO (pvs : Pv) (σ : L2.St) (S : Addr → Prop) (F H : Hp) (Q : List V → Hp → Prop) : Out (List OD) → Prop
  | .ok os g => ∀ vs A S' F' H', Stp S F H (fun p => S' p ∨ A p) F' H' → Rel K cg pvs g σ S' F' H' → OwA K cg F' H' vs os A → (∀ q, A q → S' q → False) → Q vs H'
  | .err e g => ErrP K cg W pvs σ S F H e g
  | .stk => False
def RAO (t : TA) (m : Gm → Out (List OD)) : Prop := ∀ pvs g σ S F H Q, Rel K cg pvs g σ S F H → PoAO K cg W pvs σ S F H Q (m g) → t σ H Q
end
def DAO (X : Cx) (W : Wz) (es : List Expr) (m : Gm → Out (List OD)) : Prop := ∃ t, PA X es t ∧ RAO X.K (cgX X W) W.x t m
def aoNil (g : Gm) : Out (List OD) := .ok [] g
def aoCons (m : Gm → Out OD) (mr : Gm → Out (List OD)) (g : Gm) : Out (List OD) := (m g).bind fun o g1 => (mr g1).bind fun os g2 => .ok (o :: os) g2
section
variable {K : PySem.W.Frag} {cg : Cg} {W : WX} {pvs : Pv} {g : Gm} {σ : L2.St} {S S1 S' A : Addr → Prop} {F F1 F' H H1 H' : Hp}
theorem PoAO.st {Q : List V → Hp → Prop} {x : Out (List OD)} (h : PoAO K cg W pvs σ S F H Q x) (a : Stp S F H S1 F1 H1) : PoAO K cg W pvs σ S1 F1 H1 Q x := by
  cases x with
  | ok d g => exact fun v A S' F' H' b r c => h v A S' F' H' (a.trans b) r c
  | err e g => exact ErrP.st h a
  | stk => exact h
/-- what is owned apart from a step stays -/
theorem Ow.apart {v : V} {o : OD} {B B' : Addr → Prop} (h : Ow K cg F H v o A) (st : Stp B F H B' F' H') (dj : ∀ q, A q → B q → False) : Ow K cg F' H' v o A ∧ ∀ q, A q → ¬ B' q := by
  have ot : ∀ q, A q → H' q = H q ∧ F' q = none ∧ ¬ B' q := fun q hq => Pts.other st (h.at hq).1 (h.at hq).2 (h.nn hq) fun z => dj q hq z
  exact ⟨h.mo st.fr (fun q hq => (ot q hq).1) fun q hq => (ot q hq).2.1, fun q hq => (ot q hq).2.2⟩
theorem rao_nil : RAO K cg W tNil aoNil := fun pvs g σ S F H Q r q => q [] (fun _ => False) S F H ((Stp.refl r.fh).sub fun p z => z.elim id False.elim) r ⟨rfl, fun _ _ => False, fun i v o e => (by simp at e), fun _ _ _ _ h _ => h, fun _ _ _ h => h, fun q => ⟨False.elim, fun ⟨_, h⟩ => h⟩⟩ fun _ z _ => z
theorem owA_cons {v : V} {vs : List V} {o : OD} {os : List OD} {A B : Addr → Prop} (h : Ow K cg F H v o A) (t : OwA K cg F H vs os B) (dj : ∀ q, A q → B q → False) : OwA K cg F H (v :: vs) (o :: os) (fun q => A q ∨ B q) := by
  obtain ⟨hl, L, l1, l2, l3, l4⟩ := t
  refine ⟨by simp [hl], fun i => match i with | 0 => A | i + 1 => L i, fun i w u e1 e2 => ?_, fun i j q hij hi hj => ?_, fun i q hi => ?_, fun q => ?_⟩
  · cases i with
    | zero =>
      simp at e1 e2
      subst e1 e2
      exact h
    | succ i => exact l1 i w u (by simpa using e1) (by simpa using e2)
  · cases i with
    | zero =>
      cases j with
      | zero => exact hij rfl
      | succ j => exact dj q hi ((l4 q).mpr ⟨j, hj⟩)
    | succ i =>
      cases j with
      | zero => exact dj q hj ((l4 q).mpr ⟨i, hi⟩)
      | succ j => exact l2 i j q (fun z => hij (congrArg Nat.succ z)) hi hj
  · cases i with
    | zero => simp at hi
    | succ i => exact l3 i q (by simpa using hi)
  · refine ⟨fun hq => ?_, fun ⟨i, hi⟩ => ?_⟩
    · rcases hq with hq | hq
      · exact ⟨0, hq⟩
      · obtain ⟨i, hi⟩ := (l4 q).mp hq
        exact ⟨i + 1, hi⟩
    · cases i with
      | zero => exact .inl hi
      | succ i => exact .inr ((l4 q).mpr ⟨i, hi⟩)
theorem owA_nil : OwA K cg F H [] [] (fun _ => False) := ⟨rfl, fun _ _ => False, fun i v o e => (by simp at e), fun _ _ _ _ h _ => h, fun _ _ _ h => h, fun q => ⟨False.elim, fun ⟨_, h⟩ => h⟩⟩
theorem owA_dat : ∀ {vs : List V} {ds : List PyData}, DqA K F vs ds → OwA K cg F H vs (ds.map OD.dat) (fun _ => False)
  | _, _, .nil => owA_nil
  | _, _, .cons h t => by
    obtain ⟨hl, L, l1, l2, l3, l4⟩ := owA_cons (A := fun _ => False) (cg := cg) (H := H) (.dat h fun _ z => z) (owA_dat t) fun _ z _ => z
    exact ⟨hl, L, l1, l2, l3, fun q => ⟨False.elim, fun z => ((l4 q).mpr z).elim id id⟩⟩
theorem rao_cons {ta : TE} {tr : TA} {m : Gm → Out OD} {mr : Gm → Out (List OD)} (ha : RO K cg W ta m) (hr : RAO K cg W tr mr) : RAO K cg W (tCons ta tr) (aoCons m mr) := fun pvs g σ S F H Q rl q => by
  refine ha pvs g σ S F H _ rl ?_
  unfold aoCons at q
  cases e : m g with
  | ok o g1 =>
    rw [e] at q
    intro v A S1 F1 H1 s1 r1 ow dj
    simp only [Out.bind] at q
    refine hr pvs g1 σ S1 F1 H1 _ r1 ?_
    cases e2 : mr g1 with
    | ok os g2 =>
      rw [e2] at q
      intro vs B S2 F2 H2 s2 r2 ow2 dj2
      obtain ⟨o1, o2⟩ := ow.apart s2 dj
      refine q (v :: vs) (fun q => A q ∨ B q) S2 F2 H2 (s1.trans ((s2.wide (S2 := fun p => S1 p ∨ A p) fun p z => .inl z).sub fun p hp => ?_)) r2 (owA_cons o1 ow2 fun q ha hb => o2 q ha (.inr hb)) fun q ha hs => ?_
      · rcases hp with hp | hp | hp
        · exact .inl (.inl hp)
        · exact .inr ⟨.inr hp, fun z => dj p hp z⟩
        · exact .inl (.inr hp)
      · rcases ha with ha | ha
        · exact o2 q ha (.inl hs)
        · exact dj2 q ha hs
    | err e' g2 =>
      rw [e2] at q
      exact ErrP.st q (s1.sub fun p z => .inl z)
    | stk =>
      rw [e2] at q
      exact q.elim
  | err e' g1 =>
    rw [e] at q
    exact q
  | stk =>
    rw [e] at q
    exact q.elim
/-- (a, b) of owned things -/
def oTupO (m : Gm → Out (List OD)) (g : Gm) : Out OD := (m g).bind fun os g1 => if os.length ≤ zl then .ok (.fz .tp os) g1 else .stk
theorem ro_tupO {t : TA} {m : Gm → Out (List OD)} (h : RAO K cg W t m) : RO K cg W (tTup t) (oTupO m) := fun pvs g σ S F H Q r q => by
  refine h pvs g σ S F H _ r ?_
  unfold oTupO at q
  cases e : m g with
  | ok os g1 =>
    rw [e] at q
    intro vs A S1 F1 H1 s1 r1 ow dj
    simp only [Out.bind] at q
    split at q
    · rename_i hz
      obtain ⟨hl, L, l1, l2, l3, l4⟩ := ow
      refine ⟨by rw [hl]; exact zl_le hz, fun p hp => ?_⟩
      have n := pst_new (o := .tup vs) r1.fh hp
      have ot : ∀ (i : Nat) (q : Addr), L i q → q ≠ p ∧ upd F1 p (.tup vs) q = none ∧ upd H1 p (.tup vs) q = H1 q := fun i q hq => by
        have hi : i < os.length := by
          rcases Nat.lt_or_ge i os.length with z | z
          · exact z
          · exact absurd hq (l3 i q z)
        obtain ⟨f, u, eu⟩ := (l1 i (vs[i]'(by omega)) os[i] (List.getElem?_eq_getElem (by omega)) (List.getElem?_eq_getElem hi)).at hq
        have ne : q ≠ p := fun z => by
          rw [z, hp] at eu
          cases eu
        exact ⟨ne, by rw [upd_ne ne]; exact f, upd_ne ne⟩
      refine q (.ref p) A S1 _ _ (s1.trans n.stp) (r1.pst n) (.fz (vs := vs) (L := L) (show ShpF cg _ p .tp vs from upd_same) hl (fun i v o e1 e2 => ?_) l2 l3 l4) dj
      exact (l1 i v o e1 e2).mo n.fr (fun q hq => (ot i q hq).2.2) fun q hq => (ot i q hq).2.1
    · exact q.elim
  | err e' g1 =>
    rw [e] at q
    exact q
  | stk =>
    rw [e] at q
    exact q.elim
/-- e[j] of such a tuple -/
def oPart (j : Nat) (mo : Gm → Out OD) (g : Gm) : Out OD :=
  match mo g with
  | .ok (.fz .tp os) g1 => match os[j]? with
    | some o => .ok o g1
    | none => .stk
  | .err e g1 => .err e g1
  | _ => .stk
theorem ro_part {ta tb : TE} {mo : Gm → Out OD} {j : Nat} (ha : RO K cg W ta mo) (hb : RP K cg W tb (pC (.int (j : Int)))) : RO K cg W (tOp (rIx K) ta tb) (oPart j mo) := fun pvs g σ S F H Q r q => by
  refine ha pvs g σ S F H _ r ?_
  unfold oPart at q
  split at q
  · rename_i os g1 e
    rw [e]
    intro v A S1 F1 H1 s1 r1 ow dj
    refine hb pvs g1 σ S1 F1 H1 _ r1 ?_
    show PoP K cg W σ F1 H1 _ (.ok (.int (j : Int)))
    intro y F2 H2 p2 dy
    cases dy
    split at q
    · rename_i o ej
      obtain ⟨ow2, nA⟩ := ow.apart (p2.stp (S := fun _ => False)) fun _ _ z => z
      obtain ⟨p, vs, w, B, rfl, sh, hl, hw, owp, hB, _⟩ := ow2.partF ej
      have hp : F2 p = some (.tup vs) := sh
      refine .inr (.inl ⟨p, vs, j, w, rfl, rfl, SqT.of (p2.fh _ _ hp), L2.atI_nat hw, ?_⟩)
      refine q w B S1 F2 H2 ((s1.trans p2.stp).sub fun b z => z.imp id (hB b)) (r1.pst p2) owp fun b hb hs => dj b (hB b hb) hs
    · exact q.elim
  · rename_i e' g1 e
    rw [e]
    exact q
  · exact q.elim
/-- e.m(..) of what e gives -/
def oMethT (c nm : Str) (n : Nat) (m : List OD → FOut) (mo : Gm → Out OD) (ma : Gm → Out (List PyData)) (g : Gm) : Out OD :=
  match mo g with
  | .ok (.nd (.ins c' names) os) g1 => if c' = c ∧ ixOf names nm = none then ((ma g1).bind fun ds g2 => if ds.length + 1 = n then (match m (.nd (.ins c' names) os :: ds.map OD.dat) with
    | .ok r _ => .ok r g2
    | .err e _ => .err e g2
    | .stk => .stk) else .stk) else .stk
  | .err e g1 => .err e g1
  | _ => .stk
theorem ro_methT {c nm : Str} {C : Addr} {n : Nat} {ta : TE} {t : TA} {m : List OD → FOut} {mo : Gm → Out OD} {ma : Gm → Out (List PyData)} (hc : cg c = some (.ref C)) (ho : RO K cg W ta mo) (ha : RA K cg W t ma) : RO K cg W (tCallS (spL K cg n m) (WE W) (tMeC C nm ta t)) (oMethT c nm n m mo ma) := fun pvs g σ S F H Q r q => by
  refine ho pvs g σ S F H _ r ?_
  unfold oMethT at q
  split at q
  · rename_i c' names os g1 e
    rw [e]
    intro v A S1 F1 H1 s1 r1 ow dj
    split at q
    · rename_i hcn
      obtain ⟨rfl, hn⟩ := hcn
      have insv : ∃ p dx vs, v = .ref p ∧ H1 p = some (.ins C dx (names.zip vs)) := by
        cases ow with
        | @nd p k vs os L A h1 h2 h3 h4 h5 h6 h7 h8 =>
          obtain ⟨C', dx, z, hp, l⟩ := h1
          rw [hc] at z
          cases z
          exact ⟨p, dx, vs, rfl, hp⟩
      obtain ⟨p, dx, vs, rfl, hp⟩ := insv
      refine ⟨⟨p, dx, _, rfl, hp, ixOf_none hn⟩, ?_⟩
      refine ha pvs g1 σ S1 F1 H1 _ r1 ?_
      cases e2 : ma g1 with
      | ok ds g2 =>
        rw [e2] at q
        intro xs S2 F2 H2 s2 r2 d2
        simp only [Out.bind] at q
        obtain ⟨ow2, nA⟩ := ow.apart s2 dj
        split at q
        · rename_i hlen
          have oa := owA_cons ow2 (owA_dat (H := H2) d2) fun _ _ z => z
          have dl := dpa_len d2
          have s12 : Stp S F H (fun b => S2 b ∨ A b) F2 H2 := s1.trans ((s2.wide (S2 := fun p => S1 p ∨ A p) fun p z => .inl z).sub fun b hb => by
            rcases hb with hb | hb
            · exact .inl hb
            · exact .inr ⟨.inr hb, fun z => dj b hb z⟩)
          refine ⟨by simp [dl]; exact hlen, _, fun q => A q ∨ False, F2, r2.fh, oa, ?_⟩
          cases em : m (.nd (.ins c' names) os :: ds.map OD.dat) with
          | stk =>
            rw [em] at q
            exact q.elim
          | ok rr os' =>
            rw [em] at q
            intro w B A' F' H' st owr owA' djr
            have st1 : Stp (fun q => A q ∨ False) F2 H2 B F' H' := st.sub fun b z => .inr z
            refine q w B S2 F' H' (s12.trans ⟨fun b u hb he => st1.keep b u (fun z => hb (.inr (z.elim id False.elim))) he, st1.fr, fun b u he => (st1.nw b u he).imp id fun z => z.imp id fun y => .inr (y.elim id False.elim), fun b hb => ?_, st1.fh⟩) (r2.stp st1 fun b hs hb => nA b (hb.elim id False.elim) hs) owr fun b hb hs => ?_
            · rcases hb with hb | hb
              · exact .inl (.inl hb)
              · exact (st1.fp b hb).imp (fun z => .inr (z.elim id False.elim)) id
            · rcases st1.fp b hb with z | z
              · exact nA b (z.elim id False.elim) hs
              · obtain ⟨_, u, eu⟩ := r2.at hs
                rw [z] at eu
                cases eu
          | err e' os' =>
            rw [em] at q
            intro D dop A' F' H' st owA' hD hx
            refine q D dop S2 F' H' (s12.trans ⟨fun b u hb he => st.keep b u (fun z => hb (.inr (z.elim id False.elim))) he, st.fr, fun b u he => (st.nw b u he).imp id fun z => z.imp id fun y => .inr (y.elim id False.elim), fun b hb => .inl (.inl hb), st.fh⟩) (r2.stp st fun b hs hb => nA b (hb.elim id False.elim) hs) hD hx
        · exact q.elim
      | err e' g2 =>
        rw [e2] at q
        exact ErrP.st q (s1.sub fun b z => .inl z)
      | stk =>
        rw [e2] at q
        exact q.elim
    · exact q.elim
  · rename_i e' g1 e
    rw [e]
    exact q
  · exact q.elim
/-! ### x = rows[i], an alias -/
def sAl (k i : Nat) (mi : Gm → Res PyData) (g : Gm) : SOut :=
  match gt g i with
  | .pin (.fz .ls os) => match mi g with
    | .ok (.int n) => if 0 ≤ n ∧ n.toNat < os.length ∧ k ≠ i then .nx (st g k (.al i n.toNat)) else .stk
    | .err e => .err e g
    | _ => .stk
  | _ => .stk
theorem Rel.setAl {k i n : Nat} {p : Addr} {vs : List V} {v : V} {kd : Kd} (r : Rel K cg pvs g σ S F H) (hp : pvs i = some (.ref p)) (sh : ShpF cg F p kd vs) (hv : vs[n]? = some v) : ∃ S', Rel K cg pvs (VL.st g k (.al i n)) (σ.set k (some v)) S' F H ∧ ∀ q, S' q → S q := by
  obtain ⟨L, h1, h2, h3⟩ := r.ex
  by_cases hk : k < σ.length
  · have hg : k < g.length := by rw [r.len]; exact hk
    refine ⟨fun q => ∃ j, j ≠ k ∧ L j q, ⟨r.fh, by rw [st_len, List.length_set]; exact r.len, r.z, fun j => if j = k then fun _ => False else L j, fun j => ?_, fun j l q hjl hj hl => ?_, fun q => ?_⟩, fun q ⟨j, _, hq⟩ => (h3 q).mpr ⟨j, hq⟩⟩
    · by_cases z : j = k
      · subst z
        simp only [if_true]
        unfold SlOk
        rw [gt_st hg]
        exact ⟨⟨v, p, kd, vs, by rw [List.getElem?_set_self hk], hp, sh, hv⟩, fun _ z => z⟩
      · simp only [if_neg z]
        have b := h1 j
        unfold SlOk at b ⊢
        rw [gt_st_ne z, List.getElem?_set_ne (Ne.symm z)]
        exact b
    · by_cases z : j = k
      · simp only [if_pos z] at hj
      · by_cases y : l = k
        · simp only [if_pos y] at hl
        · simp only [if_neg z] at hj
          simp only [if_neg y] at hl
          exact h2 j l q hjl hj hl
    · refine ⟨fun ⟨j, hj, hq⟩ => ⟨j, by simp only [if_neg hj]; exact hq⟩, fun ⟨j, hj⟩ => ?_⟩
      by_cases z : j = k
      · simp only [if_pos z] at hj
      · simp only [if_neg z] at hj
        exact ⟨j, z, hj⟩
  · have e1 : σ.set k (some v) = σ := List.set_eq_of_length_le (by omega)
    have hg : g.length ≤ k := by rw [r.len]; omega
    rw [e1, st_out g k _ hg]
    exact ⟨S, r, fun _ z => z⟩
theorem rs_al {k i : Nat} {ti : TE} {mi : Gm → Res PyData} (hi : RW K cg W ti mi) : RS K cg W (tAsg (tOp (rIx K) (tVar i) ti) (gName k)) (sAl k i mi) := fun pvs g σ S F H D r q => by
  unfold sAl at q
  split at q
  · rename_i os eo
    have eo' : (gt g i).od = some (.fz .ls os) := by rw [eo]; rfl
    obtain ⟨v, A, S1, e1, ow, hS, hd, back⟩ := r.take eo'
    obtain ⟨L0, k1, k2, k3⟩ := r.ex
    have hsl := k1 i
    unfold SlOk at hsl
    rw [eo] at hsl
    obtain ⟨v', e1', pv', _⟩ := hsl
    rw [e1] at e1'
    cases e1'
    refine ⟨v, e1, ?_⟩
    refine hi pvs g σ S F H _ r ?_
    split at q
    · rename_i n em
      rw [em]
      intro iv F2 H2 p2 vi
      have ei := vi.int
      subst ei
      split at q
      · rename_i hn
        obtain ⟨h0, h1, hki⟩ := hn
        obtain ⟨p, vs, w, B, rfl, sh, hl, hw, owp, hB, _⟩ := ow.partF (List.getElem?_eq_getElem h1)
        have hp : F p = some (.lst vs) := sh
        have r2 := r.pst p2
        have en : ((n.toNat : Nat) : Int) = n := Int.toNat_of_nonneg h0
        refine .inl ⟨p, vs, n, w, rfl, rfl, SqL.of (p2.keep _ _ (r.fh _ _ hp)), by rw [← en]; exact L2.atI_nat hw, ?_⟩
        obtain ⟨S3, r3, h3⟩ := r2.setAl (k := k) (i := i) (n := n.toNat) (v := w) (kd := .ls) pv' (show ShpF cg F2 p .ls vs from p2.fr _ _ hp) hw
        exact q _ S3 F2 H2 (p2.stp.sub h3) r3
      · exact q.elim
    · rename_i e' em
      rw [em]
      intro C dop F' H' p2 hc hx
      exact (ErrS.p (σ := σ) q) C dop S F' H' p2.stp (r.pst p2) hc hx
    · exact q.elim
  · exact q.elim
end
section
variable {X : Cx} {W : Wz} {e o : Expr} {es : List Expr} {pos p apos : Pos} {x c nm : Str} {k j : Nat} {ps : List Str} {m : List OD → FOut}
theorem dao_nil : DAO X W [] aoNil := ⟨_, pa_nil, rao_nil⟩
theorem dao_cons {m : Gm → Out OD} {mr : Gm → Out (List OD)} (h : DO X W e m) (hr : DAO X W es mr) (hs : starEach (e :: es) X.env = (false, eval e X.env) :: starEach es X.env := by rfl) : DAO X W (e :: es) (aoCons m mr) :=
  let ⟨_, h1, h2⟩ := h; let ⟨_, k1, k2⟩ := hr; ⟨_, pa_cons h1 k1 hs, rao_cons h2 k2⟩
theorem do_tupO {m : Gm → Out (List OD)} {x1} (h : DAO X W es m) : DO X W (.Tuple es x1 pos) (oTupO m) := let ⟨_, h1, h2⟩ := h; ⟨_, pe_tup h1, ro_tupO h2⟩
theorem do_part {b : Expr} {mo : Gm → Out OD} (j : Nat) (h : DO X W e mo) (hb : DP X W b (pC (.int (j : Int)))) (hs : PlainIx b := by exact fun _ _ => rfl) : DO X W (.Subscript e b pos) (oPart j mo) :=
  let ⟨_, h1, h2⟩ := h; let ⟨_, b1, b2⟩ := hb; ⟨_, pe_ix ix_seq h1 b1 hs, ro_part h2 b2⟩
theorem do_methT {n : Nat} {mo : Gm → Out OD} {ma : Gm → Out (List PyData)} {pl : Sem Bool} (M : MK X.prog X.w X.K X.mg X.base k c nm ps m) (hr : Room j X.A) (hk : k ≤ j) (tk : Takes X W.x) (ho : DO X W o mo) (ha : DA X W (e :: es) ma)
    (hst : starEach (e :: es) X.env = (false, eval e X.env) :: starEach es X.env := by rfl) (hpl : (backTo pos (starEach es X.env)).any (·.1) = false := by rfl) (hn : ps.length = n := by rfl)
    (ht : eval (.Call (.Attribute o nm apos) (e :: es) [] pos) X.env = (eval o X.env >>= fun ov => standAt apos.atName >>= fun _ => holding [ov] (getMethod ov nm pl) >>= fun (f, first) => callWith pos f first (backTo pos (starEach (e :: es) X.env)) (backToKw pos (keywordEach [] X.env))) := by rfl) :
    DO X W (.Call (.Attribute o nm apos) (e :: es) [] pos) (oMethT c nm n m mo ma) := by
  subst hn
  obtain ⟨C, f, fd, gC, cl, me, F, b⟩ := M
  obtain ⟨t, h1, h2⟩ := ha
  obtain ⟨u, o1, o2⟩ := ho
  exact ⟨_, pe_methS o1 cl me F (hr.mono hk) b (fun σ => passAt tk σ) h1 hst hpl ht, ro_methT (cg := cgX X W) gC o2 h2⟩
end
end VL
/-! The value layer, part 28: sorted(set(whole numbers)) of any length below the scan bound. -/
namespace VL
open PySem PySem.Spec PyProof.Rows L2
section
variable {P : Program} {w : World} {A : Around} {E : Value → Shared → Prop} {s : Shared}
/-- a set with nothing in it yet -/
abbrev sO (w : World) : Obj := { cls := .type "set", dict := none, data := .set #[] 0 (.fresh 0 0 (!w.params.followText "set-order")) }
theorem set_of_list {at_ : Addr} {its : Array Value} (ms : List Int) {Q : Value → Shared → Prop} (calm : A.handled = none) (isl : s.heap.IsList at_ its) (hInts : IntsAre its.toList ms) (few : ms.length + 1 < scanBound)
    (fin : ∀ (h2 : Heap) (t2 many : Nat), SetR w h2 s.heap.objs.size (fun j => decide (j ∈ ms)) many → many ≤ ms.length → (∀ b o, s.heap.get? b = some o → h2.get? b = some o) → Q (.ref s.heap.objs.size) { s with heap := h2, toks := t2 }) :
    wpAny (model P w) A (call (.type "set") [.ref at_]) Q E s := by
  have size : its.size = ms.length := by
    have z := IntsAre.length hInts
    rwa [Array.length_toList] at z
  have set1 := F.called_set.made
  have set2 := F.called_set.sub
  have set3 := F.called_set.notType
  have set4 := F.called_set.canCreate
  have set5 := F.typeCall_set_1 (.ref at_)
  obtain ⟨c0, t0, set6⟩ := F.called_set.mro
  refine wpAny_call (codeAny_of_tree (wpAny_pure ⟨Code.quiet_builtin _ (by decide +kernel), codeAny_builtin F.entry_type_call ?_⟩))
  rw [Around.under_plain (weight_type_call_type "set" [.ref at_] []) rfl]
  repeat (any_goals (first | assumption | wp_step))
  refine codeAny_mono (code_set_led1 (.ref at_) (E := E) (Q₁ := fun b s2 => b = .ref s.heap.objs.size ∧ s2 = { s with heap := s.heap.push (sO w) }) ⟨rfl, rfl⟩) fun res s2 end1 => ?_
  cases res with
  | error z => exact end1
  | ok flow =>
    cases flow with
    | ret b =>
      obtain ⟨rfl, rfl⟩ := end1
      have there : (s.heap.push (sO w)).get? s.heap.objs.size = some (sO w) := Heap.get?_push_size _ rfl
      have isT : Shared.TypeIs { s with heap := s.heap.push (sO w) } (.ref s.heap.objs.size) "set" := ⟨_, there, rfl⟩
      have ini1 := F.called_set.init.lookup
      have ini2 := F.called_set.init.bind (.ref s.heap.objs.size)
      repeat (any_goals (first | assumption | wp_step))
      refine codeAny_mono (codeAny_call_builtin (R := wants (fun x s3 => x = .none ∧ ∃ h2 t2 many, s3 = { s with heap := h2, toks := t2 } ∧ SetR w h2 s.heap.objs.size (fun j => decide (j ∈ ms)) many ∧ many ≤ ms.length ∧ (∀ b o, s.heap.get? b = some o → h2.get? b = some o)) E)
        F.called_set.init.plain F.entry_set_init (check_set_init_1 isT ?_)) fun res3 s3 end3 => ?_
      · obtain ⟨ol, got, kind, cap, dat⟩ := isl
        obtain ⟨ocls, odict, odata, oslots⟩ := ol
        simp only at kind dat
        subst kind
        subst dat
        have got2 : (s.heap.push (sO w)).get? at_ = some { cls := .type "list", dict := odict, data := .seq its cap, slots := oslots } := Heap.get?_push_of_some _ got
        have k1 := F.sub_list_set
        have k2 := F.sub_list_frozenset
        have k3 : (Value.type "list" == Value.type "dict") = false := by decide
        have isl2 : (s.heap.push (sO w)).IsList at_ its := ⟨_, got2, rfl, cap, rfl⟩
        unfold Builtin.«set.__init__» noKeywords Builtin.Frozenset.updateFrom
        generalize hIt : pyIter = IT
        wp_walk
        subst hIt
        refine wpAny_pyIter_list isl2 (wpAny_bind (wpAny_runValue ?_))
        have low : at_ < s.heap.objs.size := Heap.lt_size got
        have calm3 : A.in1.in1.in1.handled = none := by simp [calm]
        have sz : (s.heap.push (sO w)).objs.size = s.heap.objs.size + 1 := Heap.size_push ..
        have ne1 : at_ ≠ (s.heap.push (sO w)).objs.size := by
          rw [sz]
          exact Nat.ne_of_lt (Nat.lt_succ_of_lt low)
        have ne2 : s.heap.objs.size ∉ [(s.heap.push (sO w)).objs.size, at_] := by
          rw [sz]
          simp only [List.mem_cons, List.not_mem_nil, or_false, not_or]
          exact ⟨Nat.ne_of_lt (Nat.lt_succ_self _), Nat.ne_of_gt low⟩
        have items : ∀ (i : Nat) (v : Value), its[i]? = some v → ∃ k t, ms[i]? = some k ∧ v = .int k t := fun i v hv => by
          have lt : i < ms.length := by
            rw [← size]
            exact (Array.getElem?_eq_some_iff.mp hv).1
          obtain ⟨t, z⟩ := IntsAre.int_at hInts i v (by rw [Array.getElem?_toList]; exact hv)
          exact ⟨ms[i], t, List.getElem?_eq_getElem lt, by rw [z, List.getD_eq_getElem?_getD, List.getElem?_eq_getElem lt] <;> rfl⟩
        refine set_update_ints ((Walks.list calm3 _ at_ ne1 its).toS) s.heap.objs.size ne2 ms size few items (its.size - 0) 0 _ (by omega) (Nat.zero_le _) ⟨⟨_, Heap.get?_push_size _ rfl, rfl, rfl⟩, (isl2.push _)⟩ ?start ?done
        case start => exact ⟨0, Nat.le_refl 0, setR_new_at (Heap.get?_push_of_some _ there)⟩
        case done =>
          intro s4 many mv le R
          obtain ⟨h2, g2, d2, t2, os2⟩ := s4
          obtain rfl : g2 = s.gens := mv.gens
          obtain rfl : d2 = s.drawn := mv.drawn
          obtain rfl : os2 = s.os := mv.os
          refine wpAny_pure (wpAny_pure ⟨rfl, h2, t2, many, rfl, R, by rwa [size] at le, fun b o z => ?_⟩)
          have lb : b < s.heap.objs.size := Heap.lt_size z
          refine mv.heap b o ?_ (Heap.get?_push_of_some _ (Heap.get?_push_of_some _ z))
          simp only [List.mem_cons, List.not_mem_nil, or_false, not_or]
          rw [sz]
          exact ⟨Nat.ne_of_lt lb, Nat.ne_of_lt (Nat.lt_succ_of_lt lb)⟩
      · cases res3 with
        | error z => exact end3
        | ok flow3 =>
          cases flow3 with
          | ret b =>
            obtain ⟨rfl, h2, t2, many, rfl, R, le, kp⟩ := end3
            repeat (any_goals (first | assumption | wp_step))
            exact fin _ _ _ R le kp
          | _ => exact end3.elim
    | _ => exact end1.elim
theorem each_ints {h : Heap} {ad : Addr} : ∀ {vs : List Value} {ms : List Int}, IntsAre vs ms → PySem.W.EachIs (fun v (k : Int) => ∃ as, Reads h v (.int k) as ∧ ad ∉ as) vs ms
  | [], _, .nil => .nil
  | _ :: _, _, .cons k t r => .cons ⟨[], .int k t, by simp⟩ (each_ints r)
theorem each_is : ∀ {vs : List Value} {ms : List Int}, IntsAre vs ms → PySem.W.EachIs (fun v (k : Int) => ∃ t, v = Value.int k t) vs ms
  | [], _, .nil => .nil
  | _ :: _, _, .cons k t r => .cons ⟨t, rfl⟩ (each_is r)
theorem is_each : ∀ {vs : List Value} {ms : List Int}, PySem.W.EachIs (fun v (k : Int) => ∃ t, v = Value.int k t) vs ms → IntsAre vs ms
  | _, _, .nil => .nil
  | _, _, .cons ⟨t, e⟩ r => by
    subst e
    exact .cons _ t (is_each r)
/-- sorted of a set of whole numbers, of any length -/
theorem sort_set {at_ : Addr} {S : Int → Bool} {n : Nat} {Q : Value → Shared → Prop} (R : SetR w s.heap at_ S n) (calm : A.handled = none) (room : A.units + 64 < cLine)
    (fin : ∀ s2 p (out : Array Value) (c : Nat) (ms : List Int), (∀ b o, s.heap.get? b = some o → s2.heap.get? b = some o) → s2.gens = s.gens → s2.os = s.os → s.heap.objs.size ≤ p → s2.heap.get? p = some (seqObj "list" out c) → IntsAre out.toList ms → ms.Pairwise (· < ·) → (∀ k, k ∈ ms ↔ S k = true) → ms.length = n → Q (.ref p) s2) :
    wpAny (model P w) A (call (.builtin "sorted") [.ref at_]) Q E s := by
  obtain ⟨o, es, ep, t, ho, hex, hd, good, nd, mem, few, fits, many, ris, led⟩ := R
  refine Calls.call_function_entry kind_sorted plain_sorted entry_sorted (args_sorted1 _) ?_
  unfold Builtin.«sorted»
  refine wpAny_bind (m := checkCount "sorted" 1 1 _) (wpAny_pure ?_)
  refine wpAny_bind (collect_set (A := A.in1) calm ⟨o, ho, hex.1, hd⟩ fits few ris led fun s1 vs kp sz g1 o1 pm => ?_)
  have len : vs.length = n := by rw [pm.length_eq, List.length_map, Array.length_toList]; exact many
  have hInts : IntsAre vs (vs.map Builtin.Re.reRawOf) := L2.ints_of vs fun v hv => by
    obtain ⟨e, he, z⟩ := List.mem_map.mp (pm.mem_iff.mp hv)
    obtain ⟨k, tk, q1, _⟩ := good e he
    exact ⟨k, tk, z ▸ q1⟩
  have pk : (vs.map Builtin.Re.reRawOf).Perm (es.toList.map L2.keyOf) := by
    have z := pm.map Builtin.Re.reRawOf
    rwa [List.map_map] at z
  have small : n ≤ sizeLine := by
    rw [← many]
    exact fits_of_scanBound few
  refine wpAny_bind (wpAny_newList ?_ (by rw [len]; exact small))
  have lst : (s1.heap.push (seqObj "list" vs.toArray 0)).get? s1.heap.objs.size = some (seqObj "list" vs.toArray 0) := Heap.get?_push_size _ rfl
  have okI := sortOk_iff.mp (sortOk_ints (vs.map Builtin.Re.reRawOf))
  refine wpAny_bind (wpAny_holding (PySem.W.list_sort_data (s := { s1 with heap := s1.heap.push (seqObj "list" vs.toArray 0) }) (R := fun u (k : Int) => ∃ t, u = Value.int k t) (enc := PyData.int) lst (each_is hInts) (each_ints hInts) okI.1 okI.2.1 (by rw [List.length_map, len]; exact small) (fun b hb => ?_) fun out hlen eo => ?_))
  · have := okI.2.2 (.int b) (List.mem_map.mpr ⟨b, hb, rfl⟩)
    have e : A.in1.units ≤ A.units + 1 := Nat.le_refl _
    omega
  · have srt := PySem.W.dataLe_int (fun x : Int => x)
    have io := is_each eo
    obtain ⟨c, hc⟩ := sortedHeap_at (vs := vs) (out := out.toArray) lst
    have le : PySem.W.dataLe false PyData.int = fun (a b : Int) => decide (a ≤ b) := srt
    rw [le] at io eo
    have ps := List.mergeSort_perm (vs.map Builtin.Re.reRawOf) (fun (a b : Int) => decide (a ≤ b))
    have so : ((vs.map Builtin.Re.reRawOf).mergeSort fun (a b : Int) => decide (a ≤ b)).Pairwise (· ≤ ·) := by
      have := List.pairwise_mergeSort (le := fun (a b : Int) => decide (a ≤ b)) (fun a b c h1 h2 => by simp at *; omega) (fun a b => by simp; omega) (vs.map Builtin.Re.reRawOf)
      exact this.imp fun h => by simpa using h
    have pn := ps.trans pk
    refine wpAny_pure ⟨_, rfl, fin _ s1.heap.objs.size out.toArray c _ (fun b u e => ?_) g1 o1 sz hc (by simpa using io) (lt_of_le_nodup _ so (pn.nodup_iff.mpr nd)) (fun k => by rw [pn.mem_iff, ← mem k]) ?_⟩
    · have q := kp b u e
      have hlt := Heap.lt_size q
      show (sortedHeap (s1.heap.push (seqObj "list" vs.toArray 0)) s1.heap.objs.size vs out.toArray).get? b = some u
      rw [sortedHeap_old (Nat.ne_of_lt hlt) (by rw [size_push']; exact Nat.lt_succ_of_lt hlt)]
      exact Heap.get?_push_of_some _ q
    · rw [pn.length_eq, List.length_map, Array.length_toList]
      exact many
end
/-! ### in the text -/
theorem run_soSe {X : Cx} {pins : List (Addr × Obj)} {s : Shared} {σ : L2.St} {H : Hp} {Q : VK} {a : Addr} {S : Int → Bool} {n : Nat} (hc : X.calm = true) (hu : X.A.units + 65 < cLine) (I : Inv X pins σ H s) (R : SetR X.w s.heap a S n) (hn : n ≤ 4000)
    (q : ∀ (ms : List Int) (p : Addr), ms.Pairwise (· < ·) → (∀ k, k ∈ ms ↔ S k = true) → H p = none → Q (.ref p) (upd H p (.lst (ms.map V.int)))) : wpAny (model X.prog X.w) X.A (call (.builtin "sorted") [.ref a]) (EP X pins σ Q) X.xe s := by
  refine sort_set R (I.ok.hd hc) (by omega) fun s2 p out c ms kp eg eo low got io so mem len => ?_
  have short : (ms.map V.int).length ≤ sizeLine := by rw [List.length_map, len, sizeLine_eq]; omega
  have new : H p = none := I.hok.fresh low
  have J : Inv X pins σ (upd H p (.lst (ms.map V.int))) { s with heap := s2.heap, gens := s2.gens, drawn := s2.drawn, toks := s2.toks } := I.call (ch := []) (h' := s2.heap) (g' := s2.gens) (d' := s2.drawn) (t' := s2.toks) (Un.laid kp low new) (I.hok.laid kp low ⟨short, out.toList, c, vals_of_ints io, got⟩) (by rw [eg]; exact I.bare) (fun _ z => nomatch z)
  have e : s2 = { s with heap := s2.heap, gens := s2.gens, drawn := s2.drawn, toks := s2.toks } := by
    obtain ⟨_, _, _, _, _⟩ := s2
    obtain ⟨_, _, _, _, _⟩ := s
    cases eo
    rfl
  rw [e]
  exact ⟨.ref p, _, J, rfl, q ms p so mem new⟩
def tSoSe (K : PySem.W.Frag) (ta : TE) : TE := fun σ H Q => ta σ H fun x H1 => ∃ (l : Addr) (ns : List Int), x = .ref l ∧ SqL K H1 l (ns.map V.int) ∧ ns.length ≤ 4000 ∧ ∀ (ms : List Int) (p : Addr), ms.Pairwise (· < ·) → (∀ k, k ∈ ms ↔ k ∈ ns) → H1 p = none → Q (.ref p) (upd H1 p (.lst (ms.map V.int)))
theorem pe_soSe {X : Cx} {a : Expr} {ta : TE} {p p2 q pos : Pos} (hc : X.calm = true) (hu : X.A.units + 65 < cLine) (hg : Gl X "sorted") (hm : X.mg "sorted" = none) (hg2 : Gl X "set") (hm2 : X.mg "set" = none) (ha : PE X a ta)
    (na : starEach [a] X.env = (false, eval a X.env) :: starEach [] X.env := by rfl) : PE X (.Call (.Name "sorted" p) [.Call (.Name "set" p2) [a] [] q] [] pos) (tSoSe X.K ta) := by
  refine ⟨fun pins s σ H Q I h => ?_⟩
  refine Call_ (ld_blt I hg hm (show bootBuiltins "sorted" = some (.builtin "sorted") by decide +kernel) ?_)
  refine callWith_builtin1 (args_cons ?_ rfl) rfl rfl
  refine Call_ (ld_blt I hg2 hm2 (show bootBuiltins "set" = some (.type "set") by decide +kernel) ?_)
  refine callWith_type1 (args_cons (thn (ha.run pins s σ H _ I h) fun v s1 ⟨x, H1, I1, r1, q1⟩ => args_nil ?_) na) na rfl
  obtain ⟨l, ns, rfl, hq, hn, q1⟩ := q1
  cases r1
  obtain ⟨its, r, pl, hz⟩ := I1.list hq
  refine set_of_list ns (I1.ok.hd hc) pl.isList (by simpa using ints_of_vals r) (by unfold scanBound; omega) fun h2 t2 many R le kp => args_nil ?_
  have I2 : Inv X pins σ H1 { s1 with heap := h2, toks := t2 } := I1.kept kp
  exact run_soSe hc hu I2 R (by omega) fun ms p so mem new => q1 ms p so (fun k => by rw [mem k]; simp) new
/-- sorted(set(xs)): the numbers, each once, rising -/
def uniqI (l : List Int) : List Int := (l.mergeSort fun a b => decide (a ≤ b)).eraseDups
def oSoSe (m : Gm → Out PyData) (g : Gm) : Out OD := (m g).bind fun d g1 => match d with
  | .list ds => match intsD ds with
    | some ns => if ns.length ≤ 4000 then .ok (.lst ((uniqI ns).map PyData.int)) g1 else .stk
    | none => .stk
  | _ => .stk
theorem eraseDups_mem {l : List Int} {k : Int} : k ∈ l.eraseDups ↔ k ∈ l := List.mem_eraseDups
theorem uniqI_mem (l : List Int) (k : Int) : k ∈ uniqI l ↔ k ∈ l := by
  unfold uniqI
  rw [List.mem_eraseDups, (List.mergeSort_perm _ _).mem_iff]
theorem eraseDups_lt : ∀ {n : Nat} {l : List Int}, l.length ≤ n → l.Pairwise (· ≤ ·) → l.eraseDups.Pairwise (· < ·)
  | _, [], _, _ => by simp
  | 0, a :: l, h, _ => by simp at h
  | n + 1, a :: l, h, hp => by
    rw [List.eraseDups_cons]
    obtain ⟨h1, h2⟩ := List.pairwise_cons.mp hp
    refine List.pairwise_cons.mpr ⟨fun b hb => ?_, eraseDups_lt (n := n) (Nat.le_trans (List.length_filter_le _ _) (by simpa using h)) (h2.sublist List.filter_sublist)⟩
    rw [List.mem_eraseDups] at hb
    obtain ⟨b1, b2⟩ := List.mem_filter.mp hb
    have := h1 b b1
    have ne : b ≠ a := by simpa using b2
    omega
theorem uniqI_lt (l : List Int) : (uniqI l).Pairwise (· < ·) := by
  unfold uniqI
  refine eraseDups_lt (Nat.le_refl _) ?_
  have := List.pairwise_mergeSort (le := fun (a b : Int) => decide (a ≤ b)) (fun a b c h1 h2 => by simp at *; omega) (fun a b => by simp; omega) l
  exact this.imp fun h => by simpa using h
theorem lt_uniq : ∀ {l m : List Int}, l.Pairwise (· < ·) → m.Pairwise (· < ·) → (∀ k, k ∈ l ↔ k ∈ m) → l = m
  | [], [], _, _, _ => rfl
  | [], b :: m, _, _, h => by
    have := (h b).mpr List.mem_cons_self
    cases this
  | a :: l, [], _, _, h => by
    have := (h a).mp List.mem_cons_self
    cases this
  | a :: l, b :: m, h1, h2, h => by
    obtain ⟨a1, a2⟩ := List.pairwise_cons.mp h1
    obtain ⟨b1, b2⟩ := List.pairwise_cons.mp h2
    have e : a = b := by
      rcases List.mem_cons.mp ((h a).mp List.mem_cons_self) with z | z
      · exact z
      · rcases List.mem_cons.mp ((h b).mpr List.mem_cons_self) with y | y
        · exact y.symm
        · have := b1 a z
          have := a1 b y
          omega
    subst e
    congr 1
    refine lt_uniq a2 b2 fun k => ?_
    constructor
    · intro hk
      rcases List.mem_cons.mp ((h k).mp (List.mem_cons_of_mem _ hk)) with z | z
      · have := a1 k hk
        omega
      · exact z
    · intro hk
      rcases List.mem_cons.mp ((h k).mpr (List.mem_cons_of_mem _ hk)) with z | z
      · have := b1 k hk
        omega
      · exact z
section
variable {K : PySem.W.Frag} {cg : Cg} {W : WX} {pvs : Pv} {g : Gm} {σ : L2.St} {S : Addr → Prop} {F H : Hp}
theorem ro_soSe {t : TE} {m : Gm → Out PyData} (h : RV K cg W t m) : RO K cg W (tSoSe K t) (oSoSe m) := fun pvs g σ S F H Q r q => by
  refine h pvs g σ S F H _ r ?_
  unfold oSoSe at q
  cases e : m g with
  | ok d g1 =>
    rw [e] at q
    intro v S1 F1 H1 s1 r1 d1
    simp only [Out.bind] at q
    split at q
    · rename_i ds
      split at q
      · rename_i ns en
        split at q
        · rename_i hz
          replace q := PoO.st q s1
          have ed := ints_map en
          subst ed
          cases d1 with
          | lst t1 t2 =>
            have ev := dpa_ints_of ns t2
            subst ev
            refine ⟨_, ns, rfl, SqL.of (r1.fh _ _ t1), hz, fun ms p so mem hp => ?_⟩
            have e3 : ms = uniqI ns := lt_uniq so (uniqI_lt ns) fun k => by rw [mem k, uniqI_mem]
            subst e3
            exact fin_l (fun v A F' H' p3 ow fr => q v A S1 F' H' (p3.stpA fr) (r1.pst p3) ow (r1.apart fr)) r1.fh hp (dpa_ints _)
        · exact q.elim
      · exact q.elim
    · exact q.elim
  | err e' g1 =>
    rw [e] at q
    exact q
  | stk =>
    rw [e] at q
    exact q.elim
end
theorem do_soSe {X : Cx} {W : Wz} {a : Expr} {m : Gm → Out PyData} {p p2 q pos : Pos} (hu : X.A.units + 65 < cLine) (hm : X.mg "sorted" = none) (hm2 : X.mg "set" = none) (ha : DV X W a m) (hc : X.calm = true := by rfl) (hg : Gl X "sorted" := by rfl) (hg2 : Gl X "set" := by rfl)
    (na : starEach [a] X.env = (false, eval a X.env) :: starEach [] X.env := by rfl) : DO X W (.Call (.Name "sorted" p) [.Call (.Name "set" p2) [a] [] q] [] pos) (oSoSe m) :=
  let ⟨_, h1, h2⟩ := ha; ⟨_, pe_soSe hc hu hg hm hg2 hm2 h1 na, ro_soSe h2⟩
end VL
/-! The value layer, part 29: methods and defs with defaults by their names. -/
namespace VL
open PySem PySem.Spec PyProof.Rows L2
/-- a statement in a class -/
def inCls (st : Stmt) (j : Nat) : Stmt := match st with
  | .ClassDef _ _ _ b _ _ _ _ _ _ _ => b.getD j (.Pass ⟨0, 0, 0, 0⟩)
  | s => s
/-- a method of the text -/
def DfM (K : PySem.W.Frag) (mg : Str → Option Value) (c nm qual : Str) (st : Stmt) : Prop := ∃ C f fd, mg c = some (.ref C) ∧ L2.Cls K C ∧ Meth K C nm f ∧ FunD K nm qual (defArgs st) (defBody st) (defScope st) [] [] f fd
/-- the __init__ of a class of the text -/
def DfI (K : PySem.W.Frag) (mg : Str → Option Value) (c qual : Str) (st : Stmt) : Prop := ∃ C f fd, mg c = some (.ref C) ∧ Mk K C f ∧ FunD K "__init__" qual (defArgs st) (defBody st) (defScope st) [] [] f fd
section
variable {P : Program} {w : World} {K : PySem.W.Frag} {mg : Str → Option Value} {base : Heap} {h : Heap}
theorem mk_mk {c nm qual : Str} {st : Stmt} {N ps : List Str} {k kk : Nat} {ls : List Bool} {mb : Gm → SOut} (D : DfM K mg c nm qual st) (S : FnScope N ps (defScope st)) (hl : ls.length = ps.length) (hN : N.length = ls.length + kk)
    (hbd : ∀ (kV doc pm : Value) (an : Option Addr) (cdv ct : Value) (us : List Value), us.length = ps.length → bindArgs (PySem.W.fnOf nm qual (defArgs st) (defBody st) (defScope st) .none kV doc pm an cdv ct) ⟨us, []⟩ = pure (ps.zip us))
    (hb : ∀ (f : Addr) (cdv : Value) (A : Around) (outer : List Env) (s : Shared) (H : Hp) (E : L2.XK), Room k (A.deeper (envOfC qual (defScope st) s.heap.objs.size f cdv)) →
      DSs (cxOf (L2.CX P w) P w K mg base N qual (defScope st) f cdv A outer s H E) ⟨fun cls d _ H' => E cls d H', fun _ => True⟩ (defBody st) mb) : MK P w K mg base (k + 1) c nm ps (fnM ls kk mb) := by
  obtain ⟨C, f, fd, g, cl, me, F⟩ := D
  exact ⟨C, f, fd, g, cl, me, fn_ok F S hl hN (fun cdv A outer s H E hr => hb f cdv A outer s H E hr), F.bindsN hbd⟩
theorem ci_mk {c qual : Str} {st : Stmt} {N : List Str} {k kk : Nat} {mb : Gm → SOut} (D : DfI K mg c qual st) (S : FnScope N ["self"] (defScope st)) (hN : N.length = 1 + kk)
    (hbd : ∀ (kV doc pm : Value) (an : Option Addr) (cdv ct : Value) (us : List Value), us.length = 1 → bindArgs (PySem.W.fnOf "__init__" qual (defArgs st) (defBody st) (defScope st) .none kV doc pm an cdv ct) ⟨us, []⟩ = pure ((["self"] : List Str).zip us))
    (hb : ∀ (f : Addr) (cdv : Value) (A : Around) (outer : List Env) (s : Shared) (H : Hp) (E : L2.XK), Room k (A.deeper (envOfC qual (defScope st) s.heap.objs.size f cdv)) →
      DSs (cxOf (L2.CX P w) P w K mg base N qual (defScope st) f cdv A outer s H E) ⟨fun cls d _ H' => E cls d H', fun _ => True⟩ (defBody st) mb) : CMK P w K mg base (k + 1) c (fnM [true] kk mb) := by
  obtain ⟨C, f, fd, g, mk, F⟩ := D
  exact ⟨C, f, fd, g, mk, fn_ok (ls := [true]) F S rfl hN (fun cdv A outer s H E hr => hb f cdv A outer s H E hr), F.bindsN hbd⟩
theorem ak_of (X : K.In h) (G : h.Ns mainGlobals mg) {c n : Str} (c1 : (He.Fa.glo c).ok K = true) (c2 : (He.Fa.cls c).ok K = true) (c3 : (He.Fa.noat c n).ok K = true) : AK K mg c n := ⟨_, He.glo_ok X G c1, He.cls_ok c2, He.noat_ok c3⟩
/-! ### defaults -/
/-- a def with defaults -/
def DfD (K : PySem.W.Frag) (mg : Str → Option Value) (x : Str) (st : Stmt) (dvs : List V) : Prop := ∃ f fd, FunD K x x (defArgs st) (defBody st) (defScope st) dvs [] f fd ∧ mg x = some (.ref f)
/-- the def behind a name keeps its mirror; its last parameters may lack -/
def FKD (P : Program) (w : World) (K : PySem.W.Frag) (mg : Str → Option Value) (base : Heap) (k : Nat) (x : Str) (ps : List Str) (dvs : List V) (m : List OD → FOut) : Prop :=
  ∃ f fd, FnOk P w K mg base (L2.CX P w) k f fd ps (spL K mg ps.length m) ∧ mg x = some (.ref f) ∧ PySem.W.keepIn K (.ref f) = true ∧ Binds K fd ps [] ∧ ∃ ds, Vals dvs ds ∧ Binds K fd ps ds
theorem FKD.all {k : Nat} {x : Str} {ps : List Str} {dvs : List V} {m : List OD → FOut} (h : FKD P w K mg base k x ps dvs m) : FK P w K mg base k x ps m := let ⟨f, fd, a, b, c, d, _⟩ := h; ⟨f, fd, a, b, c, d⟩
theorem fkd_mk {x : Str} {st : Stmt} {N ps : List Str} {k kk : Nat} {ls : List Bool} {mb : Gm → SOut} {dvs : List V} (D : DfD K mg x st dvs) (S : FnScope N ps (defScope st)) (hl : ls.length = ps.length) (hN : N.length = ls.length + kk) (hd : dvs ≠ []) (hle : dvs.length ≤ ps.length)
    (h0 : ∀ (T : Addr) (kV doc pm : Value) (an : Option Addr) (cdv ct : Value) (us its : List Value), us.length = ps.length - dvs.length → its.length = dvs.length →
      ∃ q, bindArgs (PySem.W.fnOf x x (defArgs st) (defBody st) (defScope st) (.ref T) kV doc pm an cdv ct) ⟨us, []⟩ = seqItems? (.ref T) >>= q ∧ q (some its.toArray) = pure (ps.zip (us ++ its)))
    (h1 : ∀ (T : Addr) (kV doc pm : Value) (an : Option Addr) (cdv ct : Value) (us its : List Value), us.length = ps.length → its.length = dvs.length →
      ∃ q, bindArgs (PySem.W.fnOf x x (defArgs st) (defBody st) (defScope st) (.ref T) kV doc pm an cdv ct) ⟨us, []⟩ = seqItems? (.ref T) >>= q ∧ q (some its.toArray) = pure (ps.zip us))
    (hb : ∀ (f : Addr) (cdv : Value) (A : Around) (outer : List Env) (s : Shared) (H : Hp) (E : L2.XK), Room k (A.deeper (envOfC x (defScope st) s.heap.objs.size f cdv)) →
      DSs (cxOf (L2.CX P w) P w K mg base N x (defScope st) f cdv A outer s H E) ⟨fun cls d _ H' => E cls d H', fun _ => True⟩ (defBody st) mb) : FKD P w K mg base (k + 1) x ps dvs (fnM ls kk mb) := by
  obtain ⟨f, fd, F, g⟩ := D
  obtain ⟨ds, a1, a2⟩ := F.binds1 (ps := ps) (ps.length - dvs.length) 0 hd (by omega) fun T kV doc pm an cdv ct us its e1 e2 => by
    obtain ⟨q, b1, b2⟩ := h0 T kV doc pm an cdv ct us its e1 e2
    exact ⟨q, b1, by simpa using b2⟩
  obtain ⟨ds2, c1, c2⟩ := F.binds1 (ps := ps) ps.length dvs.length hd (by omega) fun T kV doc pm an cdv ct us its e1 e2 => by
    obtain ⟨q, b1, b2⟩ := h1 T kV doc pm an cdv ct us its e1 e2
    exact ⟨q, b1, by rw [← e2, List.drop_length, List.append_nil]; exact b2⟩
  rw [List.drop_length] at c1
  cases c1
  exact ⟨f, fd, fn_ok F S hl hN (fun cdv A outer s H E hr => hb f cdv A outer s H E hr), g, F.kp, c2, ds, by simpa using a1, a2⟩
/-! ### another name for a def -/
def alB (K : PySem.W.Frag) (x y : Str) : Bool := match PySem.W.nsIn K mainGlobals x, PySem.W.nsIn K mainGlobals y with
  | some (some (.ref a)), some (some (.ref b)) => decide (a = b)
  | _, _ => false
theorem alB_ok (X : K.In h) (G : h.Ns mainGlobals mg) {x y : Str} (c : alB K x y = true) : mg x = mg y := by
  unfold alB at c
  split at c
  · rename_i a b e1 e2
    rw [PySem.W.mg_of X G e1, PySem.W.mg_of X G e2, of_decide_eq_true c]
  · cases c
theorem FK.al {k : Nat} {x y : Str} {ps : List Str} {m : List OD → FOut} (F : FK P w K mg base k y ps m) (e : mg x = mg y) : FK P w K mg base k x ps m := let ⟨f, fd, a, b, c, d⟩ := F; ⟨f, fd, a, e.trans b, c, d⟩
theorem FKD.al {k : Nat} {x y : Str} {ps : List Str} {dvs : List V} {m : List OD → FOut} (F : FKD P w K mg base k y ps dvs m) (e : mg x = mg y) : FKD P w K mg base k x ps dvs m := let ⟨f, fd, a, b, c, d⟩ := F; ⟨f, fd, a, e.trans b, c, d⟩
end
/-! ### a call whose last arguments lack -/
def lApp (ml : Gm → Out (List Ar)) (ds : List PyData) (g : Gm) : Out (List Ar) := (ml g).bind fun as g1 => .ok (as ++ ds.map Ar.d) g1
section
variable {K : PySem.W.Frag} {cg : Cg} {W : WX}
theorem arOk_app {F : Hp} {σ : L2.St} {vs' : List V} {ds : List PyData} (hd : DqA K F vs' ds) : ∀ {vs : List V} {as : List Ar}, ArOk K F σ vs as → ArOk K F σ (vs ++ vs') (as ++ ds.map Ar.d)
  | _, _, .nil => by
    simp only [List.nil_append]

    induction ds generalizing vs' with
    | nil =>
      cases hd
      exact .nil
    | cons d ds ih =>
      cases hd with
      | cons h t => exact .d h (ih t)
  | _, _, .d h t => .d h (arOk_app hd t)
  | _, _, .l h t => .l h (arOk_app hd t)
theorem rl_app {t : TA} {ml : Gm → Out (List Ar)} {dvs : List V} {ds : List PyData} (hd : ∀ F, DqA K F dvs ds) (h : RL K cg W t ml) : RL K cg W (fun σ H Q => t σ H fun vs H1 => Q (vs ++ dvs) H1) (lApp ml ds) := fun pvs g σ S F H Q r q => by
  refine h pvs g σ S F H _ r ?_
  unfold lApp at q
  cases e : ml g with
  | ok as g1 =>
    rw [e] at q
    intro vs S1 F1 H1 s1 r1 a1
    exact q (vs ++ dvs) S1 F1 H1 s1 r1 (arOk_app (hd F1) a1)
  | err e' g1 =>
    rw [e] at q
    exact q
  | stk =>
    rw [e] at q
    exact q.elim
end
section
variable {X : Cx} {W : Wz} {e : Expr} {es : List Expr} {pos p : Pos} {x : Str} {k j : Nat} {ps : List Str} {m : List OD → FOut}
theorem do_fkd {n : Nat} {ml : Gm → Out (List Ar)} {dvs : List V} (ds : List PyData) (F : FKD X.prog X.w X.K X.mg X.base k x ps dvs m) (hd : ∀ F, DqA X.K F dvs ds) (hr : Room j X.A) (hk : k ≤ j) (tk : Takes X W.x) (ha : DL X W (e :: es) ml)
    (hg : Gl X x := by rfl) (hdb : (x == ("__debug__" : Str)) = false := by decide) (he : starEach (e :: es) X.env = (false, eval e X.env) :: starEach es X.env := by rfl) (hpl : (backTo pos (starEach es X.env)).any (·.1) = false := by rfl) (hn : ps.length = n := by rfl) :
    DO X W (.Call (.Name x p) (e :: es) [] pos) (oCall n m (lApp ml ds)) := by
  subst hn
  obtain ⟨f, fd, F, g, kp, _, dds, b1, b2⟩ := F
  obtain ⟨t, h1, h2⟩ := ha
  exact ⟨_, pe_callSD F (hr.mono hk) hg g kp b2 b1 (fun σ => passAt tk σ) h1 hdb he hpl, ro_call (rl_app (cg := cgX X W) hd h2)⟩
theorem dq_3999 {K : PySem.W.Frag} (F : Hp) : DqA K F [.int 3999] [.int 3999] := .cons (.int _) .nil
end
end VL
/-! The value layer, part 30: str of a number, texts put together in a written frame. -/
namespace VL
open PySem PySem.Spec PyProof.Rows L2
/-- a number's text -/
def nTx (i : Int) : Str := toString i
def fStr : List PyData → Option OD
  | [.int i] => if i.natAbs.log2 < 1920 then some (.dat (.str (nTx i))) else none
  | _ => none
def vFmt (m : Gm → Out PyData) (g : Gm) : Out PyData := (m g).bind fun d g1 => match d with
  | .str y => if y.length ≤ zl then .ok (.str y) g1 else .stk
  | .int i => if i.natAbs.log2 < 1920 then .ok (.str (nTx i)) g1 else .stk
  | _ => .stk
def jNil (acc : Str) (g : Gm) : Out PyData := .ok (.str acc) g
def jCons (m : Gm → Out PyData) (r : Str → Gm → Out PyData) (acc : Str) (g : Gm) : Out PyData := (m g).bind fun d g1 => match d with
  | .str y => if (acc ++ y).length ≤ zl then r (acc ++ y) g1 else .stk
  | _ => .stk
def vJoi (r : Str → Gm → Out PyData) (g : Gm) : Out PyData := r Str.empty g
section
variable {K : PySem.W.Frag} {cg : Cg} {W : WX}
theorem g_str {cg : Str → Option Value} : CaG K cg (fun xs H Q => ∃ i, xs = [.int i] ∧ i.natAbs.log2 < 1920 ∧ Q (.str (toString i)) H) fStr := fun F H xs as o Q e hx hf k => by
  unfold fStr at hf
  split at hf
  · split at hf
    · rename_i hz
      cases hf
      cases hx with
      | cons h t =>
        cases t
        rw [h.int]
        exact ⟨_, rfl, hz, fin_s k e (.str _)⟩
    · cases hf
  · cases hf
theorem rv_fmt {t : TE} {m : Gm → Out PyData} (ha : RV K cg W t m) : RV K cg W (tFmt t) (vFmt m) := fun pvs g σ S F H Q r q => by
  refine ha pvs g σ S F H _ r ?_
  unfold vFmt at q
  cases e : m g with
  | ok d g1 =>
    rw [e] at q
    intro v S1 F1 H1 s1 r1 d1
    have q := PoV.st q s1
    cases d1 with
    | bl b => exact q.elim
    | non => exact q.elim
    | int i =>
      by_cases hz : i.natAbs.log2 < 1920
      · have e2 : (Out.bind (.ok (PyData.int i) g1) fun d g1 => match d with
          | .str y => if y.length ≤ zl then .ok (.str y) g1 else .stk
          | .int i => if i.natAbs.log2 < 1920 then .ok (.str (nTx i)) g1 else .stk
          | _ => .stk : Out PyData) = .ok (.str (nTx i)) g1 := if_pos hz
        rw [e2] at q
        exact .inr ⟨i, rfl, hz, q _ S1 F1 H1 (.refl r1.fh) r1 (.str _)⟩
      · have e2 : (Out.bind (.ok (PyData.int i) g1) fun d g1 => match d with
          | .str y => if y.length ≤ zl then .ok (.str y) g1 else .stk
          | .int i => if i.natAbs.log2 < 1920 then .ok (.str (nTx i)) g1 else .stk
          | _ => .stk : Out PyData) = .stk := if_neg hz
        rw [e2] at q
        exact q.elim
    | str x =>
      by_cases hz : x.length ≤ zl
      · have e2 : (Out.bind (.ok (PyData.str x) g1) fun d g1 => match d with
          | .str y => if y.length ≤ zl then .ok (.str y) g1 else .stk
          | .int i => if i.natAbs.log2 < 1920 then .ok (.str (nTx i)) g1 else .stk
          | _ => .stk : Out PyData) = .ok (.str x) g1 := if_pos hz
        rw [e2] at q
        exact .inl ⟨x, rfl, zl_le hz, q _ S1 F1 H1 (.refl r1.fh) r1 (.str _)⟩
      · have e2 : (Out.bind (.ok (PyData.str x) g1) fun d g1 => match d with
          | .str y => if y.length ≤ zl then .ok (.str y) g1 else .stk
          | .int i => if i.natAbs.log2 < 1920 then .ok (.str (nTx i)) g1 else .stk
          | _ => .stk : Out PyData) = .stk := if_neg hz
        rw [e2] at q
        exact q.elim
    | lst h1 h2 => exact q.elim
    | tup h1 h2 => exact q.elim
  | err e' g1 =>
    rw [e] at q
    exact q
  | stk =>
    rw [e] at q
    exact q.elim
/-- parts of a text, one behind the other -/
def RJ (K : PySem.W.Frag) (cg : Cg) (W : WX) (ts : List TE) (m : Str → Gm → Out PyData) : Prop := ∀ acc pvs g σ S F H Q, Rel K cg pvs g σ S F H → PoV K cg W pvs σ S F H Q (m acc g) → tJs ts acc σ H fun out H1 => Q (.str out) H1
theorem rj_nil : RJ K cg W [] jNil := fun acc pvs g σ S F H Q r q => q _ S F H (.refl r.fh) r (.str _)
theorem rj_cons {t : TE} {ts : List TE} {m : Gm → Out PyData} {mr : Str → Gm → Out PyData} (ha : RV K cg W t m) (hr : RJ K cg W ts mr) : RJ K cg W (t :: ts) (jCons m mr) := fun acc pvs g σ S F H Q r q => by
  refine ha pvs g σ S F H _ r ?_
  unfold jCons at q
  cases e : m g with
  | ok d g1 =>
    rw [e] at q
    intro v S1 F1 H1 s1 r1 d1
    have q := PoV.st q s1
    cases d1 with
    | bl b => exact q.elim
    | non => exact q.elim
    | int i => exact q.elim
    | str x =>
      by_cases hz : (acc ++ x).length ≤ zl
      · have e2 : (Out.bind (.ok (PyData.str x) g1) fun d g1 => match d with
          | .str y => if (acc ++ y).length ≤ zl then mr (acc ++ y) g1 else .stk
          | _ => .stk : Out PyData) = mr (acc ++ x) g1 := if_pos hz
        rw [e2] at q
        exact ⟨x, rfl, zl_le hz, hr _ pvs g1 σ S1 F1 H1 Q r1 q⟩
      · have e2 : (Out.bind (.ok (PyData.str x) g1) fun d g1 => match d with
          | .str y => if (acc ++ y).length ≤ zl then mr (acc ++ y) g1 else .stk
          | _ => .stk : Out PyData) = .stk := if_neg hz
        rw [e2] at q
        exact q.elim
    | lst h1 h2 => exact q.elim
    | tup h1 h2 => exact q.elim
  | err e' g1 =>
    rw [e] at q
    exact q
  | stk =>
    rw [e] at q
    exact q.elim
end
def DJ (X : Cx) (W : Wz) (es : List Expr) (m : Str → Gm → Out PyData) : Prop := ∃ ts, PJ X es ts ∧ RJ X.K (cgX X W) W.x ts m
section
variable {X : Cx} {W : Wz} {e : Expr} {es : List Expr} {pos : Pos}
theorem dj_nil : DJ X W [] jNil := ⟨_, .nil, rj_nil⟩
theorem dj_cons {m : Gm → Out PyData} {mr : Str → Gm → Out PyData} (h : DV X W e m) (hr : DJ X W es mr) : DJ X W (e :: es) (jCons m mr) := let ⟨_, h1, h2⟩ := h; let ⟨_, k1, k2⟩ := hr; ⟨_, .cons h1 k1, rj_cons h2 k2⟩
theorem dv_fmt {m : Gm → Out PyData} (h : DV X W e m) : DV X W (.FormattedValue e (-1) none pos) (vFmt m) := let ⟨_, h1, h2⟩ := h; ⟨_, pe_fmt h1, rv_fmt h2⟩
theorem dv_joi {v1 v2 : Expr} {rest : List Expr} {m : Str → Gm → Out PyData} (h : DJ X W (v1 :: v2 :: rest) m) : DV X W (.JoinedStr (v1 :: v2 :: rest) pos) (vJoi m) := let ⟨_, h1, h2⟩ := h; ⟨_, pe_joined h1, fun pvs g σ S F H Q r q => h2 _ pvs g σ S F H Q r q⟩
end
end VL
/-! The value layer, part 31: the top's run looked at in parts. -/
namespace VL
open PySem PySem.W PySem.Calls PyProof.Rows
/-- the end of the top -/
noncomputable abbrev topEnd (r : OpenRow) (M : Nat) (w : World) (os : OsState) : Option SharedT := HandSHeadRun.endF (HandSHeadRun.stepQ (HandSHeadRun.denQ HandSHeadRun.tabQ) r.prog w) M r.prog w os
def RunB (r : OpenRow) (q : Program) (M : Nat) (loose : List PySem.Str) (w : World) : Prop := ∀ os : OsState, (topEnd r M w os).map (fun s => (HandSHeadRun.looksF r.prog (boot_heap w.params) s.abs, HandSHeadRun.seenQ q loose (importedModules r.prog.main.body) (fun s => xlAt q [] s && recOk r.toRowW.records s) s.abs)) = some (true, openGood q loose)
def RunC (r : OpenRow) (n M : Nat) (fa : List He.Fa) (fn : List He.DefD) (ex : PySem.W.Frag → Bool) (w : World) : Prop := ∀ os : OsState, (topEnd r M w os).map (fun s => obsM n fa fn ex (HandSHeadRun.getT s)) = some (He.valD fn, true)
theorem obs_app {n : Nat} {fa1 fa2 : List He.Fa} {fn1 fn2 : List He.DefD} {ex1 ex2 : PySem.W.Frag → Bool} {g : Addr → Option Obj} (h1 : obsM n fa1 fn1 ex1 g = (He.valD fn1, true)) (h2 : obsM n fa2 fn2 ex2 g = (He.valD fn2, true)) :
    obsM n (fa1 ++ fa2) (fn1 ++ fn2) (fun K => ex1 K && ex2 K) g = (He.valD (fn1 ++ fn2), true) := by
  unfold obsM He.obsD He.valD at *
  generalize He.frG g (He.asD g n) = K at *
  simp only [Prod.mk.injEq, Bool.and_eq_true] at h1 h2
  obtain ⟨⟨⟨a1, a2⟩, a3⟩, a4⟩ := h1
  obtain ⟨⟨⟨b1, b2⟩, b3⟩, b4⟩ := h2
  show (((fa1 ++ fa2).all _ && (fn1 ++ fn2).all _, (fn1 ++ fn2).map _), ex1 K && ex2 K) = _
  rw [List.all_append, List.all_append, List.map_append, List.map_append, a1, a2, a3, a4, b1, b2, b3, b4]
  rfl
theorem RunC.app {r : OpenRow} {n M : Nat} {fa1 fa2 : List He.Fa} {fn1 fn2 : List He.DefD} {ex1 ex2 : PySem.W.Frag → Bool} {w : World} (h1 : RunC r n M fa1 fn1 ex1 w) (h2 : RunC r n M fa2 fn2 ex2 w) : RunC r n M (fa1 ++ fa2) (fn1 ++ fn2) (fun K => ex1 K && ex2 K) w := fun os => by
  obtain ⟨s, e, v1⟩ := Option.map_eq_some_iff.mp (h1 os)
  have v2 := h2 os
  rw [e] at v2 ⊢
  exact congrArg some (obs_app v1 (Option.some.inj v2))
theorem run_of {r : OpenRow} {q : Program} {n M : Nat} {fa : List He.Fa} {fn : List He.DefD} {ex : PySem.W.Frag → Bool} {loose : List PySem.Str} {w : World} (h1 : RunB r q M loose w) (h2 : RunC r n M fa fn ex w) : HandSHeadRun.RunEq r q (hookM n fa fn ex) (fun s => obsM n fa fn ex (HandSHeadRun.getT s)) M loose w := fun os => by
  obtain ⟨s, e, v1⟩ := Option.map_eq_some_iff.mp (h1 os)
  have v2 := h2 os
  rw [e] at v2
  have v2 := Option.some.inj v2
  show (topEnd r M w os).map _ = _
  rw [e]
  obtain ⟨a, b⟩ := Prod.mk.inj v1
  exact congrArg some (Prod.ext a (Prod.ext b v2))
end VL
/-! The value layer, part 32: a barrier ahead of a rest. -/
namespace VL
open PySem PySem.Spec PyProof.Rows L2
theorem dss_bar {X : Cx} {W : Wz} {l : List Stmt} {m : Gm → SOut} (h : DSs X W l m) : DSs X W l (fun g => cIf True (m g) .stk) := by
  have e : (fun g => cIf True (m g) .stk) = m := funext fun g => cIf_true
  rw [e]
  exact h
end VL
/-! The value layer, part 33: whether a text stands in a tuple of texts. -/
namespace VL
open PySem PySem.Spec PyProof.Rows L2
def stL : List PyData → Option (List Str)
  | [] => some []
  | .str x :: r => (stL r).map (x :: ·)
  | _ :: _ => none
def fInT : PyData → PyData → Option OD
  | .str a, .tuple ds => match stL ds with
    | some xs => ob (xs.any fun z => z == a)
    | none => none
  | _, _ => none
def fNotInT : PyData → PyData → Option OD
  | .str a, .tuple ds => match stL ds with
    | some xs => ob (!xs.any fun z => z == a)
    | none => none
  | _, _ => none
section
variable {K : PySem.W.Frag} {cg : Str → Option Value} {F H : Hp}
theorem stL_v : ∀ {ds : List PyData} {xs : List Str} {vs : List V}, stL ds = some xs → DqA K F vs ds → vs = xs.map V.str
  | [], xs, vs, h, d => by
    cases d
    cases h
    rfl
  | .str x :: r, xs, vs, h, d => by
    unfold stL at h
    obtain ⟨ys, e1, rfl⟩ := Option.map_eq_some_iff.mp h
    cases d with
    | cons d1 d2 =>
      cases d1
      rw [stL_v e1 d2]
      rfl
  | .none :: _, _, _, h, _ => by cases h
  | .bool _ :: _, _, _, h, _ => by cases h
  | .int _ :: _, _, _, h, _ => by cases h
  | .list _ :: _, _, _, h, _ => by cases h
  | .tuple _ :: _, _, _, h, _ => by cases h
  | .dict _ :: _, _, _, h, _ => by cases h
theorem flat_strs (xs : List Str) : (xs.map V.str).all flatV = true := by
  rw [List.all_map]
  simp [flatV]
theorem in_strs (a : Str) (xs : List Str) : inV (.str a) (xs.map V.str) = xs.any fun z => z == a := by
  unfold inV
  rw [List.any_map]
  rfl
theorem g_inT : OpG K cg (rIn K false) fInT := fun F H x y a b o Q e hx hy hf k => by
  unfold fInT at hf
  split at hf
  · rename_i s ds
    split at hf
    · rename_i xs e1
      cases hf
      obtain ⟨p, vs, rfl, h1, h2⟩ := hy.tup
      rw [hx.str]
      have ev := stL_v e1 h2
      subst ev
      refine ⟨p, _, rfl, .inr (sqt_mono e h1), rfl, flat_strs xs, ?_⟩
      rw [in_strs]
      exact fin_s k e (.bl _)
    · cases hf
  · cases hf
theorem g_notInT : OpG K cg (rIn K true) fNotInT := fun F H x y a b o Q e hx hy hf k => by
  unfold fNotInT at hf
  split at hf
  · rename_i s ds
    split at hf
    · rename_i xs e1
      cases hf
      obtain ⟨p, vs, rfl, h1, h2⟩ := hy.tup
      rw [hx.str]
      have ev := stL_v e1 h2
      subst ev
      refine ⟨p, _, rfl, .inr (sqt_mono e h1), rfl, flat_strs xs, ?_⟩
      rw [in_strs]
      exact fin_s k e (.bl _)
    · cases hf
  · cases hf
end
end VL
/-! The value layer, part 34: a, b = a list. -/
namespace VL
open PySem L2
variable {K : PySem.W.Frag} {cg : Cg}
def gL (n : Nat) (m : List PyData → Gm → Option Gm) : Tg := fun d g => match d with
  | .list ds => if ds.length = n then m ds g else none
  | _ => none
theorem rg_l {ts : List Nat} {t : TGs} {m : List PyData → Gm → Option Gm} {n : Nat} (h : RGs K cg ts t m) : RG K cg ts (gLst K n t) (gL n m) := fun pvs g g' σ S F H v d Q r hd e q => by
  cases hd with
  | lst h1 h2 =>
    rename_i a xs ds
    unfold gL at e
    simp only at e
    split at e
    · rename_i hn
      exact ⟨a, xs, rfl, .inl (.inl (r.fh _ _ h1)), by rw [dpa_len h2]; exact hn, h pvs g g' σ S F H xs ds Q r h2 e q⟩
    · cases e
  | non => cases e
  | bl b => cases e
  | int i => cases e
  | str x => cases e
  | tup h1 h2 => cases e
theorem dg_lst {X : Cx} {W : Wz} {es : List Expr} {pos : Pos} {ts : List Nat} {m : List PyData → Gm → Option Gm} {k n : Nat} (h : DGs X W ts es m) (hc : X.calm = true := by rfl) (hn : (assignEach es X.env).length = n := by rfl) (hst : (assignEach es X.env).findIdx? (·.1) = none := by rfl) : DG X W ts (.Tuple es k pos) (gL n m) :=
  let ⟨_, h1, h2⟩ := h; ⟨_, pg_lst hc h1 hn hst, rg_l h2⟩
end VL
/-! The value layer, part 35: sorted(a list of tuples with unlike first numbers). -/
namespace VL
open PySem PySem.W PySem.Calls PyProof.Rows L2
def fstI : PyData → Int
  | .tuple (.int n :: _) => n
  | _ => 0
structure FrOk (ds : List PyData) : Prop where
  tu : ∀ d ∈ ds, ∃ n r, d = .tuple (.int n :: r)
  se : ∀ d ∈ ds, alike d d = true
  de : ∀ d ∈ ds, d.depth ≤ 50
  un : ∀ d ∈ ds, ∀ d' ∈ ds, fstI d = fstI d' → d = d'
noncomputable def frKind (h : Heap) (ds : List PyData) : PyProof.Rows.KeyKind where
  toKeyOrd := listOrd itemOrd
  keyOf v := open Classical in if q : ∃ d, d ∈ ds ∧ ∃ as, Reads h v d as then some [.inl (fstI q.choose)] else none
  dflt := ([] : List (Int ⊕ List Nat))
theorem reads_fst {h : Heap} {v : Value} {n m : Int} {r r' : List PyData} {as as' : List Addr} (a : Reads h v (.tuple (.int n :: r)) as) (b : Reads h v (.tuple (.int m :: r')) as') : n = m := by
  cases a with
  | @tuple l o xs k _ _ h1 h2 h3 h4 =>
    cases b with
    | @tuple l' o' xs' k' _ _ k1 k2 k3 k4 =>
      rw [h1] at k1
      cases k1
      rw [h3] at k3
      cases k3
      generalize xs.toList = L at h4 k4
      cases h4 with
      | cons u us =>
        cases k4 with
        | cons w ws =>
          cases u
          cases w
          rfl
theorem frKind_some {h : Heap} {ds : List PyData} (ok : FrOk ds) {v : Value} {d : PyData} {as : List Addr} (hd : d ∈ ds) (r : Reads h v d as) : (frKind h ds).keyOf v = some [.inl (fstI d)] := by
  have q : ∃ d, d ∈ ds ∧ ∃ as, Reads h v d as := ⟨d, hd, as, r⟩
  have e : (frKind h ds).keyOf v = some [.inl (fstI q.choose)] := by
    show (open Classical in if q : ∃ d, d ∈ ds ∧ ∃ as, Reads h v d as then some [(Sum.inl (fstI q.choose) : Int ⊕ List Nat)] else none) = _
    rw [dif_pos q]
  obtain ⟨h1, as', h2⟩ := q.choose_spec
  rw [e]
  generalize q.choose = d' at *
  obtain ⟨n, r1, rfl⟩ := ok.tu _ hd
  obtain ⟨m, r2, rfl⟩ := ok.tu _ h1
  rw [show fstI (.tuple (.int n :: r1)) = n from rfl, show fstI (.tuple (.int m :: r2)) = m from rfl, reads_fst h2 r]
theorem frKind_inv {h : Heap} {ds : List PyData} {v : Value} {k : List (Int ⊕ List Nat)} (e : (frKind h ds).keyOf v = some k) : ∃ d as, d ∈ ds ∧ Reads h v d as ∧ k = [.inl (fstI d)] := by
  by_cases q : ∃ d, d ∈ ds ∧ ∃ as, Reads h v d as
  · have e' : (frKind h ds).keyOf v = some [.inl (fstI q.choose)] := by
      show (open Classical in if q : ∃ d, d ∈ ds ∧ ∃ as, Reads h v d as then some [(Sum.inl (fstI q.choose) : Int ⊕ List Nat)] else none) = _
      rw [dif_pos q]
    obtain ⟨h1, as', h2⟩ := q.choose_spec
    rw [e'] at e
    exact ⟨_, as', h1, h2, (Option.some.inj e).symm⟩
  · have e' : (frKind h ds).keyOf v = none := by
      show (open Classical in if q : ∃ d, d ∈ ds ∧ ∃ as, Reads h v d as then some [(Sum.inl (fstI q.choose) : Int ⊕ List Nat)] else none) = _
      rw [dif_neg q]
      rfl
    rw [e'] at e
    exact absurd e (by simp)
theorem lex1 (n m : Int) : PyProof.Rows.lexLt itemOrd [Sum.inl n] [Sum.inl m] = decide (n < m) := by
  by_cases h : n = m
  · subst h
    rw [lex_irrefl]
    simp
  · rw [lex_diff (O := itemOrd) (by simpa using h)]
    rfl
theorem sortsAt_fr {prog : Program} {w : World} {A : Around} {s : Shared} {vs : List Value} {ds : List PyData} (e : EachIs (fun v d => ∃ as, Reads s.heap v d as) vs ds) (ok : FrOk ds) (hu : ∀ d, d ∈ ds → A.units + d.depth < cLine) : SortsAt prog w A s (frKind s.heap ds) vs := by
  have hb : (Value.type "int" != Value.type "tuple") = true := by decide
  refine ⟨fun v hv => ?_, tuples' (Value.type "int" != Value.type "tuple"), ?_, fun h2 E Q hq => ?_⟩
  · obtain ⟨d, hd, as, r⟩ := e.left v hv
    exact ⟨_, frKind_some ok hd r⟩
  · intro E x y a b Q ha hb' hq
    obtain ⟨d, as, hd, ra, rfl⟩ := frKind_inv ha
    obtain ⟨d', as', hd', rb, rfl⟩ := frKind_inv hb'
    obtain ⟨n, r1, rfl⟩ := ok.tu d hd
    obtain ⟨m, r2, rfl⟩ := ok.tu d' hd'
    have hq' : Q (decide (n < m)) s := by
      rw [← lex1]
      exact hq
    have u := hu _ hd
    by_cases hnm : n = m
    · have ee := ok.un _ hd _ hd' hnm
      have al := ok.se _ hd
      cases ee
      cases ra with
      | @tuple l o xs k _ _ h1 h2 h3 h4 =>
        cases rb with
        | @tuple l' o' xs' k' _ _ k1 k2 k3 k4 =>
          have n1 : xs.size = (PyData.int n :: r1).length := by simpa using SeqAt.ReadsAll.length _ _ _ h4
          have n2 : xs'.size = (PyData.int n :: r1).length := by simpa using SeqAt.ReadsAll.length _ _ _ k4
          refine kat_lt h1 h3 k1 k3 (katLex_alike (.int n :: r1) (.int n :: r1) 0 _ _ _ _ h4 k4 (by simpa [alike] using al) (by
            rw [Nat.min_self]
            have : (PyData.tuple (PyData.int n :: r1)).depth = PyData.depthAll (PyData.int n :: r1) + 1 := by simp [PyData.depth]
            omega) (fun _ _ x r t ex => ?_) (by rw [n1, n2]) ?_)
          · cases ex
            simp
          · rw [lex_irrefl]
            simpa using hq'
    · cases ra with
      | @tuple l o xs k _ _ h1 h2 h3 h4 =>
        cases rb with
        | @tuple l' o' xs' k' _ _ k1 k2 k3 k4 =>
          refine kat_lt h1 h3 k1 k3 ?_
          generalize xs.toList = L at h4
          generalize xs'.toList = L' at k4
          cases h4 with
          | cons v1 v2 =>
            cases k4 with
            | cons w1 w2 =>
              rw [List.zip_cons_cons]
              refine kat_cons (eqAt_alike (.int n) (.int m) A s _ _ _ _ v1 w1 (by simp [alike]) (by simp [PyData.depth]; omega) prog w _ _ ?_)
              have ef : PyData.eqv (.int n) (.int m) = false := by simp [PyData.eqv, hnm]
              rw [ef]
              refine kat_no ?_
              cases v1
              cases w1
              rw [hb]
              exact oneLt_int hq'
  · obtain ⟨fs, t1, t2, t3⟩ := each_katTups e fun d hd => by
      obtain ⟨n, r, rfl⟩ := ok.tu d hd
      exact ⟨_, _, rfl⟩
    refine kat_kind (T := Value.type "int") t1 (by omega) (fun f hf => ?_) (beq_self_eq_true _) hq
    obtain ⟨x, r, as, m1, m2⟩ := t3 f hf
    obtain ⟨n, r', ee⟩ := ok.tu _ m1
    cases ee
    exact looks_reads m2
def leF (d d' : PyData) : Bool := decide (fstI d ≤ fstI d')
def sortF (ds : List PyData) : List PyData := ds.mergeSort leF
def rSortF (K : PySem.W.Frag) : List V → Hp → VK → Prop := fun vs H Q => ∃ (a : Addr) (bs : List (V × PyData)), vs = [V.ref a] ∧ SqL K H a (bs.map Prod.fst) ∧ (∀ b ∈ bs, Dp K H b.1 b.2) ∧ FrOk (bs.map Prod.snd) ∧
  ∀ p, H p = none → Q (.ref p) (upd H p (.lst ((bs.mergeSort fun a b => leF a.2 b.2).map Prod.fst)))
theorem each_mem2 {α β : Type} {R : α → β → Prop} : ∀ {as : List α} {bs : List β}, EachIs R as bs → EachIs (fun a b => R a b ∧ b ∈ bs) as bs
  | _, _, .nil => .nil
  | _, _, .cons h t => .cons ⟨h, List.mem_cons_self ..⟩ ((each_mem2 t).mono fun _ _ q => ⟨q.1, List.mem_cons_of_mem _ q.2⟩)
theorem cr_sortF {X : Cx} (hu : X.A.units + 64 < cLine) : CallR X (.builtin "sorted") (rSortF X.K) := by
  intro pins s σ H vs us Q I r h
  obtain ⟨a, bs, rfl, hs, hd, ok, q⟩ := h
  obtain ⟨its, rv, hl, hz⟩ := I.list hs
  obtain ⟨u, rfl, ru⟩ := vals1 r
  obtain rfl : u = Value.ref a := ru
  have e := each_vals rv
  have er := each_reads I e hd
  have er' : EachIs (fun v (b : V × PyData) => ∃ as, Reads (sortingHeap (copyHeap s.heap its) (s.heap.objs.size + 1) its) v b.2 as) its bs := er.mono fun _ _ ⟨as, r⟩ => ⟨as, PyProof.Rows.Reads.keeps (fun _ _ => sorting_copy_old) r⟩
  have ek : EachIs (fun v (b : V × PyData) => (frKind (sortingHeap (copyHeap s.heap its) (s.heap.objs.size + 1) its) (bs.map Prod.snd)).keyOf v = some [.inl (fstI b.2)]) its bs := (each_mem2 er').mono fun v b ⟨⟨as, r⟩, hb⟩ => frKind_some ok (List.mem_map.mpr ⟨b, hb, rfl⟩) r
  refine sorted_vals hl.isList (sortsAt_fr (s := { s with heap := sortingHeap (copyHeap s.heap its) (s.heap.objs.size + 1) its }) (each_map (R := fun v d => ∃ as, Reads (sortingHeap (copyHeap s.heap its) (s.heap.objs.size + 1) its) v d as) Prod.snd er') ok (fun d hd' => ?_)) (by have := e.length; simpa [this] using hz) ?_
  · have := ok.de d hd'
    simp only [Around.in1, Around.units] at *
    omega
  · have eo := sortVals_each (κ := frKind (sortingHeap (copyHeap s.heap its) (s.heap.objs.size + 1) its) (bs.map Prod.snd)) (rev := false) (fun b : V × PyData => [.inl (fstI b.2)]) e ek
    have el : (sortLe (frKind (sortingHeap (copyHeap s.heap its) (s.heap.objs.size + 1) its) (bs.map Prod.snd)).toKeyOrd false fun b : V × PyData => [.inl (fstI b.2)]) = fun a b : V × PyData => leF a.2 b.2 := by
      funext x y
      show (!PyProof.Rows.lexLt itemOrd [Sum.inl (fstI y.2)] [Sum.inl (fstI x.2)]) = decide (fstI x.2 ≤ fstI y.2)
      rw [lex1, ← decide_not]
      congr 1
      apply propext
      omega
    rw [el] at eo
    have hlen := sortVals_length (κ := frKind (sortingHeap (copyHeap s.heap its) (s.heap.objs.size + 1) its) (bs.map Prod.snd)) false (ks := its) (vs := its) rfl
    generalize sortVals (frKind (sortingHeap (copyHeap s.heap its) (s.heap.objs.size + 1) its) (bs.map Prod.snd)) false its its = out at *
    obtain ⟨n, hn⟩ := PyProof.Rows.sortedAll_at s.heap its (List.toArray out)
    refine ⟨.ref _, upd H _ (.lst ((bs.mergeSort fun a b => leF a.2 b.2).map Prod.fst)), I.laid (t' := s.toks) (fun b o e => PyProof.Rows.sortedAll_old e) (Nat.le_succ _) ⟨?_, out, n, vals_each eo, hn⟩, rfl, q _ (I.hok.fresh (Nat.le_succ _))⟩
    simpa using hz
open Classical in
noncomputable def fSortF : List PyData → Option OD
  | [.list ds] => if FrOk ds then some (.lst (sortF ds)) else none
  | _ => none
theorem fSortF_l {ds : List PyData} (h : FrOk ds) : fSortF [.list ds] = some (.lst (sortF ds)) := by
  unfold fSortF
  simp only
  rw [if_pos h]
theorem sortF_map {α : Type} (f : α → PyData) (l : List α) : sortF (l.map f) = (l.mergeSort fun a b => leF (f a) (f b)).map f := by
  unfold sortF
  exact (List.map_mergeSort (r := fun a b => leF (f a) (f b)) (s := leF) (f := f) (l := l) (fun _ _ _ _ => rfl)).symm
theorem g_sortF {K : PySem.W.Frag} {cg : Str → Option Value} : CaG K cg (rSortF K) fSortF := fun F H xs as o Q e hx hf k => by
  cases hx with
  | nil => cases hf
  | @cons v vs d ds h1 h2 =>
    cases h2 with
    | cons _ _ => cases d <;> cases hf
    | nil =>
      cases d with
      | list l =>
        by_cases ok : FrOk l
        · rw [fSortF_l ok] at hf
          cases hf
          obtain ⟨p, ws, rfl, hp, hq⟩ := h1
          obtain ⟨z1, z2, z3⟩ := dqa_zip hq
          refine ⟨p, ws.zip l, rfl, ?_, fun b hb => (z3 b hb).dp e b.2, by rw [z2]; exact ok, fun p' hp' => ?_⟩
          · rw [z1]
            exact .inl (.inl hp)
          · refine fin_l k e hp' ?_
            have s2 := sortF_map Prod.snd (ws.zip l)
            rw [z2] at s2
            rw [s2]
            exact dqa_of fun b hb => z3 b ((List.mergeSort_perm _ _).mem_iff.mp hb)
        · have : fSortF [.list l] = none := by
            unfold fSortF
            simp only
            rw [if_neg ok]
          rw [this] at hf
          cases hf
      | _ => cases hf
end VL
/-! The value layer, part 36: dicts whose keys are numbers or texts. -/
namespace VL
open PySem L2
theorem key_dq {K : PySem.W.Frag} {F : Hp} {d : PyData} {k : Key} {v : V} (h : keyOf d = some k) (q : Dq K F v d) : v = kV k := by
  cases q <;> cases h <;> rfl
def vDGetK (i : Nat) (me mx : Gm → Out PyData) (g : Gm) : Out PyData :=
  match (gt g i).od with
  | some (.dk _) => (me g).bind fun d g1 => (mx g1).bind fun z g2 => match (gt g2 i).od, keyOf d with
    | some (.dk kvs), some k => .ok ((valD kvs k).getD z) g2
    | _, _ => .stk
  | _ => .stk
def vDIxK (i : Nat) (me : Gm → Out PyData) (g : Gm) : Out PyData :=
  match (gt g i).od with
  | some (.dk _) => (me g).bind fun d g1 => match (gt g1 i).od, keyOf d with
    | some (.dk kvs), some k => match valD kvs k with
      | some z => .ok z g1
      | none => .stk
    | _, _ => .stk
  | _ => .stk
def vDInK (i : Nat) (me : Gm → Out PyData) (g : Gm) : Out PyData := (me g).bind fun d g1 => match (gt g1 i).od, keyOf d with
  | some (.dk kvs), some k => .ok (.bool (valD kvs k).isSome) g1
  | _, _ => .stk
def vDNotInK (i : Nat) (me : Gm → Out PyData) (g : Gm) : Out PyData := (me g).bind fun d g1 => match (gt g1 i).od, keyOf d with
  | some (.dk kvs), some k => .ok (.bool (!(valD kvs k).isSome)) g1
  | _, _ => .stk
def sDPutK (i : Nat) (mk : Gm → Out PyData) (me : Gm → Out PyData) (g : Gm) : SOut :=
  match me g with
  | .ok d g1 => match (gt g1 i).od with
    | some (.dk _) => match mk g1 with
      | .ok kd g2 => match (gt g2 i).od, keyOf kd with
        | some (.dk kvs), some k => if kvs.length < zl then .nx (st g2 i ((gt g2 i).with (.dk (putD kvs k d)))) else .stk
        | _, _ => .stk
      | .err e g2 => .err e g2
      | .stk => .stk
    | _ => .stk
  | .err e g1 => .err e g1
  | .stk => .stk
def oDNewK (g : Gm) : Out OD := .ok (.dk []) g
def keyInts : List (Key × PyData) → Option (List Int)
  | [] => some []
  | (.inl i, _) :: r => (keyInts r).map (i :: ·)
  | _ => none
def sortI (l : List Int) : List Int := l.mergeSort fun a b => decide (a ≤ b)
def oSortDK (i : Nat) (g : Gm) : Out OD :=
  match (gt g i).od with
  | some (.dk kvs) => match keyInts kvs with
    | some ks => if ks.length < 64 then .ok (.lst ((sortI ks).map PyData.int)) g else .stk
    | none => .stk
  | _ => .stk
theorem sortI_unique {ys ks : List Int} (p : ys.Perm ks) (s : ys.Pairwise (· ≤ ·)) : ys = sortI ks := by
  have s2 : (sortI ks).Pairwise (· ≤ ·) := (List.pairwise_mergeSort (le := fun a b : Int => decide (a ≤ b)) (fun a b c h1 h2 => by
    simp only [decide_eq_true_eq] at *
    omega) (fun a b => by
    simp only [Bool.or_eq_true, decide_eq_true_eq]
    omega) ks).imp fun h => by simpa using h
  exact (p.trans (List.mergeSort_perm ks _).symm).eq_of_pairwise (le := (· ≤ ·)) (fun a b _ _ h1 h2 => by omega) s s2
section
variable {K : PySem.W.Frag} {cg : Cg} {W : WX} {pvs : Pv} {g : Gm} {σ : L2.St} {S S1 S' A : Addr → Prop} {F F1 F' H H1 H' : Hp}
theorem Rel.redk {i : Nat} {kds : List (Key × PyData)} {w : V} (r : Rel K cg pvs g σ S F H) (e : (gt g i).od = some (.dk kds)) (hw : σ[i]? = some (some w)) : ∃ p kvs, w = .ref p ∧ H p = some (.dK kvs) ∧ KD K F kvs kds ∧
    ∀ kvs' kds', KD K F kvs' kds' → ∃ S', Rel K cg pvs (st g i ((gt g i).with (.dk kds'))) σ S' F (upd H p (.dK kvs')) ∧ Stp S F H S' F (upd H p (.dK kvs')) := by
  obtain ⟨v, A, S1, e1, ow, hS, hd, back⟩ := r.take e
  rw [hw] at e1
  cases e1
  cases ow with
  | @dk p ks vs ds _ h1 h2 hl h3 h4 =>
    refine ⟨p, _, rfl, h1, kd_of h3, fun kvs' kds' h' => ?_⟩
    have s1 : Stp A F H (fun q => q = p) F (upd H p (.dK kvs')) := by
      have s0 := stp_upd (o := .dK kvs') r.fh h2
      exact ⟨fun b u hb hh => s0.keep b u (fun z => hb ((h4 b).mpr z)) hh, s0.fr, fun b u hh => .inl ⟨u, hh⟩, fun b hb => .inl ((h4 b).mpr hb), s0.fh⟩
    obtain ⟨ks', vs', ds', e1, e2, e3, e4⟩ := kd_to h'
    subst e1 e2
    obtain ⟨r2, s2⟩ := back (.dk (ks'.zip ds')) (fun q => q = p) F _ s1 (.dk upd_same h2 e3 e4 fun _ => Iff.rfl)
    exact ⟨_, r2, s2⟩
theorem KD.getO {κ : Type} [DecidableEq κ] {kvs : List (κ × V)} {kds : List (κ × PyData)} (h : KD K F kvs kds) (k : κ) : (valV kvs k).isSome = (valD kds k).isSome := by
  rcases h.val k with ⟨a1, a2⟩ | ⟨v, d, a1, a2, _⟩
  · rw [a1, a2]
    rfl
  · rw [a1, a2]
    rfl
theorem rv_dgetK {i : Nat} {te tx : TE} {me mx : Gm → Out PyData} (he : RV K cg W te me) (hx : RV K cg W tx mx) : RV K cg W (tDGet2 (tVar i) te tx) (vDGetK i me mx) := fun pvs g σ S F H Q r q => by
  unfold vDGetK at q
  split at q
  · rename_i kds0 eo
    obtain ⟨w, hw⟩ := r.slot eo
    obtain ⟨a, kvs0, rfl, hH, _, _⟩ := r.redk eo hw
    refine ⟨_, hw, a, rfl, .inl ⟨_, .inl hH⟩, ?_⟩
    refine he pvs g σ S F H _ r ?_
    cases e1 : me g with
    | err e' g1 =>
      rw [e1] at q
      exact q
    | stk =>
      rw [e1] at q
      exact q.elim
    | ok d g1 =>
      rw [e1] at q
      intro y S1 F1 H1 s1 r1 d1
      simp only [Out.bind] at q
      replace q := PoV.st q s1
      refine hx pvs g1 σ S1 F1 H1 _ r1 ?_
      cases e2 : mx g1 with
      | err e' g2 =>
        rw [e2] at q
        exact q
      | stk =>
        rw [e2] at q
        exact q.elim
      | ok z g2 =>
        rw [e2] at q
        intro zv S2 F2 H2 s2 r2 d2
        simp only at q
        replace q := PoV.st q s2
        split at q
        · rename_i kds k eo2 ek
          obtain ⟨b, kvs, eb, hH2, kd, _⟩ := r2.redk eo2 hw
          cases eb
          have ev := key_dq ek d1
          subst ev
          refine ⟨_, .k hH2, q _ S2 F2 H2 (.refl r2.fh) r2 ?_⟩
          rcases kd.val k with ⟨a1, a2⟩ | ⟨v, d', a1, a2, a3⟩
          · rw [a1, a2]
            exact d2
          · rw [a1, a2]
            exact a3
        · exact q.elim
  · exact q.elim
theorem rv_dixK {i : Nat} {te : TE} {me : Gm → Out PyData} (he : RV K cg W te me) : RV K cg W (tDGet (tVar i) te) (vDIxK i me) := fun pvs g σ S F H Q r q => by
  unfold vDIxK at q
  split at q
  · rename_i kds0 eo
    obtain ⟨w, hw⟩ := r.slot eo
    obtain ⟨a, kvs0, rfl, hH, _, _⟩ := r.redk eo hw
    refine ⟨_, hw, ?_⟩
    refine he pvs g σ S F H _ r ?_
    cases e1 : me g with
    | err e' g1 =>
      rw [e1] at q
      exact q
    | stk =>
      rw [e1] at q
      exact q.elim
    | ok d g1 =>
      rw [e1] at q
      intro y S1 F1 H1 s1 r1 d1
      simp only [Out.bind] at q
      replace q := PoV.st q s1
      split at q
      · rename_i kds k eo2 ek
        split at q
        · rename_i z ez
          obtain ⟨b, kvs, eb, hH2, kd, _⟩ := r1.redk eo2 hw
          cases eb
          have ev := key_dq ek d1
          subst ev
          rcases kd.val k with ⟨a1, a2⟩ | ⟨v, d', a1, a2, a3⟩
          · rw [a2] at ez
            cases ez
          · rw [a2] at ez
            cases ez
            refine ⟨a, v, rfl, ?_, q _ S1 F1 H1 (.refl r1.fh) r1 a3⟩
            rw [← a1]
            exact .k hH2
        · exact q.elim
      · exact q.elim
  · exact q.elim
theorem rv_dinK {i : Nat} {te : TE} {me : Gm → Out PyData} (he : RV K cg W te me) : RV K cg W (tDIn te (tVar i)) (vDInK i me) := fun pvs g σ S F H Q r q => by
  unfold vDInK at q
  refine he pvs g σ S F H _ r ?_
  cases e1 : me g with
  | err e' g1 =>
    rw [e1] at q
    exact q
  | stk =>
    rw [e1] at q
    exact q.elim
  | ok d g1 =>
    rw [e1] at q
    intro y S1 F1 H1 s1 r1 d1
    simp only [Out.bind] at q
    replace q := PoV.st q s1
    split at q
    · rename_i kds k eo ek
      obtain ⟨w, hw⟩ := r1.slot eo
      obtain ⟨a, kvs, rfl, hH, kd, _⟩ := r1.redk eo hw
      have ev := key_dq ek d1
      subst ev
      refine ⟨_, hw, a, _, rfl, .k hH, ?_⟩
      rw [kd.getO k]
      exact q _ S1 F1 H1 (.refl r1.fh) r1 (.bl _)
    · exact q.elim
theorem rv_dnotInK {i : Nat} {te : TE} {me : Gm → Out PyData} (he : RV K cg W te me) : RV K cg W (tDNotIn te (tVar i)) (vDNotInK i me) := fun pvs g σ S F H Q r q => by
  unfold vDNotInK at q
  refine he pvs g σ S F H _ r ?_
  cases e1 : me g with
  | err e' g1 =>
    rw [e1] at q
    exact q
  | stk =>
    rw [e1] at q
    exact q.elim
  | ok d g1 =>
    rw [e1] at q
    intro y S1 F1 H1 s1 r1 d1
    simp only [Out.bind] at q
    replace q := PoV.st q s1
    split at q
    · rename_i kds k eo ek
      obtain ⟨w, hw⟩ := r1.slot eo
      obtain ⟨a, kvs, rfl, hH, kd, _⟩ := r1.redk eo hw
      have ev := key_dq ek d1
      subst ev
      refine ⟨_, hw, a, _, rfl, .k hH, ?_⟩
      rw [kd.getO k]
      exact q _ S1 F1 H1 (.refl r1.fh) r1 (.bl _)
    · exact q.elim
theorem ro_dnewK : RO K cg W tDNewK oDNewK := fun pvs g σ S F H Q r q => fun p hp => by
  have n := pst_own (o := .dK []) r.fh hp
  have f : ∀ q, q = p → H q = none := fun q e => by rw [e]; exact hp
  exact q (.ref p) (fun q => q = p) S F _ (n.stpA f) (r.pst n) (.dk (ks := []) (vs := []) (ds := []) upd_same (r.fh.free hp) rfl .nil fun _ => Iff.rfl) (r.apart f)
theorem rs_dputK {i : Nat} {te tk : TE} {me mk : Gm → Out PyData} (he : RV K cg W te me) (hk : RV K cg W tk mk) : RS K cg W (sDPut (tVar i) tk te) (sDPutK i mk me) := fun pvs g σ S F H D r q => by
  refine he pvs g σ S F H _ r ?_
  unfold sDPutK at q
  cases e : me g with
  | err e' g1 =>
    rw [e] at q
    exact ErrS.p q
  | stk =>
    rw [e] at q
    exact q.elim
  | ok d g1 =>
    rw [e] at q
    intro v S1 F1 H1 s1 r1 d1
    simp only at q
    replace q := PoS.st q s1
    split at q
    · rename_i kds0 eo
      obtain ⟨w, hw⟩ := r1.slot eo
      refine ⟨w, hw, ?_⟩
      refine hk pvs g1 σ S1 F1 H1 _ r1 ?_
      split at q
      · rename_i kd' g2 e2
        rw [e2]
        intro y S2 F2 H2 s2 r2 d2
        replace q := PoS.st q s2
        split at q
        · rename_i kds k eo2 ek
          split at q
          · rename_i hz
            obtain ⟨a, kvs, rfl, hH2, kd, back⟩ := r2.redk eo2 hw
            have ev := key_dq ek d2
            subst ev
            obtain ⟨S3, r3, s3⟩ := back _ _ (kd.put k (dp_mo d1 s2.fr))
            exact ⟨a, _, rfl, .k hH2 (by rw [kd.len]; exact zl_lt hz), q σ S3 F2 _ s3 r3⟩
          · exact q.elim
        · exact q.elim
      · rename_i e' g2 e2
        rw [e2]
        exact ErrS.p q
      · exact q.elim
    · exact q.elim
theorem keyInts_kd : ∀ {kvs : List (Key × V)} {kds : List (Key × PyData)} {ks : List Int}, KD K F kvs kds → keyInts kds = some ks → kvs.map (·.1) = ks.map Sum.inl
  | _, _, ks, .nil, h => by
    cases h
    rfl
  | _, _, ks, .cons (a := p) (b := q) h t, e => by
    obtain ⟨k, d⟩ := q
    cases k with
    | inr x => cases e
    | inl n =>
      unfold keyInts at e
      obtain ⟨ks', e1, rfl⟩ := Option.map_eq_some_iff.mp e
      rw [List.map_cons, List.map_cons, keyInts_kd t e1, h.1]
def rSortDK : List V → Hp → VK → Prop := fun xs H Q => ∃ (a : Addr) (kvs : List (Key × V)) (ks : List Int), xs = [.ref a] ∧ Rd H a (.dK kvs) ∧ kvs.map (·.1) = ks.map Sum.inl ∧ ks.length < 64 ∧
    ∀ (ys : List Int) (p : Addr), ys.Perm ks → ys.Pairwise (· ≤ ·) → H p = none → Q (.ref p) (upd H p (.lst (ys.map V.int)))
theorem dqa_ints : ∀ l : List Int, DqA K F (l.map V.int) (l.map PyData.int)
  | [] => .nil
  | i :: l => .cons (.int i) (dqa_ints l)
theorem ro_sortDK {i : Nat} {t : TA} (ht : ∀ σ H Q v, σ[i]? = some (some v) → Q [v] H → t σ H Q) : RO K cg W (tCB rSortDK t) (oSortDK i) := fun pvs g σ S F H Q r q => by
  unfold oSortDK at q
  split at q
  · rename_i kds eo
    split at q
    · rename_i ks ek
      split at q
      · rename_i hz
        obtain ⟨w, hw⟩ := r.slot eo
        obtain ⟨a, kvs, rfl, hH, kd, _⟩ := r.redk eo hw
        refine ht σ H _ _ hw ⟨a, kvs, ks, rfl, .inl hH, keyInts_kd kd ek, hz, fun ys p py sy hp => ?_⟩
        have f : ∀ q, q = p → H q = none := fun q e => by rw [e]; exact hp
        have n := pst_own (o := .lst (ys.map V.int)) r.fh hp
        have ey := sortI_unique py sy
        rw [← ey] at q
        exact q (.ref p) (fun q => q = p) S F _ (n.stpA f) (r.pst n) (.lst upd_same (r.fh.free hp) (dqa_ints ys) fun _ => Iff.rfl) (r.apart f)
      · exact q.elim
    · exact q.elim
  · exact q.elim
end
section
variable {X : Cx} {W : Wz} {e f : Expr} {pos apos cpos p p2 pos' : Pos} {x : Str}
theorem do_dnewK : DO X W (.Dict [] [] pos) oDNewK := ⟨_, pe_dnewK, ro_dnewK⟩
theorem dv_dgetK (i : Nat) {me mx : Gm → Out PyData} (hu : X.A.units + 65 < cLine) (he : DV X W e me) (hf : DV X W f mx) (hN : X.N[i]? = some x := by rfl) (hv : Vis X.env.scope x := by first | exact Or.inl rfl | exact Or.inr (Or.inl rfl) | exact Or.inr (Or.inr rfl)) (hd : (x == ("__debug__" : Str)) = false := by decide)
    (hcd : (x == ("__classdict__" : Str)) = false := by decide) (m : M2 X (.Name x p) "get" apos e f cpos := by exact ⟨rfl, rfl, rfl, rfl⟩) : DV X W (.Call (.Attribute (.Name x p) "get" apos) [e, f] [] cpos) (vDGetK i me mx) :=
  let ⟨_, e1, e2⟩ := he; let ⟨_, f1, f2⟩ := hf; ⟨_, pe_dget2 (by omega) (pv i hN hv hd hcd) e1 f1 m, rv_dgetK e2 f2⟩
theorem dv_dixK (i : Nat) {me : Gm → Out PyData} (hu : X.A.units + 65 < cLine) (he : DV X W e me) (hN : X.N[i]? = some x := by rfl) (hv : Vis X.env.scope x := by first | exact Or.inl rfl | exact Or.inr (Or.inl rfl) | exact Or.inr (Or.inr rfl)) (hd : (x == ("__debug__" : Str)) = false := by decide)
    (hcd : (x == ("__classdict__" : Str)) = false := by decide) (hs : NoSl e := by exact fun _ _ => rfl) : DV X W (.Subscript (.Name x p) e pos) (vDIxK i me) :=
  let ⟨_, e1, e2⟩ := he; ⟨_, pe_dget (by omega) (pv i hN hv hd hcd) e1 hs, rv_dixK e2⟩
theorem dv_dinK (i : Nat) {me : Gm → Out PyData} (hu : X.A.units + 65 < cLine) (he : DV X W e me) (hN : X.N[i]? = some x := by rfl) (hv : Vis X.env.scope x := by first | exact Or.inl rfl | exact Or.inr (Or.inl rfl) | exact Or.inr (Or.inr rfl)) (hd : (x == ("__debug__" : Str)) = false := by decide)
    (hcd : (x == ("__classdict__" : Str)) = false := by decide) (hm : behindInMarks .In (.Name x p) = false := by first | exact nomark _ | with_unfolding_all rfl) : DV X W (.Compare e [.In] [.Name x p] pos) (vDInK i me) :=
  let ⟨_, e1, e2⟩ := he; ⟨_, pe_cmp (pc_din (by omega) e1 (pv i hN hv hd hcd)) hm, rv_dinK e2⟩
theorem dt_dinK (i : Nat) {me : Gm → Out PyData} (hu : X.A.units + 65 < cLine) (he : DV X W e me) (hN : X.N[i]? = some x := by rfl) (hv : Vis X.env.scope x := by first | exact Or.inl rfl | exact Or.inr (Or.inl rfl) | exact Or.inr (Or.inr rfl)) (hd : (x == ("__debug__" : Str)) = false := by decide)
    (hcd : (x == ("__classdict__" : Str)) = false := by decide) (hm : behindInMarks .In (.Name x p) = false := by first | exact nomark _ | with_unfolding_all rfl) : DT X W (.Compare e [.In] [.Name x p] pos) (tV (vDInK i me)) :=
  let ⟨_, e1, e2⟩ := he; ⟨_, pt_cmp (pc_din (by omega) e1 (pv i hN hv hd hcd)) hm, rt_b (rv_dinK e2)⟩
theorem dv_dnotInK (i : Nat) {me : Gm → Out PyData} (hu : X.A.units + 65 < cLine) (he : DV X W e me) (hN : X.N[i]? = some x := by rfl) (hv : Vis X.env.scope x := by first | exact Or.inl rfl | exact Or.inr (Or.inl rfl) | exact Or.inr (Or.inr rfl)) (hd : (x == ("__debug__" : Str)) = false := by decide)
    (hcd : (x == ("__classdict__" : Str)) = false := by decide) (hm : behindInMarks .NotIn (.Name x p) = false := by first | exact nomark _ | with_unfolding_all rfl) : DV X W (.Compare e [.NotIn] [.Name x p] pos) (vDNotInK i me) :=
  let ⟨_, e1, e2⟩ := he; ⟨_, pe_cmp (pc_dnotin (by omega) e1 (pv i hN hv hd hcd)) hm, rv_dnotInK e2⟩
theorem dt_dnotInK (i : Nat) {me : Gm → Out PyData} (hu : X.A.units + 65 < cLine) (he : DV X W e me) (hN : X.N[i]? = some x := by rfl) (hv : Vis X.env.scope x := by first | exact Or.inl rfl | exact Or.inr (Or.inl rfl) | exact Or.inr (Or.inr rfl)) (hd : (x == ("__debug__" : Str)) = false := by decide)
    (hcd : (x == ("__classdict__" : Str)) = false := by decide) (hm : behindInMarks .NotIn (.Name x p) = false := by first | exact nomark _ | with_unfolding_all rfl) : DT X W (.Compare e [.NotIn] [.Name x p] pos) (tV (vDNotInK i me)) :=
  let ⟨_, e1, e2⟩ := he; ⟨_, pt_cmp (pc_dnotin (by omega) e1 (pv i hN hv hd hcd)) hm, rt_b (rv_dnotInK e2)⟩
theorem ds_dputK (i : Nat) {mk me : Gm → Out PyData} (hu : X.A.units + 65 < cLine) (hk : DV X W e mk) (he : DV X W f me) (hN : X.N[i]? = some x := by rfl) (hv : Vis X.env.scope x := by first | exact Or.inl rfl | exact Or.inr (Or.inl rfl) | exact Or.inr (Or.inr rfl)) (hd : (x == ("__debug__" : Str)) = false := by decide)
    (hcd : (x == ("__classdict__" : Str)) = false := by decide) (hs : swapsWith f (some (.Subscript (.Name x p) e pos')) pos.line X.env = pure false := by rfl) : DS X W (.Assign [.Subscript (.Name x p) e pos'] f pos) (sDPutK i mk me) :=
  let ⟨_, k1, k2⟩ := hk; let ⟨_, e1, e2⟩ := he; ⟨_, ps_dput (by omega) (pv i hN hv hd hcd) k1 e1 hs, rs_dputK e2 k2⟩
theorem do_sortDK (i : Nat) (hc : X.calm = true) (hm : X.mg "sorted" = none) (hN : X.N[i]? = some x := by rfl) (hv : Vis X.env.scope x := by first | exact Or.inl rfl | exact Or.inr (Or.inl rfl) | exact Or.inr (Or.inr rfl)) (hd : (x == ("__debug__" : Str)) = false := by decide)
    (hcd : (x == ("__classdict__" : Str)) = false := by decide) (hg : Gl X "sorted" := by rfl) (hs : starEach [.Name x p2] X.env = (false, eval (.Name x p2) X.env) :: starEach [] X.env := by rfl) (hpl : (backTo pos (starEach [] X.env)).any (·.1) = false := by rfl) :
    DO X W (.Call (.Name "sorted" p) [.Name x p2] [] pos) (oSortDK i) :=
  ⟨_, pe_callB (call_sortedDI hc) hg hm (by decide +kernel) (pa_cons (pv i hN hv hd hcd) pa_nil hs) (by decide) (by decide) hs hpl, ro_sortDK fun σ H Q v hv q => ⟨v, hv, q⟩⟩
end
end VL
/-! The value layer, part 37: list(range(a, b)). -/
namespace VL
open PySem L2
variable {K : PySem.W.Frag} {cg : Cg} {W : WX}
def oLR2 (m n : Gm → Out PyData) (g : Gm) : Out OD := (m g).bind fun d g1 => (n g1).bind fun e g2 => match d, e with
  | .int i, .int j => if 0 ≤ i ∧ i ≤ j ∧ j ≤ gz then .ok (.lst (rng i (j - i).toNat)) g2 else .stk
  | _, _ => .stk
theorem dpa_rg2 {F : Hp} (i j : Int) : DqA K F (rgV i j) (rng i (j - i).toNat) := by
  have e1 : rgV i j = ((List.range (j - i).toNat).map fun k => i + (k : Nat)).map V.int := by
    unfold rgV
    rw [List.map_map]
    rfl
  have e2 : rng i (j - i).toNat = ((List.range (j - i).toNat).map fun k => i + (k : Nat)).map PyData.int := by
    unfold rng
    rw [List.map_map]
    rfl
  rw [e1, e2]
  exact dpa_ints _
theorem ro_listRg2 {t u : TE} {m n : Gm → Out PyData} (h : RV K cg W t m) (h' : RV K cg W u n) : RO K cg W (tLstRg (tRg2 t u)) (oLR2 m n) := fun pvs g σ S F H Q r q => by
  unfold oLR2 at q
  refine h pvs g σ S F H _ r ?_
  cases e : m g with
  | ok d g1 =>
    rw [e] at q
    intro v S1 F1 H1 s1 r1 d1
    simp only [Out.bind] at q
    have q := PoO.st q s1
    refine h' pvs g1 σ S1 F1 H1 _ r1 ?_
    cases e2 : n g1 with
    | ok d' g2 =>
      rw [e2] at q
      intro v' S2 F2 H2 s2 r2 d2
      simp only at q
      have q := PoO.st q s2
      split at q
      · split at q
        · rename_i hz
          have hgz : (gz : Int) = 100000 := rfl
          cases d1
          cases d2
          refine ⟨_, _, rfl, rfl, RgOk.of_le hz.1 (by omega) (by omega) (by omega), fun p hp => ?_⟩
          exact fin_l (fun v A F' H' p3 ow fr => q v A S2 F' H' (p3.stpA fr) (r2.pst p3) ow (r2.apart fr)) r2.fh hp (dpa_rg2 _ _)
        · exact q.elim
      · exact q.elim
    | err e' g2 =>
      rw [e2] at q
      exact q
    | stk =>
      rw [e2] at q
      exact q.elim
  | err e' g1 =>
    rw [e] at q
    exact q
  | stk =>
    rw [e] at q
    exact q.elim
section
variable {X : Cx} {W : Wz} {a b : Expr} {pos p p2 p3 : Pos}
theorem do_listRg2 {m n : Gm → Out PyData} (hl : X.mg "list" = none) (hr : X.mg "range" = none) (h : DV X W a m) (h' : DV X W b n) (hc : X.calm = true := by rfl) (gl : Gl X "list" := by rfl) (gr : Gl X "range" := by rfl) (na : starEach [a, b] X.env = (false, eval a X.env) :: starEach [b] X.env := by rfl)
    (nb : starEach [b] X.env = (false, eval b X.env) :: starEach [] X.env := by rfl) (hp : (backTo p3 (starEach [b] X.env)).any (·.1) = false := by rfl)
    (na' : starEach [.Call (.Name "range" p2) [a, b] [] p3] X.env = (false, eval (.Call (.Name "range" p2) [a, b] [] p3) X.env) :: starEach [] X.env := by rfl) : DO X W (.Call (.Name "list" p) [.Call (.Name "range" p2) [a, b] [] p3] [] pos) (oLR2 m n) := let ⟨_, h1, h2⟩ := h; let ⟨_, k1, k2⟩ := h'; ⟨_, pe_listRg hc gl hl (prg_2 gr hr h1 k1 na nb hp) na', ro_listRg2 h2 k2⟩
end
end VL
/-! The value layer, part 38: a tuple many times over. -/
namespace VL
open PySem L2
variable {K : PySem.W.Frag} {cg : Str → Option Value}
def fMulT : PyData → PyData → Option OD
  | .tuple a, .int k => if 0 < a.length ∧ 2 ≤ k ∧ k ≤ 1000 ∧ a.length ≤ 1000 then some (.dat (.tuple (List.replicate k.toNat a).flatten)) else none
  | _, _ => none
theorem g_mulT : OpG K cg (rRepT K) fMulT := fun F H x y a b o Q e hx hy hf k => by
  unfold fMulT at hf
  split at hf
  · split at hf
    · rename_i ds n hz
      cases hf
      obtain ⟨p, vs, rfl, h1, h2⟩ := hx.tup
      have hl := dpa_len h2
      rw [hy.int]
      refine ⟨_, _, _, rfl, rfl, sqt_mono e h1, fun z => ?_, hz.2.1, hz.2.2.1, ?_, fun p hp => fin_t k e hp ?_⟩
      · rw [z] at hl
        have := hz.1
        rw [List.length_nil] at hl
        omega
      · rw [hl]
        exact hz.2.2.2
      · generalize n.toNat = m
        induction m with
        | zero => exact .nil
        | succ m ih => exact dpa_app h2 ih
    · cases hf
  · cases hf
end VL
/-! The value layer, part 39: tables of the module with text keys; heads that hold them. -/
namespace VL
open PySem PySem.Spec PyProof.Rows L2
/-! ### one row of the world told -/
def fT (w : World) (b : Bool) : World := ⟨w.draws, { w.params with followText := fun s => bif s == "special-get-raises" then b else w.params.followText s }⟩
theorem fT_eq (w : World) : fT w (w.params.followText "special-get-raises") = w := by
  obtain ⟨d, p⟩ := w
  obtain ⟨a1, a2, a3, a4, a5, ft, a7⟩ := p
  unfold fT
  simp only [World.mk.injEq, true_and]
  congr 1
  funext s
  cases h : s == "special-get-raises" with
  | true =>
    rw [beq_iff_eq.mp h]
    rfl
  | false => rfl
theorem fT_all {P : World → Prop} (h1 : ∀ w, P (fT w true)) (h2 : ∀ w, P (fT w false)) (w : World) : P w := by
  rw [← fT_eq w]
  cases w.params.followText "special-get-raises"
  · exact h2 w
  · exact h1 w
/-! ### the Hook -/
abbrev TabD := Str × List Str
abbrev TabO := List (Option (List (Option (Str × Int))))
def tabsO (ts : List TabD) (K : PySem.W.Frag) : TabO := ts.map fun t => He.dicW K (He.ga K t.1)
def tabsV (ts : List TabD) (w : World) : TabO := ts.map fun t => some (He.keysIn w.params t.2)
def tabsG (n : Nat) (ts : List TabD) (g : Addr → Option Obj) : TabO := tabsO ts (He.frG g (He.asD g n))
def obsN (n : Nat) (fa : List He.Fa) (fn : List He.DefD) (ex : PySem.W.Frag → Bool) (ts : List TabD) (g : Addr → Option Obj) : (He.AlD × Bool) × TabO := (obsM n fa fn ex g, tabsG n ts g)
def SaysN (fa : List He.Fa) (fn : List He.DefD) (ex : PySem.W.Frag → Bool) (ts : List TabD) (w : World) (K : PySem.W.Frag) : Prop := SaysM fa fn ex K ∧ tabsO ts K = tabsV ts w
def hookN (n : Nat) (fa : List He.Fa) (fn : List He.DefD) (ex : PySem.W.Frag → Bool) (ts : List TabD) : PySem.W.Hook where
  α := (He.AlD × Bool) × TabO
  obs := fun s => obsN n fa fn ex ts s.heap.get?
  val := fun w => ((He.valD fn, true), tabsV ts w)
  says := fun w h => ∃ K : PySem.W.Frag, K.In h ∧ SaysN fa fn ex ts w K
  of := fun _ _ e => ⟨_, He.frG_in, ⟨congrArg (fun z : (He.AlD × Bool) × TabO => z.1.1) e, congrArg (fun z : (He.AlD × Bool) × TabO => z.1.2) e⟩, congrArg (fun z : (He.AlD × Bool) × TabO => z.2) e⟩
  keeps := fun _ _ _ ⟨K, hK, c⟩ k => ⟨K, PySem.W.Frag.In.keeps hK k, c⟩
theorem obsN_eq {n : Nat} {fa : List He.Fa} {fn : List He.DefD} {ex : PySem.W.Frag → Bool} {ts : List TabD} {g : Addr → Option Obj} {s : Shared} (h : ∀ a, g a = s.heap.get? a) : obsN n fa fn ex ts g = (hookN n fa fn ex ts).obs s := by
  have e : g = s.heap.get? := funext h
  rw [e]
  rfl
open PySem.W PySem.Calls in
def RunT (r : OpenRow) (n M : Nat) (ts : List TabD) (w : World) : Prop := ∀ os : OsState, (topEnd r M w os).map (fun s => tabsG n ts (HandSHeadRun.getT s)) = some (tabsV ts w)
open PySem.W PySem.Calls in
theorem run_ofN {r : OpenRow} {q : Program} {n M : Nat} {fa : List He.Fa} {fn : List He.DefD} {ex : PySem.W.Frag → Bool} {ts : List TabD} {loose : List PySem.Str} {w : World} (h1 : RunB r q M loose w) (h2 : RunC r n M fa fn ex w) (h3 : RunT r n M ts w) : HandSHeadRun.RunEq r q (hookN n fa fn ex ts) (fun s => obsN n fa fn ex ts (HandSHeadRun.getT s)) M loose w := fun os => by
  obtain ⟨s, e, v1⟩ := Option.map_eq_some_iff.mp (h1 os)
  have v2 := h2 os
  have v3 := h3 os
  rw [e] at v2 v3
  have v2 := Option.some.inj v2
  have v3 := Option.some.inj v3
  show (topEnd r M w os).map _ = _
  rw [e]
  obtain ⟨a, b⟩ := Prod.mk.inj v1
  exact congrArg some (Prod.ext a (Prod.ext b (Prod.ext v2 v3)))
/-! ### a table by its name -/
/-- the table's keys; what is known of its values -/
def TabK (K : PySem.W.Frag) (w : World) (mg : Str → Option Value) (x : Str) (kvs : List (Str × He.Dv)) : Prop :=
  ∃ d es n, mg x = some (.ref d) ∧ KDict K w d es n ∧ ∀ z, ∃ r, PySem.W.nsIn K d z = some r ∧ r.isSome = (kvs.lookup z).isSome ∧ ∀ dv, kvs.lookup z = some dv → ∃ u, r = some u ∧ RelV (dv.v K) u
theorem lookup_mem' : ∀ {l : List (Str × He.Dv)} {z : Str} {b : He.Dv}, l.lookup z = some b → (z, b) ∈ l
  | [], _, _, h => by cases h
  | (y, c) :: r, z, b, h => by
    unfold List.lookup at h
    split at h
    · rename_i e
      cases h
      rw [eq_of_beq e]
      exact List.mem_cons_self
    · exact List.mem_cons_of_mem _ (lookup_mem' h)
theorem lookup_none' : ∀ {l : List (Str × He.Dv)} {z : Str}, l.lookup z = none → ∀ k ∈ l.map (·.1), k ≠ z
  | [], _, _, _, hk => by cases hk
  | (y, c) :: r, z, h, k, hk => by
    unfold List.lookup at h
    split at h
    · cases h
    · rename_i e
      rcases List.mem_cons.mp hk with rfl | hk
      · intro ez
        rw [ez] at e
        simp at e
      · exact lookup_none' h k hk
theorem keys_of : ∀ {l : List DictEntry} {P : Params} {ks : List Str}, l.map He.keyOf = He.keysIn P ks → ∀ e ∈ l, ∃ k t, e.key = .str k t ∧ k ∈ ks
  | [], _, _, _, _, he => by cases he
  | e0 :: l, P, [], h, _, _ => by cases h
  | e0 :: l, P, k :: ks, h, e, he => by
    have h1 : He.keyOf e0 :: l.map He.keyOf = some (k, PyData.keyHash P k) :: He.keysIn P ks := h
    injection h1 with h2 h3
    rcases List.mem_cons.mp he with rfl | he
    · unfold He.keyOf at h2
      split at h2
      · rename_i x t q
        have h4 := (Prod.mk.inj (Option.some.inj h2)).1
        exact ⟨x, t, q, by rw [h4]; exact List.mem_cons_self⟩
      · cases h2
    · obtain ⟨k', t, a, b⟩ := keys_of h3 e he
      exact ⟨k', t, a, List.mem_cons_of_mem _ b⟩
theorem tabK_ok {K : PySem.W.Frag} {w : World} {h : Heap} {mg : Str → Option Value} {x : Str} {kvs : List (Str × He.Dv)} (X : K.In h) (G : h.Ns mainGlobals mg) (c1 : (He.Fa.glo x).ok K = true)
    (hd : He.dicW K (He.ga K x) = some (He.keysIn w.params (kvs.map (·.1)))) (hv : He.valsB K (He.ga K x) kvs = true) : TabK K w mg x kvs := by
  obtain ⟨es, n, D⟩ := He.dicW_ok hd
  refine ⟨_, es, n, He.glo_ok X G c1, D, fun z => ?_⟩
  have hkeys : es.toList.map He.keyOf = He.keysIn w.params (kvs.map (·.1)) := by
    unfold He.dicW at hd
    rw [D.at_] at hd
    have e : (decide (("dict" : String) = "dict") && ((#[] : Array (Option Value)).isEmpty && !(He.ga K x == sysModules))) = true := by
      rw [D.low]
      rfl
    have hd2 : (match decide (("dict" : String) = "dict") && ((#[] : Array (Option Value)).isEmpty && !(He.ga K x == sysModules)) with
      | true => some (es.toList.map He.keyOf)
      | false => none) = some (He.keysIn w.params (kvs.map (·.1))) := hd
    rw [e] at hd2
    exact Option.some.inj hd2
  cases ez : kvs.lookup z with
  | some dv =>
    obtain ⟨u, e1, r1⟩ := He.valsB_ok hv (lookup_mem' ez)
    refine ⟨some u, e1, rfl, fun dv' h' => ?_⟩
    cases h'
    exact ⟨u, rfl, r1⟩
  | none =>
    refine ⟨none, ?_, rfl, fun dv' h' => by cases h'⟩
    have hn := lookup_none' ez
    unfold PySem.W.nsIn
    rw [D.at_]
    dsimp only
    have f : es.toList.find? (·.key.isStr z) = none := List.find?_eq_none.mpr fun e he => by
      obtain ⟨k, t, a, b⟩ := keys_of hkeys e he
      rw [a]
      have : k ≠ z := hn k b
      simp [Value.isStr, this]
    rw [f]
    have g : es.toList.any (·.refKey) = false := by
      rw [List.any_eq_false]
      intro e he
      obtain ⟨k, t, a, b⟩ := keys_of hkeys e he
      simp [DictEntry.refKey, a]
    rw [g]
    rfl
/-! ### asking a table -/
def vTabIn (ks : List Str) (m : Gm → Out PyData) (g : Gm) : Out PyData := (m g).bind fun d g1 => match d with
  | .str z => .ok (.bool (ks.contains z)) g1
  | _ => .stk
def vTabNotIn (ks : List Str) (m : Gm → Out PyData) (g : Gm) : Out PyData := (m g).bind fun d g1 => match d with
  | .str z => .ok (.bool (!ks.contains z)) g1
  | _ => .stk
def oTabIx (t : List (Str × Int)) (m : Gm → Out PyData) (g : Gm) : Out OD := (m g).bind fun d g1 => match d with
  | .str z => match t.lookup z with
    | some i => .ok (.dat (.int i)) g1
    | none => .stk
  | _ => .stk
theorem lookup_contains : ∀ (kvs : List (Str × He.Dv)) (z : Str), (kvs.lookup z).isSome = (kvs.map (·.1)).contains z
  | [], _ => rfl
  | (y, c) :: r, z => by
    unfold List.lookup
    rw [List.map_cons, List.contains_cons]
    cases e : z == y with
    | true => rfl
    | false =>
      rw [Bool.false_or]
      exact lookup_contains r z
def tabI (t : List (Str × Int)) : List (Str × He.Dv) := t.map fun p => (p.1, .int p.2)
theorem tabI_look : ∀ (t : List (Str × Int)) (z : Str), (tabI t).lookup z = (t.lookup z).map He.Dv.int
  | [], _ => rfl
  | (y, c) :: r, z => by
    show ((y, He.Dv.int c) :: tabI r).lookup z = _
    unfold List.lookup
    cases e : z == y with
    | true => rfl
    | false => exact tabI_look r z
section
variable {X : Cx} {W : Wz} {a ix : Expr} {x : Str} {p pos : Pos} {kvs : List (Str × He.Dv)} {ks : List Str} {m : Gm → Out PyData}
theorem rv_tabIn {d : Addr} {es : Array DictEntry} {n : Nat} {t : TE} (hz : ∀ z, ∃ r, PySem.W.nsIn X.K d z = some r ∧ r.isSome = ks.contains z) (h : RV X.K (cgX X W) W.x t m) :
    RV X.K (cgX X W) W.x (tOp (fun x y H Q => ∃ (z : Str) (r : Option Value), x = .str z ∧ y = .ref d ∧ PySem.W.nsIn X.K d z = some r ∧ Q (.bl r.isSome) H) t (tC (.ref d))) (vTabIn ks m) := fun pvs g σ S F H Q r q => by
  refine h pvs g σ S F H _ r ?_
  unfold vTabIn at q
  cases e : m g with
  | err e' g1 =>
    rw [e] at q
    exact q
  | stk =>
    rw [e] at q
    exact q.elim
  | ok d' g1 =>
    rw [e] at q
    intro v S1 F1 H1 s1 r1 d1
    simp only [Out.bind] at q
    replace q := PoV.st q s1
    cases d1 <;> try exact q.elim
    rename_i z
    obtain ⟨r0, h1, h2⟩ := hz z
    refine ⟨z, r0, rfl, rfl, h1, ?_⟩
    rw [h2]
    exact q (.bl _) S1 F1 H1 (.refl r1.fh) r1 (.bl _)
theorem rv_tabNotIn {d : Addr} {es : Array DictEntry} {n : Nat} {t : TE} (hz : ∀ z, ∃ r, PySem.W.nsIn X.K d z = some r ∧ r.isSome = ks.contains z) (h : RV X.K (cgX X W) W.x t m) :
    RV X.K (cgX X W) W.x (tOp (fun x y H Q => ∃ (z : Str) (r : Option Value), x = .str z ∧ y = .ref d ∧ PySem.W.nsIn X.K d z = some r ∧ Q (.bl (!r.isSome)) H) t (tC (.ref d))) (vTabNotIn ks m) := fun pvs g σ S F H Q r q => by
  refine h pvs g σ S F H _ r ?_
  unfold vTabNotIn at q
  cases e : m g with
  | err e' g1 =>
    rw [e] at q
    exact q
  | stk =>
    rw [e] at q
    exact q.elim
  | ok d' g1 =>
    rw [e] at q
    intro v S1 F1 H1 s1 r1 d1
    simp only [Out.bind] at q
    replace q := PoV.st q s1
    cases d1 <;> try exact q.elim
    rename_i z
    obtain ⟨r0, h1, h2⟩ := hz z
    refine ⟨z, r0, rfl, rfl, h1, ?_⟩
    rw [h2]
    exact q (.bl _) S1 F1 H1 (.refl r1.fh) r1 (.bl _)
theorem TabK.keys (T : TabK X.K X.w X.mg x kvs) (hk : kvs.map (·.1) = ks) : ∃ d es n, X.mg x = some (.ref d) ∧ KDict X.K X.w d es n ∧ ∀ z, ∃ r, PySem.W.nsIn X.K d z = some r ∧ r.isSome = ks.contains z := by
  obtain ⟨d, es, n, g, D, hz⟩ := T
  refine ⟨d, es, n, g, D, fun z => ?_⟩
  obtain ⟨r, h1, h2, _⟩ := hz z
  exact ⟨r, h1, by rw [h2, lookup_contains, hk]⟩
theorem dv_tabIn (T : TabK X.K X.w X.mg x kvs) (h : DV X W a m) (hk : kvs.map (·.1) = ks := by rfl) (hg : Gl X x := by rfl) (hd : (x == ("__debug__" : Str)) = false := by decide) (hm : behindInMarks .In (.Name x p) = false := by first | exact nomark _ | with_unfolding_all rfl) :
    DV X W (.Compare a [.In] [.Name x p] pos) (vTabIn ks m) := by
  obtain ⟨d, es, n, g, D, hz⟩ := T.keys hk
  obtain ⟨t, h1, h2⟩ := h
  exact ⟨_, pe_cmpR (op_in_kd D) h1 (pe_glob hg g (v := .ref d) rfl hd) hm, rv_tabIn (es := es) (n := n) hz h2⟩
theorem dt_tabIn (T : TabK X.K X.w X.mg x kvs) (h : DV X W a m) (hk : kvs.map (·.1) = ks := by rfl) (hg : Gl X x := by rfl) (hd : (x == ("__debug__" : Str)) = false := by decide) (hm : behindInMarks .In (.Name x p) = false := by first | exact nomark _ | with_unfolding_all rfl) :
    DT X W (.Compare a [.In] [.Name x p] pos) (tV (vTabIn ks m)) := by
  obtain ⟨d, es, n, g, D, hz⟩ := T.keys hk
  obtain ⟨t, h1, h2⟩ := h
  exact ⟨_, pt_cmpR (op_in_kd D) h1 (pe_glob hg g (v := .ref d) rfl hd) hm, rt_test (rv_tabIn (es := es) (n := n) hz h2)⟩
theorem dv_tabNotIn (T : TabK X.K X.w X.mg x kvs) (h : DV X W a m) (hk : kvs.map (·.1) = ks := by rfl) (hg : Gl X x := by rfl) (hd : (x == ("__debug__" : Str)) = false := by decide) (hm : behindInMarks .NotIn (.Name x p) = false := by first | exact nomark _ | with_unfolding_all rfl) :
    DV X W (.Compare a [.NotIn] [.Name x p] pos) (vTabNotIn ks m) := by
  obtain ⟨d, es, n, g, D, hz⟩ := T.keys hk
  obtain ⟨t, h1, h2⟩ := h
  exact ⟨_, pe_cmpR (op_notIn_kd D) h1 (pe_glob hg g (v := .ref d) rfl hd) hm, rv_tabNotIn (es := es) (n := n) hz h2⟩
theorem dt_tabNotIn (T : TabK X.K X.w X.mg x kvs) (h : DV X W a m) (hk : kvs.map (·.1) = ks := by rfl) (hg : Gl X x := by rfl) (hd : (x == ("__debug__" : Str)) = false := by decide) (hm : behindInMarks .NotIn (.Name x p) = false := by first | exact nomark _ | with_unfolding_all rfl) :
    DT X W (.Compare a [.NotIn] [.Name x p] pos) (tV (vTabNotIn ks m)) := by
  obtain ⟨d, es, n, g, D, hz⟩ := T.keys hk
  obtain ⟨t, h1, h2⟩ := h
  exact ⟨_, pt_cmpR (op_notIn_kd D) h1 (pe_glob hg g (v := .ref d) rfl hd) hm, rt_test (rv_tabNotIn (es := es) (n := n) hz h2)⟩
theorem do_tabIx {l : List (Str × Int)} (T : TabK X.K X.w X.mg x (tabI l)) (h : DV X W ix m) (hg : Gl X x := by rfl) (hd : (x == ("__debug__" : Str)) = false := by decide) (hs : PlainIx ix := by exact fun _ _ => rfl) : DO X W (.Subscript (.Name x p) ix pos) (oTabIx l m) := by
  obtain ⟨d, es, n, g, D, hz⟩ := T
  obtain ⟨t, h1, h2⟩ := h
  refine ⟨_, pe_ix ix_kdict (pe_glob hg g (v := .ref d) rfl hd) h1 hs, fun pvs g σ S F H Q r q => ?_⟩
  refine h2 pvs g σ S F H _ r ?_
  unfold oTabIx at q
  cases e : m g with
  | err e' g1 =>
    rw [e] at q
    exact q
  | stk =>
    rw [e] at q
    exact q.elim
  | ok d' g1 =>
    rw [e] at q
    intro v S1 F1 H1 s1 r1 d1
    simp only [Out.bind] at q
    replace q := PoO.st q s1
    cases d1 <;> try exact q.elim
    rename_i z
    simp only at q
    cases ez : l.lookup z with
    | none =>
      rw [ez] at q
      exact q.elim
    | some i =>
      rw [ez] at q
      obtain ⟨r0, e1, _, e3⟩ := hz z
      obtain ⟨u, rfl, ru⟩ := e3 (.int i) (by rw [tabI_look, ez]; rfl)
      refine ⟨d, z, .int i, rfl, rfl, ⟨es, n, u, D.at_, D.lit, e1, ru⟩, ?_⟩
      exact q (.int i) (fun _ => False) S1 F1 H1 ((Stp.refl r1.fh).sub fun p z => z.elim id False.elim) r1 (.dat (.int i) fun _ z => z) fun _ z _ => z
end
/-! ### look = TABLE[word]; look(e, ..) -/
/-- the table's defs and their mirrors -/
inductive LkOk (P : Program) (w : World) (K : PySem.W.Frag) (mg : Str → Option Value) (base : Heap) (j n : Nat) : List (Str × He.Dv) → List (Str × (List OD → FOut)) → Prop
  | nil : LkOk P w K mg base j n [] []
  | cons {k : Nat} {z nm : Str} {ps : List Str} {m : List OD → FOut} {l : List (Str × He.Dv)} {t : List (Str × (List OD → FOut))} : FK P w K mg base k nm ps m → mg nm = some (.ref (He.ga K nm)) → k ≤ j → ps.length = n → LkOk P w K mg base j n l t → LkOk P w K mg base j n ((z, .glo nm) :: l) ((z, m) :: t)
def LkA (P : Program) (w : World) (K : PySem.W.Frag) (mg : Str → Option Value) (base : Heap) (j n : Nat) (f : Addr) (m : List OD → FOut) : Prop :=
  ∃ fd ps, FnOk P w K mg base (L2.CX P w) j f fd ps (spL K mg n m) ∧ PySem.W.keepIn K (.ref f) = true ∧ Binds K fd ps []
theorem LkOk.at {P : Program} {w : World} {K : PySem.W.Frag} {mg : Str → Option Value} {base : Heap} {j n : Nat} {l : List (Str × He.Dv)} {t : List (Str × (List OD → FOut))} (h : LkOk P w K mg base j n l t) {z : Str} {m : List OD → FOut} (e : t.lookup z = some m) :
    ∃ f dv, l.lookup z = some dv ∧ dv.v K = .ref f ∧ LkA P w K mg base j n f m := by
  induction h with
  | nil => cases e
  | @cons k z' nm ps m' l t F g hk hn r ih =>
    unfold List.lookup at e ⊢
    split at e
    · rename_i ez
      cases e
      obtain ⟨f, fd, a, b, c, d⟩ := F
      have e2 := b.symm.trans g
      cases e2
      subst hn
      exact ⟨_, _, rfl, rfl, fd, ps, a.mono hk, c, d⟩
    · exact ih e
def tCallR (i : Nat) (S : Addr → Sp → Prop) (E : L2.St → L2.XK) (t : TA) : TE := fun σ H Q => ∃ f sp, σ[i]? = some (some (.ref f)) ∧ S f sp ∧ t σ H fun vs H1 => sp vs H1 Q (E σ)
def sLook (i n : Nat) (tab : List (Str × (List OD → FOut))) (mi : Gm → Out PyData) (ml : Gm → Out (List Ar)) (g : Gm) : SOut :=
  match mi g with
  | .ok d g1 => match d with
    | .str z => match tab.lookup z with
      | some m => if i < g1.length then sDrop (oCall n m ml) (st g1 i (.v .exc)) else .stk
      | none => .stk
    | _ => .stk
  | .err e g1 => .err e g1
  | .stk => .stk
section
variable {X : Cx} {W : Wz} {e ix : Expr} {es : List Expr} {pos py p pE pA pS pT : Pos} {y T : Str} {i j n : Nat} {l : List (Str × He.Dv)} {tab : List (Str × (List OD → FOut))} {mi : Gm → Out PyData} {ml : Gm → Out (List Ar)}
theorem pe_callR {S : Addr → Sp → Prop} {E : L2.St → L2.XK} {t : TA} (A : ∀ f sp, S f sp → ∃ m, sp = spL X.K X.mg n m ∧ LkA X.prog X.w X.K X.mg X.base j n f m) (hr : Room j X.A) (hN : X.N[i]? = some y) (hv : Vis X.env.scope y) (hx : ∀ σ, PassesAt (L2.CX X.prog X.w) X σ (E σ)) (ha : PA X (e :: es) t)
    (hd : (y == ("__debug__" : Str)) = false) (hcd : (y == ("__classdict__" : Str)) = false) (hs : starEach (e :: es) X.env = (false, eval e X.env) :: starEach es X.env) (hpl : (backTo pos (starEach es X.env)).any (·.1) = false) : PE X (.Call (.Name y p) (e :: es) [] pos) (tCallR i S E t) := by
  refine ⟨fun pins s σ H Q I h => ?_⟩
  obtain ⟨f, sp, hf, hS, ht⟩ := h
  obtain ⟨m, rfl, fd, ps, F, kp, b⟩ := A f sp hS
  refine wpAny_Call_Name_kw (thn ((pe_var (pos := p) hN hv hd hcd).run pins s σ H (fun v H1 => v = .ref f ∧ H1 = H) I ⟨_, hf, rfl, rfl⟩) fun u s1 ⟨v, H1, I1, r1, q1⟩ => ?_)
  obtain ⟨rfl, rfl⟩ := q1
  cases r1
  exact PySem.W.callWith_K (h₀ := X.base) I.ok.mod.kin kp (thn (ha.run pos pins s1 σ _ _ I1 ht) fun us s2 ⟨vs, H2, I2, r, q⟩ => ⟨I2.kIn, run_fnS F hr b (hx σ) I2 r q⟩) hs hpl
theorem dss_look {rest : List Stmt} {mr : Gm → SOut} (TB : TabK X.K X.w X.mg T l) (L : LkOk X.prog X.w X.K X.mg X.base j n l tab) (hr : Room j X.A) (tk : Takes X W.x) (hN : X.N.Nodup) (hix : DV X W ix mi) (ha : DL X W (e :: es) ml) (hrest : DSs X W rest mr)
    (hi : X.N[i]? = some y := by rfl) (hlo : Loc X.env.scope y := by first | exact Or.inl rfl | exact Or.inr rfl) (hv : Vis X.env.scope y := by first | exact Or.inl rfl | exact Or.inr (Or.inl rfl) | exact Or.inr (Or.inr rfl)) (hf : X.fn y = true ∨ X.env.scope.names.lookup y = some .local := by first | exact .inl rfl | exact .inr rfl)
    (hg : Gl X T := by rfl) (hdT : (T == ("__debug__" : Str)) = false := by decide) (hd : (y == ("__debug__" : Str)) = false := by decide) (hcd : (y == ("__classdict__" : Str)) = false := by decide) (hpi : PlainIx ix := by exact fun _ _ => rfl)
    (hs : starEach (e :: es) X.env = (false, eval e X.env) :: starEach es X.env := by rfl) (hpl : (backTo pos (starEach es X.env)).any (·.1) = false := by rfl)
    (hw : swapsWith (.Subscript (.Name T pT) ix pS) (some (.Name y py)) pA.line X.env = pure false := by rfl) (hw2 : swapsWith (.Call (.Name y p) (e :: es) [] pos) none pE.line X.env = pure false := by rfl) :
    DSs X W (.Assign [.Name y py] (.Subscript (.Name T pT) ix pS) pA :: .Expr (.Call (.Name y p) (e :: es) [] pos) pE :: rest) (sSeq (sLook i n tab mi ml) mr) := by
  obtain ⟨d, ds, dn, g, D, hz⟩ := TB
  obtain ⟨ti, i1, i2⟩ := hix
  obtain ⟨ta, a1, a2⟩ := ha
  obtain ⟨tr, r1, r2⟩ := hrest
  have p1 := ps_set (pos := pA) (pos' := py) hN hi hlo (pe_ix (pos := pS) ix_kdict (pe_glob (pos := pT) hg g (v := .ref d) rfl hdT) i1 hpi) hw hf
  have p2 := ps_expr (pos := pE) (pe_callR (p := p) (pos := pos) (n := n) (S := fun f sp => ∃ m, sp = spL X.K X.mg n m ∧ LkA X.prog X.w X.K X.mg X.base j n f m) (E := WE W.x) (fun _ _ h => h) hr hi hv (fun σ => passAt tk σ) a1 hd hcd hs hpl) hw2
  refine ⟨_, pss_cons p1 (pss_cons p2 r1), ?_⟩
  have key := rs_seq (K := X.K) (cg := cgX X W) (W := W.x) (m := sLook i n tab mi ml) (t := tSeq (tAsg (tOp (rIxD X.K X.w) (tC (.ref d)) ti) (gName i)) (tDrop (tCallR i (fun f sp => ∃ m, sp = spL X.K X.mg n m ∧ LkA X.prog X.w X.K X.mg X.base j n f m) (WE W.x) ta))) ?_ r2
  · exact key
  · intro pvs g σ S F H E r q
    refine i2 pvs g σ S F H _ r ?_
    unfold sLook at q
    cases em : mi g with
    | err e' g1 =>
      rw [em] at q
      exact ErrS.p q
    | stk =>
      rw [em] at q
      exact q.elim
    | ok d' g1 =>
      rw [em] at q
      intro v S1 F1 H1 s1 rr d1
      simp only at q
      replace q := PoS.st q s1
      cases d1 <;> try exact q.elim
      rename_i z
      simp only at q
      cases ez : tab.lookup z with
      | none =>
        rw [ez] at q
        exact q.elim
      | some m =>
        rw [ez] at q
        simp only at q
        by_cases hl : i < g1.length
        · rw [if_pos hl] at q
          obtain ⟨f, dv, l1, l2, lk⟩ := L.at ez
          obtain ⟨r0, e1, _, e3⟩ := hz z
          obtain ⟨u, rfl, ru⟩ := e3 dv l1
          refine ⟨d, z, dv.v X.K, rfl, rfl, ⟨ds, dn, u, D.at_, D.lit, e1, ru⟩, ?_⟩
          rw [l2]
          obtain ⟨S2, rr2, h2⟩ := rr.asg (i := i) (v := .ref f) (o := .exc) (A := fun _ => False) (.exc fun _ z => z) (fun _ z _ => z)
          have hset : (σ.set i (some (V.ref f)))[i]? = some (some (.ref f)) := List.getElem?_set_self (by rw [← rr.len]; exact hl)
          refine ⟨f, _, hset, ⟨m, rfl, lk⟩, ?_⟩
          have k2 := rs_drop (ro_call (K := X.K) (cg := cgX X W) (W := W.x) (n := n) (m := m) a2) pvs (st g1 i (.v .exc)) (σ.set i (some (.ref f))) S2 F1 H1 E rr2
          have s2 : Stp S1 F1 H1 S2 F1 H1 := (Stp.refl rr.fh).sub fun p z => (h2 p z).elim id False.elim
          exact k2 (PoS.st q s2)
        · rw [if_neg hl] at q
          exact q.elim
end
end VL
namespace VL
open PySem L2
noncomputable section
def c_LAST_DAY : PyData := .int 3999
def c_LAST_YEAR : PyData := .int 39
def c_YEAR_DAYS : PyData := .int 100
def c_FIELDS : PyData := .int 12
def c_HOLDERS : PyData := .int 8
def c_NOUGHT : PyData := .tuple [.int 0, .int 1]
def c_PARISHES : PyData := .int 8
def c_KINDS : PyData := .int 6
def c_PLAIN : PyData := .tuple [.str "kind", .int 0]
def c_WHOLE : PyData := .tuple [.int 1, .int 1]
def c_TEN : PyData := .int 10
def m_need_day : List OD → FOut := fnM [true] 0 (sIf (tNotM (tV (vO (vChain fLe fLe (vP (pC (.int 0))) (vP (pVar 0)) (vP (pC c_LAST_DAY)))))) (sErr ⟨"BadDay", []⟩) sNx)
def m_need_year : List OD → FOut := fnM [true] 0 (sIf (tNotM (tV (vO (vChain fLe fLe (vP (pC (.int 0))) (vP (pVar 0)) (vP (pC c_LAST_YEAR)))))) (sErr ⟨"BadYear", []⟩) sNx)
def m_year_of : List OD → FOut := fnM [true] 0 (sSeq (sDrop (oCall 1 m_need_day (lD (vP (pVar 0)) lNil))) (sRet (oR (rOp fFdiv (pVar 0) (pC c_YEAR_DAYS)))))
def b_in_force_1 (g : Gm) : SOut := (sIf (tAndM (tV (vP (pR (rOp fLe (pVar 4) (pVar 1))))) (tOrM (tV (vP (pR (rOp fIsN (pVar 2) (pC .none))))) (tV (vO (oOp fGt (vO (oTup (aCons (vP (pVar 4)) (aCons (vP (pVar 3)) aNil)))) (vO (oSl (vP (pVar 2)) nNone (nSome (vP (pC (.int 2))))))))))) (sAsg 2 (oV (vO (oTup (aCons (vP (pVar 4)) (aCons (vP (pVar 3)) (aCons (vP (pVar 5)) aNil))))))) sNx) g
def r_in_force_2 (g : Gm) : SOut := (sSeq (sIf (tV (vP (pR (rOp fIsN (pVar 2) (pC .none))))) (sRet (oV (vP (pC .none)))) sNx) (sRet (oR (rOp fIx (pVar 2) (pC (.int 2)))))) g
def m_in_force : List OD → FOut := fnM [true, true] 4 (sSeq (sAsg 2 (oV (vP (pC .none)))) (sSeq (sFor lof [3, 4, 5] (gT 3 (gsCons (gN 3) (gsCons (gN 4) (gsCons (gN 5) gsNil)))) (vP (pVar 0)) b_in_force_1) r_in_force_2))
def m_need_field : List OD → FOut := fnM [true] 0 (sIf (tNotM (tV (vO (vChain fLe fLe (vP (pC (.int 1))) (vP (pVar 0)) (vP (pC c_FIELDS)))))) (sErr ⟨"BadField", []⟩) sNx)
def m_need_holder : List OD → FOut := fnM [true] 0 (sIf (tNotM (tV (vO (vChain fLe fLe (vP (pC (.int 1))) (vP (pVar 0)) (vP (pC c_HOLDERS)))))) (sErr ⟨"BadHolder", []⟩) sNx)
def e_rows_of_1 (g : Gm) : Out PyData := (vO (oTup (aCons (vP (pVar 3)) (aCons (vP (pR (rOp fIx (pVar 4) (pC (.int 3))))) (aCons (vP (pR (rOp fIx (pVar 4) (pC (.int 2))))) aNil))))) g
def t_rows_of_2 (g : Gm) : Out Bool := (tAndM (tV (vP (pR (rOp fEq (pR (rOp fIx (pVar 4) (pC (.int 0)))) (pVar 1))))) (tV (vP (pR (rOp fEq (pR (rOp fIx (pVar 4) (pC (.int 1)))) (pVar 2)))))) g
def m_rows_of : List OD → FOut := fnM [true, true, true] 2 (sRet (oComp lof [3, 4] (gT 2 (gsCons (gN 3) (gsCons (gN 4) gsNil))) t_rows_of_2 e_rows_of_1 (vP (pVar 0))))
def m_parish_on : List OD → FOut := fnM [true, true, true] 0 (sSeq (sDrop (oCall 1 m_need_field (lD (vP (pVar 1)) lNil))) (sSeq (sDrop (oCall 1 m_need_day (lD (vP (pVar 2)) lNil))) (sRet (oCall 2 m_in_force (lD (vO (oCall 3 m_rows_of (lD (vP (pVar 0)) (lD (vP (pC (.str "lies"))) (lD (vP (pVar 1)) lNil))))) (lD (vP (pVar 2)) lNil))))))
def m_holder_on : List OD → FOut := fnM [true, true, true] 1 (sSeq (sDrop (oCall 1 m_need_field (lD (vP (pVar 1)) lNil))) (sSeq (sDrop (oCall 1 m_need_day (lD (vP (pVar 2)) lNil))) (sSeq (sAsg 3 (oV (vO (oCall 2 m_in_force (lD (vO (oCall 3 m_rows_of (lD (vP (pVar 0)) (lD (vP (pC (.str "held"))) (lD (vP (pVar 1)) lNil))))) (lD (vP (pVar 2)) lNil)))))) (sSeq (sIf (tV (vP (pR (rOp fEq (pVar 3) (pC (.int 0)))))) (sRet (oV (vP (pC .none)))) sNx) (sRet (oV (vP (pVar 3))))))))
def b_free_on_1 (g : Gm) : SOut := (sIf (tAndM (tV (vP (pR (rOp fEq (pR (rOp fIx (pVar 4) (pC (.int 0)))) (pC (.str "free")))))) (tAndM (tV (vP (pR (rOp fEq (pR (rOp fIx (pVar 4) (pC (.int 1)))) (pVar 1))))) (tV (vO (vChain fLe fLe (vP (pR (rOp fIx (pVar 4) (pC (.int 2))))) (vP (pVar 2)) (vP (pR (rOp fIx (pVar 4) (pC (.int 3)))))))))) (sRet (oV (vP (pC (.bool true))))) sNx) g
def m_free_on : List OD → FOut := fnM [true, true, true] 2 (sSeq (sDrop (oCall 1 m_need_field (lD (vP (pVar 1)) lNil))) (sSeq (sDrop (oCall 1 m_need_day (lD (vP (pVar 2)) lNil))) (sSeq (sFor lof [3, 4] (gT 2 (gsCons (gN 3) (gsCons (gN 4) gsNil))) (vP (pVar 0)) b_free_on_1) (sRet (oV (vP (pC (.bool false))))))))
def m_line_on : List OD → FOut := fnM [true, true, true] 2 (sSeq (sAsg 3 (oV (vO (oCall 3 m_holder_on (lD (vP (pVar 0)) (lD (vP (pVar 1)) (lD (vP (pVar 2)) lNil))))))) (sSeq (sAsg 4 (oV (vO (oCall 3 m_parish_on (lD (vP (pVar 0)) (lD (vP (pVar 1)) (lD (vP (pVar 2)) lNil))))))) (sSeq (sIf (tOrM (tV (vP (pR (rOp fIsN (pVar 3) (pC .none))))) (tOrM (tV (vP (pR (rOp fIsN (pVar 4) (pC .none))))) (tV (vO (oCall 3 m_free_on (lD (vP (pVar 0)) (lD (vP (pVar 1)) (lD (vP (pVar 2)) lNil)))))))) (sRet (oV (vP (pC .none)))) sNx) (sRet (oTupK (aCons (vP (pVar 3)) (aCons (vP (pVar 4)) aNil)))))))
def t_divisor_1 (g : Gm) : Out Bool := (tV (vP (pR (rOp fGt (pVar 0) (pC (.int 0)))))) g
def b_divisor_2 (g : Gm) : SOut := (sPar 0 1 (aCons (vP (pR (rOp fMod (pVar 1) (pVar 0)))) (aCons (vP (pVar 0)) aNil))) g
def m_divisor : List OD → FOut := fnM [false, false] 0 (sSeq (sWhl [] (fuN 0) t_divisor_1 b_divisor_2) (sRet (oV (vP (pVar 1)))))
def r_lowest_1 (g : Gm) : SOut := (sSeq (sAsg 2 (oV (vO (oCall 2 m_divisor (lD (vP (pVar 0)) (lD (vP (pVar 1)) lNil)))))) (sRet (oTup (aCons (vP (pR (rOp fFdiv (pVar 0) (pVar 2)))) (aCons (vP (pR (rOp fFdiv (pVar 1) (pVar 2)))) aNil))))) g
def m_lowest : List OD → FOut := fnM [true, true] 1 (sSeq (sIf (tOrM (tV (vP (pR (rOp fLt (pVar 0) (pC (.int 0)))))) (tV (vP (pR (rOp fLt (pVar 1) (pC (.int 1))))))) (sErr ⟨"BadPart", []⟩) sNx) r_lowest_1)
def m_plus : List OD → FOut := fnM [true, true] 0 (sRet (oCall 2 m_lowest (lD (vP (pR (rOp fAdd (pR (rOp fMul (pR (rOp fIx (pVar 0) (pC (.int 0)))) (pR (rOp fIx (pVar 1) (pC (.int 1)))))) (pR (rOp fMul (pR (rOp fIx (pVar 1) (pC (.int 0)))) (pR (rOp fIx (pVar 0) (pC (.int 1))))))))) (lD (vP (pR (rOp fMul (pR (rOp fIx (pVar 0) (pC (.int 1)))) (pR (rOp fIx (pVar 1) (pC (.int 1))))))) lNil))))
def b_birth_of_1 (g : Gm) : SOut := (sIf (tAndM (tV (vP (pR (rOp fEq (pVar 2) (pVar 1))))) (tV (vP (pR (rOp fEq (pR (rOp fIx (pVar 3) (pC (.int 0)))) (pC (.str "born"))))))) (sRet (oV (vP (pVar 3)))) sNx) g
def m_birth_of : List OD → FOut := fnM [true, true] 2 (sSeq (sFor lof [2, 3] (gT 2 (gsCons (gN 2) (gsCons (gN 3) gsNil))) (vP (pVar 0)) b_birth_of_1) (sErr ⟨"NoBeast", []⟩))
def b_field_on_1 (g : Gm) : SOut := (sIf (tAndM (tV (vP (pR (rOp fEq (pR (rOp fIx (pVar 6) (pC (.int 0)))) (pC (.str "driven")))))) (tAndM (tV (vP (pR (rOp fEq (pR (rOp fIx (pVar 6) (pC (.int 1)))) (pVar 1))))) (tV (vP (pR (rOp fGe (pR (rOp fIx (pVar 6) (pC (.int 3)))) (pR (rOp fIx (pVar 3) (pC (.int 3)))))))))) (sDrop (oV (vMut 4 fApp (aCons (vO (oTup (aCons (vP (pVar 5)) (aCons (vP (pR (rOp fIx (pVar 6) (pC (.int 3))))) (aCons (vP (pR (rOp fIx (pVar 6) (pC (.int 2))))) aNil))))) aNil)))) sNx) g
def m_field_on : List OD → FOut := fnM [true, true, true] 4 (sSeq (sAsg 3 (oV (vO (oCall 2 m_birth_of (lD (vP (pVar 0)) (lD (vP (pVar 1)) lNil)))))) (sSeq (sDrop (oCall 1 m_need_day (lD (vP (pVar 2)) lNil))) (sSeq (sAsg 4 (oLst (aCons (vO (oTup (aCons (vP (pC (.int 0))) (aCons (vP (pR (rOp fIx (pVar 3) (pC (.int 3))))) (aCons (vP (pR (rOp fIx (pVar 3) (pC (.int 1))))) aNil))))) aNil))) (sSeq (sFor lof [5, 6] (gT 2 (gsCons (gN 5) (gsCons (gN 6) gsNil))) (vP (pVar 0)) b_field_on_1) (sFrz 4 (sRet (oCall 2 m_in_force (lL 4 (lD (vP (pVar 2)) lNil)))))))))
def m_falls_on : List OD → FOut := fnM [true, true] 1 (sSeq (sAsg 2 (oV (vO (oCall 2 m_birth_of (lD (vP (pVar 0)) (lD (vP (pVar 1)) lNil)))))) (sRet (oR (rOp fAdd (pR (rOp fIx (pVar 2) (pC (.int 3)))) (pR (rOp fIx (pVar 2) (pC (.int 4))))))))
def b_shares_1 (g : Gm) : SOut := (sSeq (sAsg 5 (oCall 3 m_line_on (lD (vP (pVar 0)) (lD (vO (oCall 3 m_field_on (lD (vP (pVar 0)) (lD (vP (pVar 1)) (lD (vP (pVar 4)) lNil))))) (lD (vP (pVar 4)) lNil))))) (sIf (tV (vP (pR (rOp fNotN (pTk 5) (pC .none))))) (sDPutT 3 (oTk 5) (vO (oCall 2 m_plus (lD (vDGet 3 (vP (pTk 5)) (vP (pC c_NOUGHT))) (lD (vO (oCall 2 m_lowest (lD (vP (pC (.int 1))) (lD (vP (pR (rOp fIx (pVar 2) (pC (.int 4))))) lNil)))) lNil))))) sNx)) g
def e_shares_2 (g : Gm) : Out PyData := (vO (oTup (aCons (vP (pTk 5)) (aCons (vDIx 3 (vP (pTk 5))) aNil)))) g
def m_shares : List OD → FOut := fnM [true, true] 4 (sSeq (sAsg 2 (oV (vO (oCall 2 m_birth_of (lD (vP (pVar 0)) (lD (vP (pVar 1)) lNil)))))) (sSeq (sAsg 3 oDNewT) (sSeq (sForR [4] (gN 4) (aCons (vP (pR (rOp fIx (pVar 2) (pC (.int 3))))) (aCons (vP (pR (rOp fAdd (pR (rOp fIx (pVar 2) (pC (.int 3)))) (pR (rOp fIx (pVar 2) (pC (.int 4))))))) aNil)) b_shares_1) (sFrz 3 (sRet (oComp lof [5] (gN 5) tYesM e_shares_2 (vO (oSortDT 3))))))))
def m_need_parish : List OD → FOut := fnM [true] 0 (sIf (tNotM (tV (vO (vChain fLe fLe (vP (pC (.int 1))) (vP (pVar 0)) (vP (pC c_PARISHES)))))) (sErr ⟨"BadParish", []⟩) sNx)
def m_need_kind : List OD → FOut := fnM [true] 0 (sIf (tNotM (tV (vO (vChain fLe fLe (vP (pC (.int 1))) (vP (pVar 0)) (vP (pC c_KINDS)))))) (sErr ⟨"BadKind", []⟩) sNx)
def b_custom_of_1 (g : Gm) : SOut := (sIf (tAndM (tV (vP (pR (rOp fEq (pR (rOp fIx (pVar 6) (pC (.int 0)))) (pC (.str "custom")))))) (tAndM (tV (vP (pR (rOp fEq (pR (rOp fIx (pVar 6) (pC (.int 1)))) (pVar 1))))) (tV (vP (pR (rOp fEq (pR (rOp fIx (pVar 6) (pC (.int 2)))) (pVar 2))))))) (sDrop (oV (vMut 4 fApp (aCons (vO (oTup (aCons (vP (pVar 5)) (aCons (vP (pR (rOp fIx (pVar 6) (pC (.int 3))))) (aCons (vP (pR (rOp fIx (pVar 6) (pC (.int 4))))) aNil))))) aNil)))) sNx) g
def r_custom_of_2 (g : Gm) : SOut := (sSeq (sAsg 7 (oV (vO (oCall 2 m_in_force (lL 4 (lD (vP (pVar 3)) lNil)))))) (sSeq (sIf (tV (vP (pR (rOp fIsN (pVar 7) (pC .none))))) (sRet (oV (vP (pC c_PLAIN)))) sNx) (sRet (oV (vP (pVar 7)))))) g
def m_custom_of : List OD → FOut := fnM [true, true, true, true] 4 (sSeq (sDrop (oCall 1 m_need_parish (lD (vP (pVar 1)) lNil))) (sSeq (sDrop (oCall 1 m_need_kind (lD (vP (pVar 2)) lNil))) (sSeq (sDrop (oCall 1 m_need_year (lD (vP (pVar 3)) lNil))) (sSeq (sAsg 4 (oLst aNil)) (sSeq (sFor lof [5, 6] (gT 2 (gsCons (gN 5) (gsCons (gN 6) gsNil))) (vP (pVar 0)) b_custom_of_1) (sFrz 4 r_custom_of_2))))))
def m_of_cut : List OD → FOut := fnM [true, true, true] 1 (sSeq (sAsg 3 (oV (vO (oCall 3 m_line_on (lD (vP (pVar 0)) (lD (vP (pR (rOp fIx (pVar 2) (pC (.int 1))))) (lD (vP (pR (rOp fIx (pVar 2) (pC (.int 3))))) lNil))))))) (sSeq (sIf (tV (vP (pR (rOp fIsN (pVar 3) (pC .none))))) (sRet (oLst aNil)) sNx) (sRet (oLst (aCons (vO (oTup (aCons (vP (pR (rOp fIx (pVar 2) (pC (.int 3))))) (aCons (vP (pR (rOp fIx (pVar 3) (pC (.int 0))))) (aCons (vP (pR (rOp fIx (pVar 3) (pC (.int 1))))) (aCons (vO (oTup (aCons (vP (pR (rOp fIx (pVar 2) (pC (.int 4))))) (aCons (vP (pC (.int 1))) aNil)))) (aCons (vP (pVar 1)) aNil))))))) aNil)))))
def e_of_birth_1 (g : Gm) : Out PyData := (vO (oTup (aCons (vP (pVar 2)) (aCons (vP (pR (rOp fIx (pVar 3) (pC (.int 0))))) (aCons (vP (pR (rOp fIx (pVar 3) (pC (.int 1))))) (aCons (vP (pVar 4)) (aCons (vP (pVar 1)) aNil))))))) g
def m_of_birth : List OD → FOut := fnM [true, true] 3 (sSeq (sAsg 2 (oV (vO (oCall 2 m_falls_on (lD (vP (pVar 0)) (lD (vP (pVar 1)) lNil)))))) (sRet (oComp lof [3, 4] (gT 2 (gsCons (gN 3) (gsCons (gN 4) gsNil))) tYesM e_of_birth_1 (vO (oCall 2 m_shares (lD (vP (pVar 0)) (lD (vP (pVar 1)) lNil)))))))
def b_arisings_1 (g : Gm) : SOut := (sSeq (sIf (tAndM (tV (vP (pR (rOp fEq (pR (rOp fIx (pVar 4) (pC (.int 0)))) (pC (.str "cut")))))) (tV (vP (pR (rOp fEq (pR (rOp fIx (pVar 4) (pC (.int 2)))) (pVar 1)))))) (sAsg 2 (oV (vO (oOp fAdd (vP (pVar 2)) (vO (oCall 3 m_of_cut (lD (vP (pVar 0)) (lD (vP (pVar 3)) (lD (vP (pVar 4)) lNil))))))))) sNx) (sIf (tAndM (tV (vP (pR (rOp fEq (pR (rOp fIx (pVar 4) (pC (.int 0)))) (pC (.str "born")))))) (tV (vP (pR (rOp fEq (pR (rOp fIx (pVar 4) (pC (.int 2)))) (pVar 1)))))) (sAsg 2 (oV (vO (oOp fAdd (vP (pVar 2)) (vO (oCall 2 m_of_birth (lD (vP (pVar 0)) (lD (vP (pVar 3)) lNil)))))))) sNx)) g
def m_arisings : List OD → FOut := fnM [true, true] 3 (sSeq (sDrop (oCall 1 m_need_kind (lD (vP (pVar 1)) lNil))) (sSeq (sAsg 2 (oV (vO (oLst aNil)))) (sSeq (sFor lof [3, 4] (gT 2 (gsCons (gN 3) (gsCons (gN 4) gsNil))) (vP (pVar 0)) b_arisings_1) (sRet (oR (rCa fSorted (waCons (pVar 2) waNil)))))))
def t_by_worth_1 (g : Gm) : Out Bool := (tAndM (tV (vP (pR (rOp fLt (pVar 3) (pR (rCa fLen (waCons (wVar 1) waNil))))))) (tV (vP (pR (rOp fGe (pR (rOp fIx (pVar 0) (pR (rOp fIx (wVar 1) (pVar 3))))) (pR (rOp fIx (pVar 0) (pVar 2)))))))) g
def b_by_worth_2 (g : Gm) : SOut := (sAug 3 (fun a b => a + b) (vP (pC (.int 1)))) g
def b_by_worth_3 (g : Gm) : SOut := (sSeq (sAsg 3 (oV (vP (pC (.int 0))))) (sSeq (sWhl [] (fuL 1) t_by_worth_1 b_by_worth_2) (sDrop (oV (vMut 1 fIns (aCons (vP (pVar 3)) (aCons (vP (pVar 2)) aNil))))))) g
def m_by_worth : List OD → FOut := fnM [true] 3 (sSeq (sAsg 1 (oLst aNil)) (sSeq (sForR [2, 3] (gN 2) (aCons (vP (pR (rCa fLen (waCons (pVar 0) waNil)))) aNil) b_by_worth_3) (sRet (oMov 1))))
def m_picked : List OD → FOut := fnM [true, true] 0 (sSeq (sIf (tNotM (tV (vO (vChain fLe fLt (vP (pC (.int 0))) (vP (pVar 1)) (vP (pR (rCa fLen (waCons (pVar 0) waNil)))))))) (sErr ⟨"BadAside", []⟩) sNx) (sRet (oOp fIx (vO (oCall 1 m_by_worth (lD (vP (pVar 0)) lNil))) (vP (pVar 1)))))
def b_reasons_1 (g : Gm) : SOut := (sIf (tAndM (tV (vO (oOp fEq (vO (oTup (aCons (vP (pVar 7)) (aCons (vP (pVar 8)) aNil)))) (vO (oTup (aCons (vP (pVar 1)) (aCons (vP (pVar 2)) aNil))))))) (tAndM (tV (vP (pR (rOp fLe (pVar 6) (pVar 4))))) (tV (vP (pR (rOp fNe (pVar 9) (pC c_NOUGHT))))))) (sDPutK 5 (vP (pVar 10)) (vP (pC (.bool true)))) sNx) g
def m_reasons : List OD → FOut := fnM [true, true, true, true, true] 6 (sSeq (sDrop (oCall 1 m_need_holder (lD (vP (pVar 1)) lNil))) (sSeq (sDrop (oCall 1 m_need_parish (lD (vP (pVar 2)) lNil))) (sSeq (sDrop (oCall 1 m_need_kind (lD (vP (pVar 3)) lNil))) (sSeq (sDrop (oCall 1 m_need_day (lD (vP (pVar 4)) lNil))) (sSeq (sAsg 5 oDNewK) (sSeq (sFor lof [6, 7, 8, 9, 10] (gT 5 (gsCons (gN 6) (gsCons (gN 7) (gsCons (gN 8) (gsCons (gN 9) (gsCons (gN 10) gsNil)))))) (vO (oCall 2 m_arisings (lD (vP (pVar 0)) (lD (vP (pVar 3)) lNil)))) b_reasons_1) (sFrz 5 (sRet (oSortDK 5)))))))))
def e_of_wholes_1 (g : Gm) : Out PyData := (vP (pVar 4)) g
def t_of_wholes_2 (g : Gm) : Out Bool := (tV (vP (pR (rOp fEq (pR (rOp fIx (pVar 4) (pC (.int 3)))) (pC c_WHOLE))))) g
def b_of_wholes_3 (g : Gm) : SOut := (sIf (tAndM (tV (vP (pR (rOp fEq (pVar 2) (pVar 1))))) (tV (vP (pR (rOp fEq (pR (rOp fIx (pVar 3) (pC (.int 0)))) (pC (.str "born"))))))) (sRet (oComp lof [4] (gN 4) t_of_wholes_2 e_of_wholes_1 (vO (oCall 2 m_of_birth (lD (vP (pVar 0)) (lD (vP (pVar 1)) lNil)))))) sNx) g
def m_of_wholes : List OD → FOut := fnM [true, true] 3 (sSeq (sFor lof [2, 3] (gT 2 (gsCons (gN 2) (gsCons (gN 3) gsNil))) (vP (pVar 0)) b_of_wholes_3) (sRet (oLst aNil)))
def b_pen_1 (g : Gm) : SOut := (sIf (tAndM (tV (vO (oOp fEq (vO (oTup (aCons (vP (pVar 8)) (aCons (vP (pVar 9)) aNil)))) (vO (oTup (aCons (vP (pVar 1)) (aCons (vP (pVar 2)) aNil))))))) (tV (vO (oOp fEq (vO (oOp fIx (vO (oCall 4 m_custom_of (lD (vP (pVar 0)) (lD (vP (pVar 2)) (lD (vP (pVar 3)) (lD (vO (oCall 1 m_year_of (lD (vP (pVar 7)) lNil))) lNil)))))) (vP (pC (.int 0))))) (vP (pC (.str "kind"))))))) (sDrop (oV (vMut 5 fApp (aCons (vO (oTup (aCons (vP (pVar 7)) (aCons (vP (pVar 6)) aNil)))) aNil)))) sNx) g
def b_pen_2 (g : Gm) : SOut := (sFor lof [7, 8, 9, 10, 11] (gT 5 (gsCons (gN 7) (gsCons (gN 8) (gsCons (gN 9) (gsCons (gN 10) (gsCons (gN 11) gsNil)))))) (vO (oCall 2 m_of_wholes (lD (vP (pVar 0)) (lD (vP (pVar 6)) lNil)))) b_pen_1) g
def e_pen_3 (g : Gm) : Out PyData := (vP (pVar 6)) g
def m_pen : List OD → FOut := fnM [true, true, true, true, true] 7 (sSeq (sAsg 5 (oLst aNil)) (sSeq (sFor lof [7, 8, 9, 10, 11] (gN 6) (vO (oCall 5 m_reasons (lD (vP (pVar 0)) (lD (vP (pVar 1)) (lD (vP (pVar 2)) (lD (vP (pVar 3)) (lD (vP (pVar 4)) lNil))))))) b_pen_2) (sFrz 5 (sRet (oComp lof [6, 7] (gT 2 (gsCons (gN 7) (gsCons (gN 6) gsNil))) tYesM e_pen_3 (vP (pR (rCa fSorted (waCons (wVar 5) waNil)))))))))
def e_worth_of_1 (g : Gm) : Out PyData := (vP (pR (rOp fIx (pVar 3) (pC (.int 5))))) g
def t_worth_of_2 (g : Gm) : Out Bool := (tV (vP (pR (rOp fEq (pVar 2) (pVar 1))))) g
def m_worth_of : List OD → FOut := fnM [true, true] 2 (sRet (oOp fIx (vO (oComp lof [2, 3] (gT 2 (gsCons (gN 2) (gsCons (gN 3) gsNil))) t_worth_of_2 e_worth_of_1 (vP (pVar 0)))) (vP (pC (.int 0)))))
def e_picked_beasts_1 (g : Gm) : Out PyData := (vO (oCall 2 m_worth_of (lD (vP (pVar 0)) (lD (vP (pVar 10)) lNil)))) g
def b_picked_beasts_2 (g : Gm) : SOut := (sSeq (sAsg 8 (oV (vO (oSl (vP (pVar 5)) (nSome (vP (pVar 7))) (nSome (vP (pR (rOp fAdd (pVar 7) (pC c_TEN))))))))) (sSeq (sAsg 9 (oV (vO (oCall 4 m_custom_of (lD (vP (pVar 0)) (lD (vP (pVar 2)) (lD (vP (pVar 3)) (lD (vO (oCall 1 m_year_of (lD (vO (oCall 2 m_falls_on (lD (vP (pVar 0)) (lD (vP (pR (rOp fIx (pVar 8) (pR (rNeg (pC (.int 1))))))) lNil)))) lNil))) lNil)))))))) (sDrop (oV (vMut 6 fApp (aCons (vO (oOp fIx (vP (pVar 8)) (vO (oCall 2 m_picked (lD (vO (oComp lof [10] (gN 10) tYesM e_picked_beasts_1 (vP (pVar 8)))) (lD (vP (pR (rOp fIx (pVar 9) (pC (.int 1))))) lNil)))))) aNil)))))) g
def m_picked_beasts : List OD → FOut := fnM [true, true, true, true, true] 6 (sSeq (sAsg 5 (oV (vO (oCall 5 m_pen (lD (vP (pVar 0)) (lD (vP (pVar 1)) (lD (vP (pVar 2)) (lD (vP (pVar 3)) (lD (vP (pVar 4)) lNil))))))))) (sSeq (sAsg 6 (oLst aNil)) (sSeq (sForC [7, 8, 9] (gN 7) (aCons (vP (pC (.int 0))) (aCons (vP (pR (rOp fAdd (pR (rOp fSub (pR (rCa fLen (waCons (pVar 5) waNil))) (pC c_TEN))) (pC (.int 1))))) (aCons (vP (pC c_TEN)) aNil))) b_picked_beasts_2) (sRet (oMov 6)))))
def b__law_bag_1 (g : Gm) : SOut := (sAsg 2 (oV (vP (pR (rOp fMod (pR (rOp fAdd (pR (rOp fMul (pVar 2) (pC (.int 1543)))) (pVar 3))) (pC (.int 2147483629))))))) g
def m__law_bag : List OD → FOut := fnM [true] 3 (sSeq (sAsg 1 (oV (vO (oCa fList (aCons (vO (oSlS 0 63)) aNil))))) (sSeq (sAsg 2 (oV (vP (pR (rOp fAdd (pC (.int 17)) (pR (rCa fLen (waCons (pVar 1) waNil)))))))) (sSeq (sFor lof [3] (gN 3) (vP (pVar 1)) b__law_bag_1) (sRet (oLst (aCons (vP (pVar 1)) (aCons (vP (pC (.int 0))) (aCons (vP (pC (.int 0))) (aCons (vP (pVar 2)) aNil)))))))))
def r__law_pull_1 (g : Gm) : SOut := (sSeq (sIf (tOrM (tV (vP (pR (rOp fGt (pR (rOp fIx (wVar 0) (pC (.int 1)))) (pR (rCa fLen (waCons (pR (rOp fIx (wVar 0) (pC (.int 0)))) waNil))))))) (tV (vP (pR (rOp fLt (pVar 3) (pR (rOp fPow (pC (.int 10)) (pC (.int 18))))))))) (sSeq (sAsg 4 (oV (vP (pR (rOp fMod (pR (rOp fAdd (pR (rOp fAdd (pR (rOp fMul (pVar 3) (pC (.int 48271)))) (pR (rOp fMul (pR (rOp fIx (wVar 0) (pC (.int 1)))) (pC (.int 40692)))))) (pR (rOp fIx (wVar 0) (pC (.int 3)))))) (pC (.int 2147483647))))))) (sSeq (sAsg 5 (oV (vP (pR (rOp fMod (pR (rOp fAdd (pR (rOp fMul (pVar 4) (pVar 4))) (pR (rOp fIx (wVar 0) (pC (.int 1)))))) (pC (.int 998244353))))))) (sRet (oR (rOp fMod (pR (rOp fFdiv (pR (rOp fMod (pR (rOp fAdd (pR (rOp fMul (pVar 5) (pC (.int 69621)))) (pVar 4))) (pC (.int 2147483629)))) (pC (.int 7)))) (pVar 1)))))) sNx) (sSet 0 (vP (pC (.int 2))) (vP (pVar 3)))) g
def r__law_pull_2 (g : Gm) : SOut := (sSeq (sAsg 2 (oV (vP (pR (rOp fMod (pR (rOp fIx (wVar 0) (pC (.int 2)))) (pVar 1)))))) (sSeq (sSet 0 (vP (pC (.int 2))) (vP (pR (rOp fFdiv (pR (rOp fIx (wVar 0) (pC (.int 2)))) (pVar 1))))) (sRet (oV (vP (pVar 2)))))) g
def m__law_pull : List OD → FOut := fnM [true, true] 4 (sSeq (sIf (tV (vP (pR (rOp fLt (pR (rOp fIx (wVar 0) (pC (.int 2)))) (pC (.int 2)))))) (sSeq (sSet 0 (vP (pC (.int 1))) (vP (pR (rOp fAdd (pR (rOp fIx (wVar 0) (pC (.int 1)))) (pC (.int 1)))))) (sSeq (sAsg 3 (oV (vP (pR (rOp fAdd (pR (rOp fIx (wVar 0) (pC (.int 3)))) (pR (rOp fMul (pR (rOp fIx (wVar 0) (pC (.int 1)))) (pC (.int 7919))))))))) (sSeq (sIf (tV (vP (pR (rOp fLe (pR (rOp fIx (wVar 0) (pC (.int 1)))) (pR (rCa fLen (waCons (pR (rOp fIx (wVar 0) (pC (.int 0)))) waNil))))))) (sAsg 3 (oV (vP (pR (rOp fIx (pR (rOp fIx (wVar 0) (pC (.int 0)))) (pR (rOp fSub (pR (rOp fIx (wVar 0) (pC (.int 1)))) (pC (.int 1))))))))) sNx) r__law_pull_1))) sNx) r__law_pull_2)
def b_law_1 (g : Gm) : SOut := (sSeq (sAsg 10 (oV (vO (oCall 2 m__law_pull (lL 1 (lD (vO (oOp fIx (vO (oLst (aCons (vP (pC (.int 4))) (aCons (vP (pC (.int 1001))) aNil)))) (vO (oCall 2 m__law_pull (lL 1 (lD (vP (pC (.int 2))) lNil)))))) lNil)))))) (sDrop (oV (vMut 2 fApp (aCons (vO (oTup (aCons (vP (pC (.str "born"))) (aCons (vP (pC (.int 1))) (aCons (vP (pC (.int 1))) (aCons (vO (oCall 2 m__law_pull (lL 1 (lD (vP (pC (.int 300))) lNil)))) (aCons (vO (oOp fAdd (vP (pC (.int 1))) (vO (oCall 2 m__law_pull (lL 1 (lD (vP (pC (.int 60))) lNil)))))) (aCons (vP (pVar 10)) aNil)))))))) aNil))))) g
def e_law_2 (g : Gm) : Out PyData := (vO (oTup (aCons (vP (pR (rOp fAdd (pVar 11) (pC (.int 1))))) (aCons (vP (pR (rOp fIx (wVar 2) (pVar 11)))) aNil)))) g
def b_law_3 (g : Gm) : SOut := (sIf (tV (vO (oOp fNotInL (vP (pR (rOp fIx (pVar 8) (pVar 9)))) (vO (oSl (vP (pVar 7)) (nSome (vP (pR (rOp fMul (pC (.int 10)) (pVar 9))))) (nSome (vP (pR (rOp fAdd (pR (rOp fMul (pC (.int 10)) (pVar 9))) (pC (.int 10))))))))))) (sRet (oV (vP (pC (.bool false))))) sNx) g
def r_law_4 (g : Gm) : SOut := cIf True ((sSeq (sForR [9] (gN 9) (aCons (vP (pR (rCa fLen (waCons (pVar 8) waNil)))) aNil) b_law_3) (sRet (oV (vAnd (vO (oOp fEq (vO (oCall 5 m_pen (lApp (lD (vP (pR (rCa fList (waCons (wVar 4) waNil)))) (lD (vP (pC (.int 2))) (lD (vP (pC (.int 1))) (lD (vP (pC (.int 1))) lNil)))) [.int 3999]))) (vO (oLst aNil)))) (vO (oOp fEq (vO (oCall 5 m_picked_beasts (lApp (lD (vP (pR (rCa fList (waCons (wVar 4) waNil)))) (lD (vP (pC (.int 1))) (lD (vP (pC (.int 1))) (lD (vP (pC (.int 2))) lNil)))) [.int 3999]))) (vO (oLst aNil)))))))) g) .stk
def r_law_5 (g : Gm) : SOut := cIf True ((sSeq (sIf (tOrM (tV (vO (oOp fNe (vO (oSl (vP (pVar 8)) nNone (nSome (vP (pR (rCa fLen (waCons (pVar 6) waNil))))))) (vP (pVar 6))))) (tOrM (tV (vP (pR (rOp fNe (pR (rCa fLen (waCons (pVar 8) waNil))) (pR (rOp fFdiv (pR (rCa fLen (waCons (pVar 7) waNil))) (pC (.int 10)))))))) (tV (vP (pR (rOp fNe (pR (rCa fLen (waCons (pVar 6) waNil))) (pR (rOp fFdiv (pR (rCa fLen (waCons (pVar 5) waNil))) (pC (.int 10)))))))))) (sRet (oV (vP (pC (.bool false))))) sNx) r_law_4) g) .stk
def r_law_6 (g : Gm) : SOut := cIf True ((sSeq (sAsg 7 (oV (vO (oCall 5 m_pen (lApp (lD (vP (pR (rCa fList (waCons (wVar 4) waNil)))) (lD (vP (pC (.int 1))) (lD (vP (pC (.int 1))) (lD (vP (pC (.int 1))) lNil)))) [.int 3999]))))) (sSeq (sAsg 8 (oV (vO (oCall 5 m_picked_beasts (lApp (lD (vP (pR (rCa fList (waCons (wVar 4) waNil)))) (lD (vP (pC (.int 1))) (lD (vP (pC (.int 1))) (lD (vP (pC (.int 1))) lNil)))) [.int 3999]))))) (sSeq (sIf (tOrM (tV (vO (oOp fNe (vP (pR (rCa fSorted (waCons (pVar 5) waNil)))) (vO (oLR2 (vP (pC (.int 4))) (vP (pR (rCa fLen (waCons (wVar 4) waNil))))))))) (tV (vO (oOp fNe (vP (pVar 7)) (vO (oOp fAdd (vP (pVar 5)) (vO (oLst (aCons (vP (pR (rCa fLen (waCons (wVar 4) waNil)))) aNil))))))))) (sRet (oV (vP (pC (.bool false))))) sNx) r_law_5))) g) .stk
def r_law_7 (g : Gm) : SOut := cIf True ((sSeq (sAsg 5 (oV (vO (oCall 5 m_pen (lApp (lD (vP (pR (rCa fList (waCons (wVar 4) waNil)))) (lD (vP (pC (.int 1))) (lD (vP (pC (.int 1))) (lD (vP (pC (.int 1))) lNil)))) [.int 3999]))))) (sSeq (sAsg 6 (oV (vO (oCall 5 m_picked_beasts (lApp (lD (vP (pR (rCa fList (waCons (wVar 4) waNil)))) (lD (vP (pC (.int 1))) (lD (vP (pC (.int 1))) (lD (vP (pC (.int 1))) lNil)))) [.int 3999]))))) (sSeq (sDrop (oV (vMut 4 fApp (aCons (vO (oTup (aCons (vP (pR (rOp fAdd (pR (rCa fLen (waCons (wVar 4) waNil))) (pC (.int 1))))) (aCons (vO (oTup (aCons (vP (pC (.str "born"))) (aCons (vP (pC (.int 1))) (aCons (vP (pC (.int 1))) (aCons (vO (oOp fAdd (vP (pC (.int 400))) (vO (oCall 2 m__law_pull (lL 1 (lD (vP (pC (.int 900))) lNil)))))) (aCons (vP (pC (.int 1))) (aCons (vP (pC (.int 1000))) aNil)))))))) aNil)))) aNil)))) (sFrz 4 r_law_6)))) g) .stk
def r_law_8 (g : Gm) : SOut := cIf True ((sSeq (sAsg 4 (oCompR [11] (gN 11) tYesM e_law_2 (aCons (vP (pR (rCa fLen (waCons (wVar 2) waNil)))) aNil))) r_law_7) g) .stk
def m_law : List OD → FOut := fnM [true] 11 (sSeq (sAsg 1 (oCall 1 m__law_bag (lL 0 lNil))) (sSeq (sAsg 2 (oLst (aCons (vO (oTup (aCons (vP (pC (.str "lies"))) (aCons (vP (pC (.int 1))) (aCons (vP (pC (.int 1))) (aCons (vP (pC (.int 0))) aNil)))))) (aCons (vO (oTup (aCons (vP (pC (.str "held"))) (aCons (vP (pC (.int 1))) (aCons (vP (pC (.int 1))) (aCons (vP (pC (.int 0))) aNil)))))) (aCons (vO (oTup (aCons (vP (pC (.str "custom"))) (aCons (vP (pC (.int 1))) (aCons (vP (pC (.int 1))) (aCons (vP (pC (.int 0))) (aCons (vO (oTup (aCons (vP (pC (.str "kind"))) (aCons (vO (oCall 2 m__law_pull (lL 1 (lD (vP (pC (.int 10))) lNil)))) aNil)))) aNil))))))) aNil))))) (sSeq (sForR [3, 10] (gN 3) (aCons (vO (oOp fIx (vO (oLst (aCons (vP (pC (.int 9))) (aCons (vP (pC (.int 19))) (aCons (vP (pC (.int 29))) (aCons (vP (pC (.int 39))) aNil)))))) (vO (oCall 2 m__law_pull (lL 1 (lD (vP (pC (.int 4))) lNil)))))) aNil) b_law_1) (sFrz 2 r_law_8))))
end
end VL
namespace VL
open PySem L2
local macro_rules | `(tactic| simp! [$ls,*]) => `(tactic| simp only [fnM, cIf_true, cIf_false, ini, ini1, finA, sSeq, sbind_nx, sbind_rt, sbind_br, sbind_ct, sbind_err, sIf, sAsg, sRet, sRetN, sDrop, sPar, sSet, sUnp, sAug, sNx, sErr, sTry, caught, noE, oV, vP, vO, oR, pR, rP, up_ok, obind_ok, obind_err, oof_some, rbind_ok, rof_some, rOp, oOp, rCa, oCa, pVar_eq, pSl_v, pSl_pin, wVar_eq, wSl_v, wSl_vl, wSl_pin, wSl_pl, pC, gt, st, Sl.od, Sl.with, frz_dat, frz_lst, aNil, aCons, waNil, waCons, tV, tst_b, tAndM, tOrM, tNotM, vAnd, vOr, vNot, vIf, vIs, oTup, oLst, fAdd_i, fAdd_l, fAdd_t, fSub_i, fMul_i, fFdiv_i, fMod_i, fPow9, fPow18, fPow29, fLt_i, fLe_i, fGt_i, fGe_i, fEq_int, fNe_int, fEq_bool, fNe_bool, tYesM, cEnd, rst, fIsN_n, fNotN_n, isNone_n, isNone_i, isNone_b, isNone_s, isNone_l, isNone_t, fIx_l, fIx_t, fLen_l, fLen_t, fAbs_i, fMax2_i, fMin2_i, fInt_i, fInt_b, fList_l, fList_t, fTuple_l, fTuple_t, oi, ob, od_some, oCall, lNil, lD, lL, osOf, lends, putA, gN, gT, gL, gsNil, gsCons, kl, lp, sFor, lof, tof, vMut, vFrz, oMov, oSl, nNone, nSome, fSl, vChain, sFrz, frz1, fApp, is_int_int, is_int_bool, is_bool_bool, is_bool_int, is_tup_tup, is_tup_none, is_int_none, is_bool_none, is_int_tup, is_bool_tup, is_int_str, is_int_list, is_list_list, is_list_tup, is_tup_list, is_tup_int, is_str_str, is_str_int, is_str_none, atI_0, atI_1, atI_2, atI_3, atI_4, atI_5, atI_6, atI_7, ixN_1_0, ixN_2_0, ixN_2_1, ixN_3_0, ixN_3_1, ixN_3_2, ixN_4_0, ixN_4_1, ixN_4_2, ixN_4_3, ixN_5_0, ixN_5_1, ixN_5_2, ixN_5_3, ixN_5_4, ixN_6_0, ixN_6_1, ixN_6_2, ixN_6_3, ixN_6_4, ixN_6_5, ixN_7_0, ixN_7_1, ixN_7_2, ixN_7_3, ixN_7_4, ixN_7_5, ixN_7_6, Nat.reduceAdd, Nat.reduceLeDiff, Nat.reduceLT, Nat.reduceEqDiff, Int.reduceLT, Int.reduceLE, Int.reduceAdd, Int.reduceSub, Int.reduceNeg, Int.reduceEq, Int.cast_ofNat_Int, Nat.cast_zero_i, Nat.cast_one_i, List.length_cons, List.length_nil, List.zipWith, List.replicate, List.cons_append, List.nil_append, List.map_cons, List.map_nil, List.getElem?_cons_zero, List.getElem?_cons_succ, List.getElem?_nil, Option.map, Option.bind, Option.map_some, Option.bind_some, List.set_cons_zero, List.set_cons_succ, List.set_nil, if_true, if_false, ite_true, ite_false, decide_true, decide_false, decide_eq_true_eq, decide_eq_false_iff_not, Bool.false_eq_true, Bool.true_eq_false, Bool.not_true, Bool.not_false, Bool.and_true, Bool.true_and, Bool.and_false, Bool.false_and, Bool.or_true, Bool.or_false, Bool.not_eq_true', Bool.not_eq_true, Bool.decide_coe, and_self, and_true, true_and, and_false, false_and, not_true_eq_false, not_false_eq_true, reduceCtorEq, zl, List.nodup_nil_t, nodup_one, Bool.not_not, decide_not, sForR_ok, oCompR_ok, sForC_ok, oCompC_ok, oComp, asE, vIsE, oCallT, frzAll, scal, List.isEmpty_nil, vOrT, tru_n, tru_i, tru_b, tru_t, tru_l, List.isEmpty_cons, oCompW, rNeg, vDGetK, vDIxK, vDInK, vDNotInK, sDPutK, oDNewK, oSortDK, keyOf, oLR2, $ls,*])
local macro_rules | `(tactic| simp! only [$ls,*]) => `(tactic| simp only [fnM, cIf_true, cIf_false, ini, ini1, finA, sSeq, sbind_nx, sbind_rt, sbind_br, sbind_ct, sbind_err, sIf, sAsg, sRet, sRetN, sDrop, sPar, sSet, sUnp, sAug, sNx, sErr, sTry, caught, noE, oV, vP, vO, oR, pR, rP, up_ok, obind_ok, obind_err, oof_some, rbind_ok, rof_some, rOp, oOp, rCa, oCa, pVar_eq, pSl_v, pSl_pin, wVar_eq, wSl_v, wSl_vl, wSl_pin, wSl_pl, pC, gt, st, Sl.od, Sl.with, frz_dat, frz_lst, aNil, aCons, waNil, waCons, tV, tst_b, tAndM, tOrM, tNotM, vAnd, vOr, vNot, vIf, vIs, oTup, oLst, fAdd_i, fAdd_l, fAdd_t, fSub_i, fMul_i, fFdiv_i, fMod_i, fPow9, fPow18, fPow29, fLt_i, fLe_i, fGt_i, fGe_i, fEq_int, fNe_int, fEq_bool, fNe_bool, tYesM, cEnd, rst, fIsN_n, fNotN_n, isNone_n, isNone_i, isNone_b, isNone_s, isNone_l, isNone_t, fIx_l, fIx_t, fLen_l, fLen_t, fAbs_i, fMax2_i, fMin2_i, fInt_i, fInt_b, fList_l, fList_t, fTuple_l, fTuple_t, oi, ob, od_some, oCall, lNil, lD, lL, osOf, lends, putA, gN, gT, gL, gsNil, gsCons, kl, lp, sFor, sForR, lof, tof, vMut, vFrz, oMov, oSl, nNone, nSome, fSl, vChain, sFrz, frz1, fApp, is_int_int, is_int_bool, is_bool_bool, is_bool_int, is_tup_tup, is_tup_none, is_int_none, is_bool_none, is_int_tup, is_bool_tup, is_int_str, is_int_list, is_list_list, is_list_tup, is_tup_list, is_tup_int, is_str_str, is_str_int, is_str_none, atI_0, atI_1, atI_2, atI_3, atI_4, atI_5, atI_6, atI_7, ixN_1_0, ixN_2_0, ixN_2_1, ixN_3_0, ixN_3_1, ixN_3_2, ixN_4_0, ixN_4_1, ixN_4_2, ixN_4_3, ixN_5_0, ixN_5_1, ixN_5_2, ixN_5_3, ixN_5_4, ixN_6_0, ixN_6_1, ixN_6_2, ixN_6_3, ixN_6_4, ixN_6_5, ixN_7_0, ixN_7_1, ixN_7_2, ixN_7_3, ixN_7_4, ixN_7_5, ixN_7_6, Nat.reduceAdd, Nat.reduceLeDiff, Nat.reduceLT, Nat.reduceEqDiff, Int.reduceLT, Int.reduceLE, Int.reduceAdd, Int.reduceSub, Int.reduceNeg, Int.reduceEq, Int.cast_ofNat_Int, Nat.cast_zero_i, Nat.cast_one_i, List.length_cons, List.length_nil, List.zipWith, List.replicate, List.cons_append, List.nil_append, List.map_cons, List.map_nil, List.getElem?_cons_zero, List.getElem?_cons_succ, List.getElem?_nil, Option.map, Option.bind, Option.map_some, Option.bind_some, List.set_cons_zero, List.set_cons_succ, List.set_nil, if_true, if_false, ite_true, ite_false, decide_true, decide_false, decide_eq_true_eq, decide_eq_false_iff_not, Bool.false_eq_true, Bool.true_eq_false, Bool.not_true, Bool.not_false, Bool.and_true, Bool.true_and, Bool.and_false, Bool.false_and, Bool.or_true, Bool.or_false, Bool.not_eq_true', Bool.not_eq_true, Bool.decide_coe, and_self, and_true, true_and, and_false, false_and, not_true_eq_false, not_false_eq_true, reduceCtorEq, zl, List.nodup_nil_t, nodup_one, Bool.not_not, decide_not, $ls,*])
/-! counting lines: the dicts of shares and _law_shares -/
abbrev Kk := Int × Int
def kK (k : Kk) : List Key := [.inl k.1, .inl k.2]
theorem kK_inj {a b : Kk} (h : kK a = kK b) : a = b := by
  unfold kK at h
  injection h with h1 h2
  injection h2 with h2 _
  injection h1 with h1
  injection h2 with h2
  exact Prod.ext h1 h2
abbrev Ct := List (Kk × Nat)
def cVal (C : Ct) (k : Kk) : Option Nat := (C.find? fun x => decide (x.1 = k)).map (·.2)
def cPut (C : Ct) (k : Kk) (c : Nat) : Ct := if (C.any fun x => decide (x.1 = k)) = true then C.map (fun x => if x.1 = k then (x.1, c) else x) else C ++ [(k, c)]
def cStep (C : Ct) : Option Kk → Ct
  | none => C
  | some k => cPut C k ((cVal C k).getD 0 + 1)
def cntF (lns : List (Option Kk)) : Ct := lns.foldl cStep []
def encC (v : Nat → PyData) (C : Ct) : List (List Key × PyData) := C.map fun x => (kK x.1, v x.2)
theorem valD_enc (v : Nat → PyData) (k : Kk) : ∀ C : Ct, valD (encC v C) (kK k) = (cVal C k).map v
  | [] => rfl
  | x :: C => by
    have ih := valD_enc v k C
    unfold valD cVal encC at ih ⊢
    by_cases h : x.1 = k
    · simp [h]
    · have h' : ¬ kK x.1 = kK k := fun z => h (kK_inj z)
      simp only [List.map_cons, List.find?_cons, h, h', decide_false]
      exact ih
theorem any_enc (v : Nat → PyData) (k : Kk) (C : Ct) : ((encC v C).any fun kv => decide (kv.1 = kK k)) = C.any fun x => decide (x.1 = k) := by
  unfold encC
  rw [List.any_map]
  congr 1
  funext x
  show decide (kK x.1 = kK k) = decide (x.1 = k)
  by_cases h : x.1 = k
  · simp [h]
  · have h' : ¬ kK x.1 = kK k := fun z => h (kK_inj z)
    simp [h, h']
theorem putD_enc (v : Nat → PyData) (k : Kk) (c : Nat) (C : Ct) : putD (encC v C) (kK k) (v c) = encC v (cPut C k c) := by
  unfold putD cPut
  rw [any_enc]
  by_cases h : (C.any fun x => decide (x.1 = k)) = true
  · rw [if_pos h, if_pos h]
    unfold encC
    rw [List.map_map, List.map_map]
    apply List.map_congr_left
    intro x _
    show (if kK x.1 = kK k then (kK x.1, v c) else (kK x.1, v x.2)) = (kK (if x.1 = k then (x.1, c) else x).1, v (if x.1 = k then (x.1, c) else x).2)
    by_cases e : x.1 = k
    · rw [if_pos (by rw [e]), if_pos e]
    · rw [if_neg (fun z => e (kK_inj z)), if_neg e]
  · rw [if_neg h, if_neg h]
    unfold encC
    rw [List.map_append]
    rfl
theorem cVal_put (k j : Kk) (c : Nat) (C : Ct) : cVal (cPut C k c) j = if j = k then some c else cVal C j := by
  unfold cPut
  by_cases h : (C.any fun x => decide (x.1 = k)) = true
  · rw [if_pos h]
    induction C with
    | nil => simp at h
    | cons x C ih =>
      by_cases e : x.1 = k
      · by_cases ej : j = k
        · subst ej
          simp [cVal, e]
        · have e2 : ¬ k = j := fun z => ej z.symm
          by_cases h2 : (C.any fun x => decide (x.1 = k)) = true
          · have := ih h2
            simp only [cVal, List.map_cons, e, if_true, List.find?_cons, e2, decide_false] at this ⊢
            exact this
          · have hm : (C.map fun x => if x.1 = k then (x.1, c) else x) = C := by
              conv => rhs; rw [← List.map_id C]
              apply List.map_congr_left
              intro y hy
              have : ¬ y.1 = k := fun z => h2 (List.any_eq_true.mpr ⟨y, hy, decide_eq_true z⟩)
              simp [this]
            simp only [List.map_cons, hm, if_neg ej]
            simp [cVal, e, e2]
      · have h2 : (C.any fun x => decide (x.1 = k)) = true := by simpa [e] using h
        have := ih h2
        by_cases ej : x.1 = j
        · have : ¬ j = k := fun z => e (ej.trans z)
          simp [cVal, e, ej, this]
        · simp only [cVal, List.map_cons, e, if_false, List.find?_cons, ej, decide_false] at this ⊢
          exact this
  · rw [if_neg h]
    by_cases ej : j = k
    · subst ej
      have hn : C.find? (fun x => decide (x.1 = j)) = none := by
        rw [List.find?_eq_none]
        intro x hx z
        exact h (List.any_eq_true.mpr ⟨x, hx, z⟩)
      simp [cVal, List.find?_append, hn]
    · have e2 : ¬ k = j := fun z => ej z.symm
      simp [cVal, List.find?_append, e2, ej]
/-- how often -/
def occ (k : Kk) (lns : List (Option Kk)) : Nat := lns.countP fun x => decide (x = some k)
theorem cnt_fold (k : Kk) : ∀ (lns : List (Option Kk)) (C : Ct), (cVal (lns.foldl cStep C) k).getD 0 = (cVal C k).getD 0 + occ k lns
  | [], C => by simp [occ]
  | none :: lns, C => by
    rw [List.foldl_cons]
    have := cnt_fold k lns C
    simpa [cStep, occ] using this
  | some j :: lns, C => by
    rw [List.foldl_cons, cnt_fold k lns]
    simp only [cStep, cVal_put]
    by_cases h : k = j
    · subst h
      simp [occ]
      omega
    · have h' : ¬ j = k := fun z => h z.symm
      simp [h, occ, h']
theorem cnt_val (k : Kk) (lns : List (Option Kk)) : (cVal (cntF lns) k).getD 0 = occ k lns := by
  have := cnt_fold k lns []
  simpa [cntF, cVal] using this
theorem cVal_mem {C : Ct} {k : Kk} (h : k ∈ C.map (·.1)) : ∃ c, cVal C k = some c := by
  obtain ⟨x, hx, rfl⟩ := List.mem_map.mp h
  unfold cVal
  cases e : C.find? fun y => decide (y.1 = x.1) with
  | none =>
    have := List.find?_eq_none.mp e x hx
    simp at this
  | some y => exact ⟨y.2, rfl⟩
-- needs: 
theorem gcd_le' {a b : Int} (hb : 1 ≤ b) : 0 < (Int.gcd a b : Int) ∧ (Int.gcd a b : Int) ≤ b := by
  have h := Int.gcd_le_right a (show 0 < b by omega)
  have h2 := Int.gcd_pos_of_ne_zero_right a (show b ≠ 0 by omega)
  omega
theorem log_mono {a b : Nat} (h : a ≤ b) (hb : b.log2 < 9000) : a.log2 < 9000 := by
  apply log_lt _ (by decide)
  by_cases z : b = 0
  · subst z
    have : a = 0 := by omega
    subst this
    exact Nat.two_pow_pos 9000
  · have : b < 2 ^ (b.log2 + 1) := Nat.lt_log2_self
    exact Nat.lt_of_le_of_lt h (Nat.lt_of_lt_of_le this (Nat.pow_le_pow_right (by decide) hb))
-- needs: x_gcd0
theorem gcd_div {a b : Int} (ha : 0 ≤ a) (hb : 1 ≤ b) : 0 ≤ a / Int.gcd a b ∧ 1 ≤ b / Int.gcd a b ∧ Int.gcd (a / Int.gcd a b) (b / Int.gcd a b) = 1 ∧ a / Int.gcd a b * b = a * (b / Int.gcd a b) ∧ a / Int.gcd a b ≤ a ∧ b / Int.gcd a b ≤ b := by
  obtain ⟨g1, g2⟩ := gcd_le' (a := a) hb
  have da := Int.gcd_dvd_left a b
  have db := Int.gcd_dvd_right a b
  generalize hg : (Int.gcd a b : Int) = g at *
  obtain ⟨x, hx⟩ := da
  obtain ⟨y, hy⟩ := db
  have ex : a / g = x := by rw [hx]; exact Int.mul_ediv_cancel_left x (by omega)
  have ey : b / g = y := by rw [hy]; exact Int.mul_ediv_cancel_left y (by omega)
  have c : Int.gcd (a / g) (b / g) = 1 := by
    rw [← hg, Int.gcd_ediv (Int.gcd_dvd_left a b) (Int.gcd_dvd_right a b)]
    have : (Int.gcd a b : Int).natAbs = Int.gcd a b := Int.natAbs_natCast _
    rw [this]
    exact Nat.div_self (by omega)
  refine ⟨Int.ediv_nonneg ha (by omega), ?_, c, ?_, Int.ediv_le_self g ha, Int.ediv_le_self g (by omega)⟩
  · rw [ey]
    have : 0 < y := by
      rcases Int.lt_trichotomy y 0 with h | h | h
      · have := Int.mul_neg_of_pos_of_neg g1 h
        omega
      · subst h
        simp at hy
        omega
      · exact h
    omega
  · rw [ex, ey, hx, hy]
    simp only [Int.mul_comm, Int.mul_left_comm]
-- needs: x_gcd
theorem dvd_cop {a b c : Int} (g : Int.gcd a b = 1) (h : a ∣ b * c) : a ∣ c := by
  have h2 : a.natAbs ∣ b.natAbs * c.natAbs := by
    rw [← Int.natAbs_mul]
    exact Int.natAbs_dvd_natAbs.mpr h
  exact Int.natAbs_dvd_natAbs.mp (Nat.Coprime.dvd_of_dvd_mul_left (show Nat.Coprime a.natAbs b.natAbs from g) h2)
theorem low_uniq {x y a b : Int} (hx : 0 ≤ x) (hy : 1 ≤ y) (hb : 1 ≤ b) (g : Int.gcd a b = 1) (e : x * b = a * y) : x / Int.gcd x y = a ∧ y / Int.gcd x y = b := by
  obtain ⟨d1, d2, d3, d4, d5, d6⟩ := gcd_div hx hy
  obtain ⟨g1, g2⟩ := gcd_le' (a := x) hy
  have da := Int.mul_ediv_cancel' (Int.gcd_dvd_left x y)
  have db := Int.mul_ediv_cancel' (Int.gcd_dvd_right x y)
  generalize (Int.gcd x y : Int) = q at *
  generalize x / q = u at *
  generalize y / q = v at *
  have e2 : u * b = a * v := by
    have : q * (u * b) = q * (a * v) := by grind
    exact Int.eq_of_mul_eq_mul_left (by omega) this
  have h1 : v ∣ b := dvd_cop (a := v) (b := u) (by rw [Int.gcd_comm]; exact d3) ⟨a, by grind⟩
  have h2 : b ∣ v := dvd_cop (a := b) (b := a) (by rw [Int.gcd_comm]; exact g) ⟨u, by grind⟩
  have h3 : v = b := Int.dvd_antisymm (by omega) (by omega) h1 h2
  subst h3
  refine ⟨?_, rfl⟩
  exact Int.eq_of_mul_eq_mul_right (by omega) e2
/-- a part of at most n bits -/
structure Pt (n : Nat) (a b : Int) : Prop where
  a0 : 0 ≤ a
  b1 : 1 ≤ b
  an : a ≤ 2 ^ n
  bn : b ≤ 2 ^ n
  g : Int.gcd a b = 1
theorem two_pow_mono {n m : Nat} (h : n ≤ m) : (2 : Int) ^ n ≤ 2 ^ m := by
  have := Nat.pow_le_pow_right (n := 2) (by decide) h
  exact_mod_cast this
theorem sm_of {n : Nat} {a : Int} (h0 : 0 ≤ a) (h : a ≤ 2 ^ n) (hn : n ≤ 8000) : Sm a := by
  refine Sm.of (n := n) (by have := Int.natCast_nonneg (2 ^ n : Nat); omega) ?_ hn
  have e : ((2 ^ n : Nat) : Int) = 2 ^ n := by
    rw [Int.natCast_pow]
    rfl
  rw [e]
  exact h
theorem Pt.sa {n : Nat} {a b : Int} (h : Pt n a b) (hn : n ≤ 8000) : Sm a := sm_of h.a0 h.an hn
theorem Pt.sb {n : Nat} {a b : Int} (h : Pt n a b) (hn : n ≤ 8000) : Sm b := sm_of (by have := h.b1; omega) h.bn hn
theorem pw_mul {n m : Nat} {a b : Int} (h0 : 0 ≤ a) (h1 : a ≤ 2 ^ n) (h2 : 0 ≤ b) (h3 : b ≤ 2 ^ m) : 0 ≤ a * b ∧ a * b ≤ 2 ^ (n + m) := by
  refine ⟨Int.mul_nonneg h0 h2, ?_⟩
  rw [Int.pow_add]
  exact Int.mul_le_mul h1 h3 h2 (Int.le_trans h0 h1)
theorem pw_add {n : Nat} {a b : Int} (h1 : a ≤ 2 ^ n) (h2 : b ≤ 2 ^ n) : a + b ≤ 2 ^ (n + 1) := by
  rw [Int.pow_succ]
  omega
theorem low_pt {n : Nat} {x y : Int} (hx : 0 ≤ x) (hy : 1 ≤ y) (xn : x ≤ 2 ^ n) (yn : y ≤ 2 ^ n) : Pt n (x / Int.gcd x y) (y / Int.gcd x y) := by
  obtain ⟨d1, d2, d3, d4, d5, d6⟩ := gcd_div hx hy
  exact ⟨d1, d2, by omega, by omega, d3⟩
abbrev pp (a b : Int) : PyData := .tuple [.int a, .int b]
theorem Pt.mul {n m : Nat} {a b c d : Int} (h : Pt n a b) (h' : Pt m c d) (hn : n ≤ 8000) (hm : m ≤ 8000) : mulOk a d = true ∧ mulOk c b = true ∧ mulOk b d = true ∧ mulOk a c = true := ⟨(h.sa hn).mul (h'.sb hm), (h'.sa hm).mul (h.sb hn), (h.sb hn).mul (h'.sb hm), (h.sa hn).mul (h'.sa hm)⟩
theorem plus_pt {n m : Nat} {a b c d : Int} (h : Pt n a b) (h' : Pt m c d) : 0 ≤ a * d + c * b ∧ 1 ≤ b * d ∧ a * d + c * b ≤ 2 ^ (n + m + 1) ∧ b * d ≤ 2 ^ (n + m + 1) := by
  have hb := h.b1
  have hd := h'.b1
  have p1 := pw_mul h.a0 h.an (by omega) h'.bn
  have p2 := pw_mul h'.a0 h'.an (by omega) h.bn
  have p3 := pw_mul (by omega) h.bn (by omega) h'.bn
  rw [Nat.add_comm m n] at p2
  have p4 := pw_add p1.2 p2.2
  have p5 := two_pow_mono (show n + m ≤ n + m + 1 by omega)
  have p6 : 0 < b * d := Int.mul_pos (by omega) (by omega)
  omega
-- needs: x_parts
def lowA (c n : Int) : Int := c / Int.gcd c n
def lowB (c n : Int) : Int := n / Int.gcd c n
theorem low_step {c n : Int} (hc : 0 ≤ c) (hn : 1 ≤ n) : (lowA c n * n + 1 * lowB c n) / Int.gcd (lowA c n * n + 1 * lowB c n) (lowB c n * n) = lowA (c + 1) n ∧ lowB c n * n / Int.gcd (lowA c n * n + 1 * lowB c n) (lowB c n * n) = lowB (c + 1) n := by
  obtain ⟨a1, a2, a3, a4, a5, a6⟩ := gcd_div (a := c) (b := n) hc hn
  obtain ⟨b1, b2, b3, b4, b5, b6⟩ := gcd_div (a := c + 1) (b := n) (by omega) hn
  have a4 : lowA c n * n = c * lowB c n := a4
  have b4 : lowA (c + 1) n * n = (c + 1) * lowB (c + 1) n := b4
  have a1 : 0 ≤ lowA c n := a1
  have a2 : 1 ≤ lowB c n := a2
  have b2 : 1 ≤ lowB (c + 1) n := b2
  have b3 : Int.gcd (lowA (c + 1) n) (lowB (c + 1) n) = 1 := b3
  have h1 : 0 ≤ lowA c n * n := Int.mul_nonneg a1 (by omega)
  have h2 : 0 < lowB c n * n := Int.mul_pos (by omega) (by omega)
  refine low_uniq (x := lowA c n * n + 1 * lowB c n) (y := lowB c n * n) (by omega) (by omega) b2 b3 ?_
  have e1 : lowA c n * n + 1 * lowB c n = (c + 1) * lowB c n := by
    rw [a4, Int.add_mul]
  rw [e1]
  calc (c + 1) * lowB c n * lowB (c + 1) n = lowB c n * ((c + 1) * lowB (c + 1) n) := by
        rw [Int.mul_comm (c + 1), Int.mul_assoc]
    _ = lowB c n * (lowA (c + 1) n * n) := by rw [b4]
    _ = lowA (c + 1) n * (lowB c n * n) := by
        rw [← Int.mul_assoc, ← Int.mul_assoc, Int.mul_comm (lowB c n)]
theorem low_zero {n : Int} (hn : 1 ≤ n) : lowA 0 n = 0 ∧ lowB 0 n = 1 := by
  unfold lowA lowB
  have e : (Int.gcd 0 n : Int) = n := by
    rw [Int.gcd_zero_left]
    omega
  rw [e]
  exact ⟨Int.zero_ediv _, Int.ediv_self (by omega)⟩
theorem low_one (n : Int) : lowA 1 n = 1 ∧ lowB 1 n = n := by
  unfold lowA lowB
  have e : Int.gcd 1 n = 1 := Int.one_gcd
  rw [e]
  simp
theorem low_pt6 {c n : Int} (hc : 0 ≤ c) (hn : 1 ≤ n) (h60 : n ≤ 60) (hcn : c ≤ 60) : Pt 6 (lowA c n) (lowB c n) := low_pt hc hn (by omega) (by omega)
/-! what holds at a time: rows of number, beginning, value -/
abbrev Rw (α : Type) := Int × Int × α
def aft {α : Type} (r : Rw α) (c : Rw α) : Bool := lexGt [r.2.1, r.1] [c.2.1, c.1]
def bestG {α : Type} (w : Int) (b : Option (Rw α)) (r : Rw α) : Option (Rw α) := if r.2.1 ≤ w then (match b with
  | none => some r
  | some c => if aft r c = true then some r else b) else b
def bestOfR {α : Type} (w : Int) (l : List (Rw α)) : Option (Rw α) := l.foldl (bestG w) none
def forceG {α : Type} (w : Int) (l : List (Rw α)) : Option α := (bestOfR w l).map (·.2.2)
def oD {α : Type} (enc : α → PyData) : Option α → PyData
  | none => .none
  | some a => enc a
abbrev rwE {α : Type} (enc : α → PyData) (r : Rw α) : PyData := .tuple [.int r.1, .int r.2.1, enc r.2.2]
def bNg {α : Type} (enc : α → PyData) : Option (Rw α) → PyData
  | none => .none
  | some r => .tuple [.int r.2.1, .int r.1, enc r.2.2]
theorem fGt_t2 (a b c d : Int) : fGt (.tuple [.int a, .int b]) (.tuple [.int c, .int d]) = ob (lexGt [a, b] [c, d]) := rfl
theorem cut2 (a b c : PyData) : cutD [a, b, c] none (some 2) = [a, b] := rfl
theorem for_forceg {α : Type} (enc : α → PyData) {g0 : Sl} (l : List (Rw α)) (w : Int) : forM [3, 4, 5] (gT 3 (gsCons (gN 3) (gsCons (gN 4) (gsCons (gN 5) gsNil)))) b_in_force_1 (l.map (rwE enc)) [g0, .pin (.dat (.int w)), .v (.dat .none), .no, .no, .no] = .nx [g0, .pin (.dat (.int w)), .v (.dat (bNg enc (bestOfR w l))), .no, .no, .no] := by
  refine forM_fold (enc := rwE enc) (S := fun b => [g0, .pin (.dat (.int w)), .v (.dat (bNg enc b)), .no, .no, .no]) (f := bestG w) l none fun r _ b => ?_
  obtain ⟨n, s, v⟩ := r
  refine ⟨[g0, .pin (.dat (.int w)), .v (.dat (bNg enc b)), .v (.dat (.int n)), .v (.dat (.int s)), .v (.dat (enc v))], rfl, ?_⟩
  by_cases h : s ≤ w
  · cases b with
    | none =>
      refine ⟨?a, .inl ?e, ?k⟩
      case e =>
        simp! [b_in_force_1, h, bNg]
        rfl
      case k =>
        simp [kl, st, bestG, h, bNg]
    | some c =>
      obtain ⟨cn, cs, cv⟩ := c
      by_cases hl : lexGt [s, n] [cs, cn] = true
      · refine ⟨?a2, .inl ?e2, ?k2⟩
        case e2 =>
          simp! [b_in_force_1, h, bNg, cut2, fGt_t2, hl]
          rfl
        case k2 =>
          simp [kl, st, bestG, h, bNg, aft, hl]
      · refine ⟨?a3, .inl ?e3, ?k3⟩
        case e3 =>
          simp! [b_in_force_1, h, bNg, cut2, fGt_t2, hl]
          rfl
        case k3 =>
          simp [kl, st, bestG, h, bNg, aft, hl]
  · refine ⟨?a4, .inl ?e4, ?k4⟩
    case e4 =>
      simp! [b_in_force_1, h]
      rfl
    case k4 =>
      simp [kl, st, bestG, h]
theorem in_force_g {α : Type} (enc : α → PyData) (l : List (Rw α)) (w : Int) : m_in_force [.dat (.list (l.map (rwE enc))), .dat (.int w)] = .ok (.dat (oD enc (forceG w l))) [.dat (.list (l.map (rwE enc))), .dat (.int w)] := by
  have f := for_forceg enc (g0 := .pin (.dat (.list (l.map (rwE enc))))) l w
  unfold forceG
  cases e : bestOfR w l with
  | none =>
    rw [e] at f
    simp! [m_in_force, f, r_in_force_2, bNg, oD]
  | some r =>
    rw [e] at f
    simp! [m_in_force, f, r_in_force_2, bNg, oD]
/-- what the best row is -/
theorem aft_iff {α : Type} (r c : Rw α) : aft r c = true ↔ c.2.1 < r.2.1 ∨ (c.2.1 = r.2.1 ∧ c.1 < r.1) := by
  unfold aft lexGt lexGt lexGt
  by_cases h : r.2.1 = c.2.1
  · rw [if_pos h]
    by_cases h2 : r.1 = c.1
    · rw [if_pos h2]
      simp
      omega
    · rw [if_neg h2]
      simp
      omega
  · rw [if_neg h]
    simp
    omega
theorem best_none {α : Type} (w : Int) (l : List (Rw α)) : bestOfR w l = none ↔ ∀ x ∈ l, w < x.2.1 := by
  unfold bestOfR
  have key : ∀ (l : List (Rw α)) (b : Option (Rw α)), l.foldl (bestG w) b = none ↔ b = none ∧ ∀ x ∈ l, w < x.2.1 := by
    intro l
    induction l with
    | nil => intro b; simp
    | cons x l ih =>
      intro b
      rw [List.foldl_cons, ih]
      unfold bestG
      by_cases h : x.2.1 ≤ w
      · rw [if_pos h]
        constructor
        · rintro ⟨h1, _⟩
          cases b with
          | none => cases h1
          | some c =>
            simp only at h1
            split at h1 <;> cases h1
        · rintro ⟨_, h2⟩
          have := h2 x List.mem_cons_self
          omega
      · rw [if_neg h]
        constructor
        · rintro ⟨h1, h2⟩
          refine ⟨h1, fun y hy => ?_⟩
          cases hy with
          | head => omega
          | tail _ hy => exact h2 y hy
        · rintro ⟨h1, h2⟩
          exact ⟨h1, fun y hy => h2 y (List.mem_cons_of_mem _ hy)⟩
  have := key l none
  simpa using this
theorem best_some {α : Type} (w : Int) (l : List (Rw α)) (r : Rw α) (h : bestOfR w l = some r) : ∃ l1 l2, l = l1 ++ r :: l2 ∧ r.2.1 ≤ w ∧ (∀ x ∈ l1, x.2.1 ≤ w → aft r x = true) ∧ ∀ x ∈ l2, x.2.1 ≤ w → aft x r = false := by
  unfold bestOfR at h
  have key : ∀ (l : List (Rw α)) (b : Option (Rw α)), l.foldl (bestG w) b = some r → (b = some r ∧ ∀ x ∈ l, x.2.1 ≤ w → aft x r = false) ∨ ∃ l1 l2, l = l1 ++ r :: l2 ∧ r.2.1 ≤ w ∧ (∀ x ∈ l1, x.2.1 ≤ w → aft r x = true) ∧ (∀ c, b = some c → aft r c = true) ∧ ∀ x ∈ l2, x.2.1 ≤ w → aft x r = false := by
    intro l
    induction l with
    | nil => intro b hb; exact .inl ⟨hb, fun x hx => by cases hx⟩
    | cons x l ih =>
      intro b hb
      rw [List.foldl_cons] at hb
      rcases ih _ hb with ⟨h1, h2⟩ | ⟨l1, l2, e, h1, h2, h3, h4⟩
      · unfold bestG at h1
        by_cases hx : x.2.1 ≤ w
        · rw [if_pos hx] at h1
          cases b with
          | none =>
            cases h1
            exact .inr ⟨[], l, rfl, hx, fun y hy => (by cases hy), fun c hc => (by cases hc), h2⟩
          | some c =>
            simp only at h1
            by_cases ha : aft x c = true
            · rw [if_pos ha] at h1
              cases h1
              exact .inr ⟨[], l, rfl, hx, fun y hy => (by cases hy), fun c' hc => (by cases hc; exact ha), h2⟩
            · rw [if_neg ha] at h1
              cases h1
              refine .inl ⟨rfl, fun y hy hw => ?_⟩
              cases hy with
              | head => simpa using ha
              | tail _ hy => exact h2 y hy hw
        · rw [if_neg hx] at h1
          refine .inl ⟨h1, fun y hy hw => ?_⟩
          cases hy with
          | head => exact absurd hw hx
          | tail _ hy => exact h2 y hy hw
      · refine .inr ⟨x :: l1, l2, by rw [e]; rfl, h1, fun y hy hw => ?_, fun c hc => ?_, h4⟩
        · cases hy with
          | head =>
            unfold bestG at h3
            rw [if_pos hw] at h3
            cases b with
            | none => exact h3 x rfl
            | some c =>
              simp only at h3
              by_cases ha : aft x c = true
              · rw [if_pos ha] at h3
                exact h3 x rfl
              · rw [if_neg ha] at h3
                have hc := h3 c rfl
                rw [aft_iff] at hc ha ⊢
                omega
          | tail _ hy => exact h2 y hy hw
        · subst hc
          unfold bestG at h3
          by_cases hx : x.2.1 ≤ w
          · rw [if_pos hx] at h3
            simp only at h3
            by_cases ha : aft x c = true
            · rw [if_pos ha] at h3
              have hc := h3 x rfl
              rw [aft_iff] at hc ha ⊢
              omega
            · rw [if_neg ha] at h3
              exact h3 c rfl
          · rw [if_neg hx] at h3
            exact h3 c rfl
  rcases key l none h with ⟨h1, _⟩ | ⟨l1, l2, e, h1, h2, h3, h4⟩
  · cases h1
  · exact ⟨l1, l2, e, h1, h2, h4⟩
-- needs: 
theorem fEq_s {a b : Str} (r : Bool) (h : (SeqAt.shaped (.str a) && (SeqAt.shaped (.str b) && (PyData.eqv (.str a) (.str b) == r))) = true) : fEq (.str a) (.str b) = some (.dat (.bool r)) := by
  simp only [Bool.and_eq_true, beq_iff_eq] at h
  unfold fEq
  rw [if_pos ⟨h.1, h.2.1⟩, h.2.2]
  rfl
theorem fw_lies : fEq (.str "lies") (.str "lies") = some (.dat (.bool true)) ∧ fEq (.str "lies") (.str "held") = some (.dat (.bool false)) ∧ fEq (.str "lies") (.str "free") = some (.dat (.bool false)) ∧ fEq (.str "lies") (.str "custom") = some (.dat (.bool false)) ∧ fEq (.str "lies") (.str "takers") = some (.dat (.bool false)) ∧ fEq (.str "lies") (.str "cut") = some (.dat (.bool false)) ∧ fEq (.str "lies") (.str "born") = some (.dat (.bool false)) ∧ fEq (.str "lies") (.str "driven") = some (.dat (.bool false)) ∧ fEq (.str "lies") (.str "pass") = some (.dat (.bool false)) ∧ fEq (.str "lies") (.str "render") = some (.dat (.bool false)) ∧ fEq (.str "lies") (.str "paid") = some (.dat (.bool false)) ∧ fEq (.str "lies") (.str "claim") = some (.dat (.bool false)) := ⟨fEq_s true (by decide +kernel), fEq_s false (by decide +kernel), fEq_s false (by decide +kernel), fEq_s false (by decide +kernel), fEq_s false (by decide +kernel), fEq_s false (by decide +kernel), fEq_s false (by decide +kernel), fEq_s false (by decide +kernel), fEq_s false (by decide +kernel), fEq_s false (by decide +kernel), fEq_s false (by decide +kernel), fEq_s false (by decide +kernel)⟩
theorem fw_held : fEq (.str "held") (.str "lies") = some (.dat (.bool false)) ∧ fEq (.str "held") (.str "held") = some (.dat (.bool true)) ∧ fEq (.str "held") (.str "free") = some (.dat (.bool false)) ∧ fEq (.str "held") (.str "custom") = some (.dat (.bool false)) ∧ fEq (.str "held") (.str "takers") = some (.dat (.bool false)) ∧ fEq (.str "held") (.str "cut") = some (.dat (.bool false)) ∧ fEq (.str "held") (.str "born") = some (.dat (.bool false)) ∧ fEq (.str "held") (.str "driven") = some (.dat (.bool false)) ∧ fEq (.str "held") (.str "pass") = some (.dat (.bool false)) ∧ fEq (.str "held") (.str "render") = some (.dat (.bool false)) ∧ fEq (.str "held") (.str "paid") = some (.dat (.bool false)) ∧ fEq (.str "held") (.str "claim") = some (.dat (.bool false)) := ⟨fEq_s false (by decide +kernel), fEq_s true (by decide +kernel), fEq_s false (by decide +kernel), fEq_s false (by decide +kernel), fEq_s false (by decide +kernel), fEq_s false (by decide +kernel), fEq_s false (by decide +kernel), fEq_s false (by decide +kernel), fEq_s false (by decide +kernel), fEq_s false (by decide +kernel), fEq_s false (by decide +kernel), fEq_s false (by decide +kernel)⟩
theorem fw_free : fEq (.str "free") (.str "lies") = some (.dat (.bool false)) ∧ fEq (.str "free") (.str "held") = some (.dat (.bool false)) ∧ fEq (.str "free") (.str "free") = some (.dat (.bool true)) ∧ fEq (.str "free") (.str "custom") = some (.dat (.bool false)) ∧ fEq (.str "free") (.str "takers") = some (.dat (.bool false)) ∧ fEq (.str "free") (.str "cut") = some (.dat (.bool false)) ∧ fEq (.str "free") (.str "born") = some (.dat (.bool false)) ∧ fEq (.str "free") (.str "driven") = some (.dat (.bool false)) ∧ fEq (.str "free") (.str "pass") = some (.dat (.bool false)) ∧ fEq (.str "free") (.str "render") = some (.dat (.bool false)) ∧ fEq (.str "free") (.str "paid") = some (.dat (.bool false)) ∧ fEq (.str "free") (.str "claim") = some (.dat (.bool false)) := ⟨fEq_s false (by decide +kernel), fEq_s false (by decide +kernel), fEq_s true (by decide +kernel), fEq_s false (by decide +kernel), fEq_s false (by decide +kernel), fEq_s false (by decide +kernel), fEq_s false (by decide +kernel), fEq_s false (by decide +kernel), fEq_s false (by decide +kernel), fEq_s false (by decide +kernel), fEq_s false (by decide +kernel), fEq_s false (by decide +kernel)⟩
theorem fw_custom : fEq (.str "custom") (.str "lies") = some (.dat (.bool false)) ∧ fEq (.str "custom") (.str "held") = some (.dat (.bool false)) ∧ fEq (.str "custom") (.str "free") = some (.dat (.bool false)) ∧ fEq (.str "custom") (.str "custom") = some (.dat (.bool true)) ∧ fEq (.str "custom") (.str "takers") = some (.dat (.bool false)) ∧ fEq (.str "custom") (.str "cut") = some (.dat (.bool false)) ∧ fEq (.str "custom") (.str "born") = some (.dat (.bool false)) ∧ fEq (.str "custom") (.str "driven") = some (.dat (.bool false)) ∧ fEq (.str "custom") (.str "pass") = some (.dat (.bool false)) ∧ fEq (.str "custom") (.str "render") = some (.dat (.bool false)) ∧ fEq (.str "custom") (.str "paid") = some (.dat (.bool false)) ∧ fEq (.str "custom") (.str "claim") = some (.dat (.bool false)) := ⟨fEq_s false (by decide +kernel), fEq_s false (by decide +kernel), fEq_s false (by decide +kernel), fEq_s true (by decide +kernel), fEq_s false (by decide +kernel), fEq_s false (by decide +kernel), fEq_s false (by decide +kernel), fEq_s false (by decide +kernel), fEq_s false (by decide +kernel), fEq_s false (by decide +kernel), fEq_s false (by decide +kernel), fEq_s false (by decide +kernel)⟩
theorem fw_takers : fEq (.str "takers") (.str "lies") = some (.dat (.bool false)) ∧ fEq (.str "takers") (.str "held") = some (.dat (.bool false)) ∧ fEq (.str "takers") (.str "free") = some (.dat (.bool false)) ∧ fEq (.str "takers") (.str "custom") = some (.dat (.bool false)) ∧ fEq (.str "takers") (.str "takers") = some (.dat (.bool true)) ∧ fEq (.str "takers") (.str "cut") = some (.dat (.bool false)) ∧ fEq (.str "takers") (.str "born") = some (.dat (.bool false)) ∧ fEq (.str "takers") (.str "driven") = some (.dat (.bool false)) ∧ fEq (.str "takers") (.str "pass") = some (.dat (.bool false)) ∧ fEq (.str "takers") (.str "render") = some (.dat (.bool false)) ∧ fEq (.str "takers") (.str "paid") = some (.dat (.bool false)) ∧ fEq (.str "takers") (.str "claim") = some (.dat (.bool false)) := ⟨fEq_s false (by decide +kernel), fEq_s false (by decide +kernel), fEq_s false (by decide +kernel), fEq_s false (by decide +kernel), fEq_s true (by decide +kernel), fEq_s false (by decide +kernel), fEq_s false (by decide +kernel), fEq_s false (by decide +kernel), fEq_s false (by decide +kernel), fEq_s false (by decide +kernel), fEq_s false (by decide +kernel), fEq_s false (by decide +kernel)⟩
theorem fw_cut : fEq (.str "cut") (.str "lies") = some (.dat (.bool false)) ∧ fEq (.str "cut") (.str "held") = some (.dat (.bool false)) ∧ fEq (.str "cut") (.str "free") = some (.dat (.bool false)) ∧ fEq (.str "cut") (.str "custom") = some (.dat (.bool false)) ∧ fEq (.str "cut") (.str "takers") = some (.dat (.bool false)) ∧ fEq (.str "cut") (.str "cut") = some (.dat (.bool true)) ∧ fEq (.str "cut") (.str "born") = some (.dat (.bool false)) ∧ fEq (.str "cut") (.str "driven") = some (.dat (.bool false)) ∧ fEq (.str "cut") (.str "pass") = some (.dat (.bool false)) ∧ fEq (.str "cut") (.str "render") = some (.dat (.bool false)) ∧ fEq (.str "cut") (.str "paid") = some (.dat (.bool false)) ∧ fEq (.str "cut") (.str "claim") = some (.dat (.bool false)) := ⟨fEq_s false (by decide +kernel), fEq_s false (by decide +kernel), fEq_s false (by decide +kernel), fEq_s false (by decide +kernel), fEq_s false (by decide +kernel), fEq_s true (by decide +kernel), fEq_s false (by decide +kernel), fEq_s false (by decide +kernel), fEq_s false (by decide +kernel), fEq_s false (by decide +kernel), fEq_s false (by decide +kernel), fEq_s false (by decide +kernel)⟩
theorem fw_born : fEq (.str "born") (.str "lies") = some (.dat (.bool false)) ∧ fEq (.str "born") (.str "held") = some (.dat (.bool false)) ∧ fEq (.str "born") (.str "free") = some (.dat (.bool false)) ∧ fEq (.str "born") (.str "custom") = some (.dat (.bool false)) ∧ fEq (.str "born") (.str "takers") = some (.dat (.bool false)) ∧ fEq (.str "born") (.str "cut") = some (.dat (.bool false)) ∧ fEq (.str "born") (.str "born") = some (.dat (.bool true)) ∧ fEq (.str "born") (.str "driven") = some (.dat (.bool false)) ∧ fEq (.str "born") (.str "pass") = some (.dat (.bool false)) ∧ fEq (.str "born") (.str "render") = some (.dat (.bool false)) ∧ fEq (.str "born") (.str "paid") = some (.dat (.bool false)) ∧ fEq (.str "born") (.str "claim") = some (.dat (.bool false)) := ⟨fEq_s false (by decide +kernel), fEq_s false (by decide +kernel), fEq_s false (by decide +kernel), fEq_s false (by decide +kernel), fEq_s false (by decide +kernel), fEq_s false (by decide +kernel), fEq_s true (by decide +kernel), fEq_s false (by decide +kernel), fEq_s false (by decide +kernel), fEq_s false (by decide +kernel), fEq_s false (by decide +kernel), fEq_s false (by decide +kernel)⟩
theorem fw_driven : fEq (.str "driven") (.str "lies") = some (.dat (.bool false)) ∧ fEq (.str "driven") (.str "held") = some (.dat (.bool false)) ∧ fEq (.str "driven") (.str "free") = some (.dat (.bool false)) ∧ fEq (.str "driven") (.str "custom") = some (.dat (.bool false)) ∧ fEq (.str "driven") (.str "takers") = some (.dat (.bool false)) ∧ fEq (.str "driven") (.str "cut") = some (.dat (.bool false)) ∧ fEq (.str "driven") (.str "born") = some (.dat (.bool false)) ∧ fEq (.str "driven") (.str "driven") = some (.dat (.bool true)) ∧ fEq (.str "driven") (.str "pass") = some (.dat (.bool false)) ∧ fEq (.str "driven") (.str "render") = some (.dat (.bool false)) ∧ fEq (.str "driven") (.str "paid") = some (.dat (.bool false)) ∧ fEq (.str "driven") (.str "claim") = some (.dat (.bool false)) := ⟨fEq_s false (by decide +kernel), fEq_s false (by decide +kernel), fEq_s false (by decide +kernel), fEq_s false (by decide +kernel), fEq_s false (by decide +kernel), fEq_s false (by decide +kernel), fEq_s false (by decide +kernel), fEq_s true (by decide +kernel), fEq_s false (by decide +kernel), fEq_s false (by decide +kernel), fEq_s false (by decide +kernel), fEq_s false (by decide +kernel)⟩
theorem fw_pass : fEq (.str "pass") (.str "lies") = some (.dat (.bool false)) ∧ fEq (.str "pass") (.str "held") = some (.dat (.bool false)) ∧ fEq (.str "pass") (.str "free") = some (.dat (.bool false)) ∧ fEq (.str "pass") (.str "custom") = some (.dat (.bool false)) ∧ fEq (.str "pass") (.str "takers") = some (.dat (.bool false)) ∧ fEq (.str "pass") (.str "cut") = some (.dat (.bool false)) ∧ fEq (.str "pass") (.str "born") = some (.dat (.bool false)) ∧ fEq (.str "pass") (.str "driven") = some (.dat (.bool false)) ∧ fEq (.str "pass") (.str "pass") = some (.dat (.bool true)) ∧ fEq (.str "pass") (.str "render") = some (.dat (.bool false)) ∧ fEq (.str "pass") (.str "paid") = some (.dat (.bool false)) ∧ fEq (.str "pass") (.str "claim") = some (.dat (.bool false)) := ⟨fEq_s false (by decide +kernel), fEq_s false (by decide +kernel), fEq_s false (by decide +kernel), fEq_s false (by decide +kernel), fEq_s false (by decide +kernel), fEq_s false (by decide +kernel), fEq_s false (by decide +kernel), fEq_s false (by decide +kernel), fEq_s true (by decide +kernel), fEq_s false (by decide +kernel), fEq_s false (by decide +kernel), fEq_s false (by decide +kernel)⟩
theorem fw_render : fEq (.str "render") (.str "lies") = some (.dat (.bool false)) ∧ fEq (.str "render") (.str "held") = some (.dat (.bool false)) ∧ fEq (.str "render") (.str "free") = some (.dat (.bool false)) ∧ fEq (.str "render") (.str "custom") = some (.dat (.bool false)) ∧ fEq (.str "render") (.str "takers") = some (.dat (.bool false)) ∧ fEq (.str "render") (.str "cut") = some (.dat (.bool false)) ∧ fEq (.str "render") (.str "born") = some (.dat (.bool false)) ∧ fEq (.str "render") (.str "driven") = some (.dat (.bool false)) ∧ fEq (.str "render") (.str "pass") = some (.dat (.bool false)) ∧ fEq (.str "render") (.str "render") = some (.dat (.bool true)) ∧ fEq (.str "render") (.str "paid") = some (.dat (.bool false)) ∧ fEq (.str "render") (.str "claim") = some (.dat (.bool false)) := ⟨fEq_s false (by decide +kernel), fEq_s false (by decide +kernel), fEq_s false (by decide +kernel), fEq_s false (by decide +kernel), fEq_s false (by decide +kernel), fEq_s false (by decide +kernel), fEq_s false (by decide +kernel), fEq_s false (by decide +kernel), fEq_s false (by decide +kernel), fEq_s true (by decide +kernel), fEq_s false (by decide +kernel), fEq_s false (by decide +kernel)⟩
theorem fw_paid : fEq (.str "paid") (.str "lies") = some (.dat (.bool false)) ∧ fEq (.str "paid") (.str "held") = some (.dat (.bool false)) ∧ fEq (.str "paid") (.str "free") = some (.dat (.bool false)) ∧ fEq (.str "paid") (.str "custom") = some (.dat (.bool false)) ∧ fEq (.str "paid") (.str "takers") = some (.dat (.bool false)) ∧ fEq (.str "paid") (.str "cut") = some (.dat (.bool false)) ∧ fEq (.str "paid") (.str "born") = some (.dat (.bool false)) ∧ fEq (.str "paid") (.str "driven") = some (.dat (.bool false)) ∧ fEq (.str "paid") (.str "pass") = some (.dat (.bool false)) ∧ fEq (.str "paid") (.str "render") = some (.dat (.bool false)) ∧ fEq (.str "paid") (.str "paid") = some (.dat (.bool true)) ∧ fEq (.str "paid") (.str "claim") = some (.dat (.bool false)) := ⟨fEq_s false (by decide +kernel), fEq_s false (by decide +kernel), fEq_s false (by decide +kernel), fEq_s false (by decide +kernel), fEq_s false (by decide +kernel), fEq_s false (by decide +kernel), fEq_s false (by decide +kernel), fEq_s false (by decide +kernel), fEq_s false (by decide +kernel), fEq_s false (by decide +kernel), fEq_s true (by decide +kernel), fEq_s false (by decide +kernel)⟩
theorem fw_claim : fEq (.str "claim") (.str "lies") = some (.dat (.bool false)) ∧ fEq (.str "claim") (.str "held") = some (.dat (.bool false)) ∧ fEq (.str "claim") (.str "free") = some (.dat (.bool false)) ∧ fEq (.str "claim") (.str "custom") = some (.dat (.bool false)) ∧ fEq (.str "claim") (.str "takers") = some (.dat (.bool false)) ∧ fEq (.str "claim") (.str "cut") = some (.dat (.bool false)) ∧ fEq (.str "claim") (.str "born") = some (.dat (.bool false)) ∧ fEq (.str "claim") (.str "driven") = some (.dat (.bool false)) ∧ fEq (.str "claim") (.str "pass") = some (.dat (.bool false)) ∧ fEq (.str "claim") (.str "render") = some (.dat (.bool false)) ∧ fEq (.str "claim") (.str "paid") = some (.dat (.bool false)) ∧ fEq (.str "claim") (.str "claim") = some (.dat (.bool true)) := ⟨fEq_s false (by decide +kernel), fEq_s false (by decide +kernel), fEq_s false (by decide +kernel), fEq_s false (by decide +kernel), fEq_s false (by decide +kernel), fEq_s false (by decide +kernel), fEq_s false (by decide +kernel), fEq_s false (by decide +kernel), fEq_s false (by decide +kernel), fEq_s false (by decide +kernel), fEq_s false (by decide +kernel), fEq_s true (by decide +kernel)⟩
theorem cw_kind : fEq (.str "kind") (.str "kind") = some (.dat (.bool true)) ∧ fEq (.str "kind") (.str "odd") = some (.dat (.bool false)) ∧ fEq (.str "kind") (.str "fixed") = some (.dat (.bool false)) ∧ fEq (.str "kind") (.str "none") = some (.dat (.bool false)) := ⟨fEq_s true (by decide +kernel), fEq_s false (by decide +kernel), fEq_s false (by decide +kernel), fEq_s false (by decide +kernel)⟩
theorem cw_odd : fEq (.str "odd") (.str "kind") = some (.dat (.bool false)) ∧ fEq (.str "odd") (.str "odd") = some (.dat (.bool true)) ∧ fEq (.str "odd") (.str "fixed") = some (.dat (.bool false)) ∧ fEq (.str "odd") (.str "none") = some (.dat (.bool false)) := ⟨fEq_s false (by decide +kernel), fEq_s true (by decide +kernel), fEq_s false (by decide +kernel), fEq_s false (by decide +kernel)⟩
theorem cw_fixed : fEq (.str "fixed") (.str "kind") = some (.dat (.bool false)) ∧ fEq (.str "fixed") (.str "odd") = some (.dat (.bool false)) ∧ fEq (.str "fixed") (.str "fixed") = some (.dat (.bool true)) ∧ fEq (.str "fixed") (.str "none") = some (.dat (.bool false)) := ⟨fEq_s false (by decide +kernel), fEq_s false (by decide +kernel), fEq_s true (by decide +kernel), fEq_s false (by decide +kernel)⟩
theorem cw_none : fEq (.str "none") (.str "kind") = some (.dat (.bool false)) ∧ fEq (.str "none") (.str "odd") = some (.dat (.bool false)) ∧ fEq (.str "none") (.str "fixed") = some (.dat (.bool false)) ∧ fEq (.str "none") (.str "none") = some (.dat (.bool true)) := ⟨fEq_s false (by decide +kernel), fEq_s false (by decide +kernel), fEq_s false (by decide +kernel), fEq_s true (by decide +kernel)⟩
/-! facts, by their kinds -/
inductive Cu where
  | kind (a : Int) | odd (a p : Int) | fixed (p : Int) | non
inductive Fc where
  | lies (f p d : Int) | held (f h d : Int) | free (f a b : Int) | custom (p k y : Int) (c : Cu) | takers (p k y u : Int) (q : Int × Int) (v : Int)
  | cut (f k d n : Int) | born (f k d s w : Int) | driven (b f d : Int) | pass (h i d : Int) | render (h p k d n : Int) | paid (h p k d n : Int) | claim (f p : Int)
def cuD : Cu → PyData
  | .kind a => .tuple [.str "kind", .int a]
  | .odd a p => .tuple [.str "odd", .int a, .int p]
  | .fixed p => .tuple [.str "fixed", .int p]
  | .non => .tuple [.str "none"]
def fcD : Fc → PyData
  | .lies f p d => .tuple [.str "lies", .int f, .int p, .int d]
  | .held f h d => .tuple [.str "held", .int f, .int h, .int d]
  | .free f a b => .tuple [.str "free", .int f, .int a, .int b]
  | .custom p k y c => .tuple [.str "custom", .int p, .int k, .int y, cuD c]
  | .takers p k y u q v => .tuple [.str "takers", .int p, .int k, .int y, .int u, .tuple [.int q.1, .int q.2], .int v]
  | .cut f k d n => .tuple [.str "cut", .int f, .int k, .int d, .int n]
  | .born f k d s w => .tuple [.str "born", .int f, .int k, .int d, .int s, .int w]
  | .driven b f d => .tuple [.str "driven", .int b, .int f, .int d]
  | .pass h i d => .tuple [.str "pass", .int h, .int i, .int d]
  | .render h p k d n => .tuple [.str "render", .int h, .int p, .int k, .int d, .int n]
  | .paid h p k d n => .tuple [.str "paid", .int h, .int p, .int k, .int d, .int n]
  | .claim f p => .tuple [.str "claim", .int f, .int p]
abbrev NF := Int × Fc
abbrev nfD (x : NF) : PyData := .tuple [.int x.1, fcD x.2]
def inB (lo hi x : Int) : Prop := lo ≤ x ∧ x ≤ hi
def CuOk : Cu → Prop
  | .kind a => inB 0 9 a
  | .odd a p => inB 1 9 a ∧ inB 0 1000 p
  | .fixed p => inB 0 1000 p
  | .non => True
/-- what is good of a fact -/
def FcOk : Fc → Prop
  | .lies f p d => inB 1 12 f ∧ inB 1 8 p ∧ inB 0 3999 d
  | .held f h d => inB 1 12 f ∧ inB 0 8 h ∧ inB 0 3999 d
  | .free f a b => inB 1 12 f ∧ inB 0 3999 a ∧ inB 0 3999 b ∧ a ≤ b
  | .custom p k y c => inB 1 8 p ∧ inB 1 6 k ∧ inB 0 39 y ∧ CuOk c
  | .takers p k y u q v => inB 1 8 p ∧ inB 1 6 k ∧ inB 0 39 y ∧ inB 1 6 u ∧ inB 1 6 v ∧ u ≠ v ∧ 0 ≤ q.1 ∧ 1 ≤ q.2 ∧ q.1 ≤ q.2 ∧ q.2 ≤ 1000 ∧ Int.gcd q.1 q.2 = 1
  | .cut f k d n => inB 1 12 f ∧ inB 1 6 k ∧ inB 0 3999 d ∧ inB 1 10000 n
  | .born f k d s w => inB 1 12 f ∧ inB 1 6 k ∧ inB 0 3999 d ∧ inB 1 60 s ∧ d + s ≤ 3999 ∧ inB 0 1000 w
  | .driven b f d => inB 1 12 f ∧ inB 0 3999 d
  | .pass h i d => inB 1 8 h ∧ inB 1 8 i ∧ h ≠ i ∧ inB 0 3999 d
  | .render h p k d n => inB 1 8 h ∧ inB 1 8 p ∧ inB 1 6 k ∧ inB 0 3999 d ∧ inB 1 10000 n
  | .paid h p k d n => inB 1 8 h ∧ inB 1 8 p ∧ inB 1 6 k ∧ inB 0 3999 d ∧ inB 0 1000 n
  | .claim f p => inB 1 12 f ∧ inB 1 8 p
def isBorn : Fc → Bool
  | .born .. => true
  | _ => false
/-- what is good of a list of facts -/
structure Good (l : List NF) : Prop where
  up : l.Pairwise fun a b => a.1 < b.1
  pos : ∀ x ∈ l, 1 ≤ x.1
  ok : ∀ x ∈ l, FcOk x.2
  dr : ∀ x ∈ l, ∀ b f d, x.2 = .driven b f d → ∃ y ∈ l, y.1 = b ∧ isBorn y.2 = true
/-- what the course needs of a list of facts -/
structure GoodW (l : List NF) : Prop where
  pos : ∀ x ∈ l, 1 ≤ x.1
  ok : ∀ x ∈ l, FcOk x.2
  dr : ∀ x ∈ l, ∀ b f d, x.2 = .driven b f d → ∃ y ∈ l, y.1 = b ∧ isBorn y.2 = true
  bu : ∀ x ∈ l, ∀ y ∈ l, isBorn x.2 = true → isBorn y.2 = true → x.1 = y.1 → x.2 = y.2
class GW (G : List NF → Prop) : Prop where
  w : ∀ {l : List NF}, G l → GoodW l
instance gwW : GW GoodW := ⟨fun h => h⟩
theorem up_one : ∀ {l : List NF}, (l.Pairwise fun a b => a.1 < b.1) → ∀ x ∈ l, ∀ y ∈ l, x.1 = y.1 → x = y
  | [], _, _, hx, _, _, _ => by cases hx
  | z :: l, h, x, hx, y, hy, e => by
    obtain ⟨h1, h2⟩ := List.pairwise_cons.mp h
    rcases List.mem_cons.mp hx with e1 | h3
    · rcases List.mem_cons.mp hy with e2 | h4
      · rw [e1, e2]
      · have := h1 y h4
        rw [e1] at e
        omega
    · rcases List.mem_cons.mp hy with e2 | h4
      · have := h1 x h3
        rw [e2] at e
        omega
      · exact up_one h2 x h3 y h4 e
theorem Good.w {l : List NF} (h : Good l) : GoodW l := ⟨h.pos, h.ok, h.dr, fun x hx y hy _ _ e => by rw [up_one h.up x hx y hy e]⟩
instance gwGood : GW Good := ⟨Good.w⟩
theorem gd_lst {n : Nat} {ds : List PyData} (h : ds.length ≤ gz) (hd : ∀ d ∈ ds, Gd n d) : Gd (n + 1) (.list ds) := by
  simp only [Gd]
  exact ⟨h, hd⟩
-- needs:
def okDay (d : Int) : Bool := decide (0 ≤ d) && decide (d ≤ 3999)
def okYear (d : Int) : Bool := decide (0 ≤ d) && decide (d ≤ 39)
theorem okDay_iff {d : Int} : okDay d = true ↔ 0 ≤ d ∧ d ≤ 3999 := by simp [okDay]
theorem okYear_iff {d : Int} : okYear d = true ↔ 0 ≤ d ∧ d ≤ 39 := by simp [okYear]
-- needs: x_days
theorem need_day_ok {d : Int} (h : okDay d = true) : m_need_day [.dat (.int d)] = .ok (.dat .none) [.dat (.int d)] := by
  obtain ⟨h0, h1⟩ := okDay_iff.mp h
  simp! only [m_need_day, c_LAST_DAY, h0, h1]
-- needs: in_forceg x_words x_facts days
def okField (f : Int) : Bool := decide (1 ≤ f) && decide (f ≤ 12)
theorem okField_iff {d : Int} : okField d = true ↔ 1 ≤ d ∧ d ≤ 12 := by simp [okField]
theorem need_field_ok {d : Int} (h : okField d = true) : m_need_field [.dat (.int d)] = .ok (.dat .none) [.dat (.int d)] := by
  obtain ⟨h0, h1⟩ := okField_iff.mp h
  simp! [m_need_field, c_FIELDS, h0, h1]
def liesR (l : List NF) (f : Int) : List (Rw Int) := l.filterMap fun x => match x.2 with
  | .lies f' p d => if f' = f then some (x.1, d, p) else none
  | _ => none
def heldR (l : List NF) (f : Int) : List (Rw Int) := l.filterMap fun x => match x.2 with
  | .held f' p d => if f' = f then some (x.1, d, p) else none
  | _ => none
def isFree (f d : Int) (x : Fc) : Bool := match x with
  | .free f' a b => decide (f' = f) && (decide (a ≤ d) && decide (d ≤ b))
  | _ => false
def parishF (l : List NF) (f d : Int) : Option Int := forceG d (liesR l f)
def nz : Option Int → Option Int
  | some 0 => none
  | o => o
def holderF (l : List NF) (f d : Int) : Option Int := nz (forceG d (heldR l f))
def freeF (l : List NF) (f d : Int) : Bool := l.any fun x => isFree f d x.2
def lineF (l : List NF) (f d : Int) : Option (Int × Int) := match holderF l f d, parishF l f d with
  | some h, some p => if freeF l f d = true then none else some (h, p)
  | _, _ => none
abbrev oI (o : Option Int) : PyData := oD PyData.int o
abbrev fsD (l : List NF) : PyData := .list (l.map nfD)
theorem rows_lies (l : List NF) (f : Int) (hl : l.length ≤ gz) : m_rows_of [.dat (fsD l), .dat (.str "lies"), .dat (.int f)] = .ok (.lst ((liesR l f).map (rwE PyData.int))) [.dat (fsD l), .dat (.str "lies"), .dat (.int f)] := by
  have c := cmp_fold (β := Unit) (is := [3, 4]) (tg := gT 2 (gsCons (gN 3) (gsCons (gN 4) gsNil))) (mt := t_rows_of_2) (me := e_rows_of_1) (enc := nfD) (out := fun x => match x.2 with | .lies f' p d => if f' = f then some (rwE PyData.int (x.1, d, p)) else none | _ => none) (g := [.pin (.dat (fsD l)), .pin (.dat (.str "lies")), .pin (.dat (.int f)), .no, .no]) l [] (by unfold gz at hl; simp [zl]; omega) (fun x hx => by
    clear hx
    obtain ⟨n, x⟩ := x
    refine ⟨[.pin (.dat (fsD l)), .pin (.dat (.str "lies")), .pin (.dat (.int f)), .v (.dat (.int n)), .v (.dat (fcD x))], rfl, ?_⟩
    cases x
    case lies f' p d =>
      by_cases h : f' = f
      · exact .inl ⟨rwE PyData.int (n, d, p), _, _, if_pos h, by simp! [t_rows_of_2, fcD, fw_lies, fw_held, fw_free, fw_custom, fw_takers, fw_cut, fw_born, fw_driven, fw_pass, fw_render, fw_paid, fw_claim, h]; rfl, by simp! [e_rows_of_1, fcD]; rfl, rfl⟩
      · exact .inr ⟨_, if_neg h, by simp! [t_rows_of_2, fcD, fw_lies, fw_held, fw_free, fw_custom, fw_takers, fw_cut, fw_born, fw_driven, fw_pass, fw_render, fw_paid, fw_claim, h]; rfl, rfl⟩
    all_goals exact .inr ⟨_, rfl, by simp! [t_rows_of_2, fcD, fw_lies, fw_held, fw_free, fw_custom, fw_takers, fw_cut, fw_born, fw_driven, fw_pass, fw_render, fw_paid, fw_claim]; rfl, rfl⟩)
  rw [List.nil_append] at c
  have e : l.filterMap (fun x => match x.2 with | .lies f' p d => if f' = f then some (rwE PyData.int (x.1, d, p)) else none | _ => none) = (liesR l f).map (rwE PyData.int) := by
    unfold liesR
    rw [List.map_filterMap]
    congr 1
    funext x
    cases x.2 <;> simp
  rw [e] at c
  simp! [m_rows_of, c]
theorem rows_held (l : List NF) (f : Int) (hl : l.length ≤ gz) : m_rows_of [.dat (fsD l), .dat (.str "held"), .dat (.int f)] = .ok (.lst ((heldR l f).map (rwE PyData.int))) [.dat (fsD l), .dat (.str "held"), .dat (.int f)] := by
  have c := cmp_fold (β := Unit) (is := [3, 4]) (tg := gT 2 (gsCons (gN 3) (gsCons (gN 4) gsNil))) (mt := t_rows_of_2) (me := e_rows_of_1) (enc := nfD) (out := fun x => match x.2 with | .held f' p d => if f' = f then some (rwE PyData.int (x.1, d, p)) else none | _ => none) (g := [.pin (.dat (fsD l)), .pin (.dat (.str "held")), .pin (.dat (.int f)), .no, .no]) l [] (by unfold gz at hl; simp [zl]; omega) (fun x hx => by
    clear hx
    obtain ⟨n, x⟩ := x
    refine ⟨[.pin (.dat (fsD l)), .pin (.dat (.str "held")), .pin (.dat (.int f)), .v (.dat (.int n)), .v (.dat (fcD x))], rfl, ?_⟩
    cases x
    case held f' p d =>
      by_cases h : f' = f
      · exact .inl ⟨rwE PyData.int (n, d, p), _, _, if_pos h, by simp! [t_rows_of_2, fcD, fw_lies, fw_held, fw_free, fw_custom, fw_takers, fw_cut, fw_born, fw_driven, fw_pass, fw_render, fw_paid, fw_claim, h]; rfl, by simp! [e_rows_of_1, fcD]; rfl, rfl⟩
      · exact .inr ⟨_, if_neg h, by simp! [t_rows_of_2, fcD, fw_lies, fw_held, fw_free, fw_custom, fw_takers, fw_cut, fw_born, fw_driven, fw_pass, fw_render, fw_paid, fw_claim, h]; rfl, rfl⟩
    all_goals exact .inr ⟨_, rfl, by simp! [t_rows_of_2, fcD, fw_lies, fw_held, fw_free, fw_custom, fw_takers, fw_cut, fw_born, fw_driven, fw_pass, fw_render, fw_paid, fw_claim]; rfl, rfl⟩)
  rw [List.nil_append] at c
  have e : l.filterMap (fun x => match x.2 with | .held f' p d => if f' = f then some (rwE PyData.int (x.1, d, p)) else none | _ => none) = (heldR l f).map (rwE PyData.int) := by
    unfold heldR
    rw [List.map_filterMap]
    congr 1
    funext x
    cases x.2 <;> simp
  rw [e] at c
  simp! [m_rows_of, c]
theorem parish_on_ok (l : List NF) (f d : Int) (hl : l.length ≤ gz) (hf : okField f = true) (hd : okDay d = true) : m_parish_on [.dat (fsD l), .dat (.int f), .dat (.int d)] = .ok (.dat (oI (parishF l f d))) [.dat (fsD l), .dat (.int f), .dat (.int d)] := by
  simp! [m_parish_on, need_field_ok hf, need_day_ok hd, rows_lies l f hl, in_force_g PyData.int (liesR l f) d, parishF]
theorem fEq_none_i (i : Int) : fEq .none (.int i) = some (.dat (.bool false)) := by
  unfold fEq
  rw [if_pos ⟨(gd_none 0).shaped (by decide), (gd_int 0 i).shaped (by decide)⟩]
  simp [PyData.eqv, ob]
theorem holder_on_ok (l : List NF) (f d : Int) (hl : l.length ≤ gz) (hf : okField f = true) (hd : okDay d = true) : m_holder_on [.dat (fsD l), .dat (.int f), .dat (.int d)] = .ok (.dat (oI (holderF l f d))) [.dat (fsD l), .dat (.int f), .dat (.int d)] := by
  have r := rows_held l f hl
  have i := in_force_g PyData.int (heldR l f) d
  unfold holderF
  cases e : forceG d (heldR l f) with
  | none =>
    rw [e] at i
    simp only [oD] at i
    simp! [m_holder_on, need_field_ok hf, need_day_ok hd, r, i, fEq_none_i, nz, oD]
  | some h =>
    rw [e] at i
    simp only [oD] at i
    by_cases z : h = 0
    · subst z
      simp! [m_holder_on, need_field_ok hf, need_day_ok hd, r, i, nz, oD]
    · have : nz (some h) = some h := by
        unfold nz
        split
        · rename_i e
          cases e
          exact absurd rfl z
        · rfl
      rw [this]
      simp! [m_holder_on, need_field_ok hf, need_day_ok hd, r, i, z, oD]
theorem free_loop {g0 : Sl} (f d : Int) : ∀ (l : List NF), (freeF l f d = true ∧ ∃ g', forM [3, 4] (gT 2 (gsCons (gN 3) (gsCons (gN 4) gsNil))) b_free_on_1 (l.map nfD) [g0, .pin (.dat (.int f)), .pin (.dat (.int d)), .no, .no] = .rt (.dat (.bool true)) (g0 :: .pin (.dat (.int f)) :: .pin (.dat (.int d)) :: g')) ∨
    (freeF l f d = false ∧ forM [3, 4] (gT 2 (gsCons (gN 3) (gsCons (gN 4) gsNil))) b_free_on_1 (l.map nfD) [g0, .pin (.dat (.int f)), .pin (.dat (.int d)), .no, .no] = .nx [g0, .pin (.dat (.int f)), .pin (.dat (.int d)), .no, .no])
  | [] => .inr ⟨rfl, rfl⟩
  | (n, x) :: l => by
    have ih := free_loop (g0 := g0) f d l
    have no : isFree f d x = false → b_free_on_1 [g0, .pin (.dat (.int f)), .pin (.dat (.int d)), .v (.dat (.int n)), .v (.dat (fcD x))] = .nx [g0, .pin (.dat (.int f)), .pin (.dat (.int d)), .v (.dat (.int n)), .v (.dat (fcD x))] := by
      intro h
      cases x
      case free f' a b =>
        by_cases h1 : f' = f
        · by_cases h2 : a ≤ d
          · by_cases h3 : d ≤ b
            · simp [isFree, h1, h2, h3] at h
            · simp! [b_free_on_1, fcD, fw_lies, fw_held, fw_free, fw_custom, fw_takers, fw_cut, fw_born, fw_driven, fw_pass, fw_render, fw_paid, fw_claim, h1, h2, h3]
          · simp! [b_free_on_1, fcD, fw_lies, fw_held, fw_free, fw_custom, fw_takers, fw_cut, fw_born, fw_driven, fw_pass, fw_render, fw_paid, fw_claim, h1, h2]
        · simp! [b_free_on_1, fcD, fw_lies, fw_held, fw_free, fw_custom, fw_takers, fw_cut, fw_born, fw_driven, fw_pass, fw_render, fw_paid, fw_claim, h1]
      all_goals simp! [b_free_on_1, fcD, fw_lies, fw_held, fw_free, fw_custom, fw_takers, fw_cut, fw_born, fw_driven, fw_pass, fw_render, fw_paid, fw_claim]
    cases hx : isFree f d x with
    | true =>
      refine .inl ⟨by simp [freeF, hx], ?_⟩
      cases x
      case free f' a b =>
        simp [isFree] at hx
        obtain ⟨h1, h2, h3⟩ := hx
        refine ⟨?g', ?e'⟩
        case e' =>
          rw [List.map_cons]
          unfold forM
          simp! [b_free_on_1, fcD, fw_lies, fw_held, fw_free, fw_custom, fw_takers, fw_cut, fw_born, fw_driven, fw_pass, fw_render, fw_paid, fw_claim, h1, h2, h3]
          rfl
      all_goals cases hx
    | false =>
      have no := no hx
      have ef : freeF ((n, x) :: l) f d = freeF l f d := by simp [freeF, hx]
      rw [ef, List.map_cons]
      unfold forM
      have g1 : gT 2 (gsCons (gN 3) (gsCons (gN 4) gsNil)) (nfD (n, x)) [g0, .pin (.dat (.int f)), .pin (.dat (.int d)), .no, .no] = some [g0, .pin (.dat (.int f)), .pin (.dat (.int d)), .v (.dat (.int n)), .v (.dat (fcD x))] := rfl
      simp only [g1, no, lp]
      exact ih
theorem free_on_ok (l : List NF) (f d : Int) (hf : okField f = true) (hd : okDay d = true) : m_free_on [.dat (fsD l), .dat (.int f), .dat (.int d)] = .ok (.dat (.bool (freeF l f d))) [.dat (fsD l), .dat (.int f), .dat (.int d)] := by
  rcases free_loop (g0 := .pin (.dat (fsD l))) f d l with ⟨e, g', h⟩ | ⟨e, h⟩
  · rw [e]
    simp! [m_free_on, need_field_ok hf, need_day_ok hd, h]
  · rw [e]
    simp! [m_free_on, need_field_ok hf, need_day_ok hd, h]
-- needs: land
def isB (b : Int) (x : NF) : Bool := decide (x.1 = b) && isBorn x.2
def birthF (l : List NF) (b : Int) : Option Fc := (l.find? (isB b)).map (·.2)
theorem birth_loop {g0 : Sl} (b : Int) : ∀ l : List NF, (∃ x g2 g3, birthF l b = some x ∧ isBorn x = true ∧ forM [2, 3] (gT 2 (gsCons (gN 2) (gsCons (gN 3) gsNil))) b_birth_of_1 (l.map nfD) [g0, .pin (.dat (.int b)), .no, .no] = .rt (.dat (fcD x)) [g0, .pin (.dat (.int b)), g2, g3]) ∨
    birthF l b = none ∧ forM [2, 3] (gT 2 (gsCons (gN 2) (gsCons (gN 3) gsNil))) b_birth_of_1 (l.map nfD) [g0, .pin (.dat (.int b)), .no, .no] = .nx [g0, .pin (.dat (.int b)), .no, .no]
  | [] => .inr ⟨rfl, rfl⟩
  | (n, x) :: l => by
    by_cases h : n = b
    · by_cases hx : isBorn x = true
      · refine .inl ⟨x, .v (.dat (.int n)), .v (.dat (fcD x)), by simp [birthF, isB, h, hx], hx, ?_⟩
        rw [List.map_cons]
        unfold forM
        cases x <;> first | (cases hx; done) | simp! [b_birth_of_1, nfD, fcD, fw_lies, fw_held, fw_free, fw_custom, fw_takers, fw_cut, fw_born, fw_driven, fw_pass, fw_render, fw_paid, fw_claim, h]
      · have e : birthF ((n, x) :: l) b = birthF l b := by simp [birthF, isB, hx]
        rw [e, List.map_cons]
        have st : forM [2, 3] (gT 2 (gsCons (gN 2) (gsCons (gN 3) gsNil))) b_birth_of_1 (nfD (n, x) :: l.map nfD) [g0, .pin (.dat (.int b)), .no, .no] = forM [2, 3] (gT 2 (gsCons (gN 2) (gsCons (gN 3) gsNil))) b_birth_of_1 (l.map nfD) [g0, .pin (.dat (.int b)), .no, .no] := by
          conv => lhs; unfold forM
          cases x <;> first | (exact absurd rfl hx) | simp! [b_birth_of_1, nfD, fcD, fw_lies, fw_held, fw_free, fw_custom, fw_takers, fw_cut, fw_born, fw_driven, fw_pass, fw_render, fw_paid, fw_claim, h]
        rw [st]
        exact birth_loop b l
    · have e : birthF ((n, x) :: l) b = birthF l b := by simp [birthF, isB, h]
      rw [e, List.map_cons]
      have st : forM [2, 3] (gT 2 (gsCons (gN 2) (gsCons (gN 3) gsNil))) b_birth_of_1 (nfD (n, x) :: l.map nfD) [g0, .pin (.dat (.int b)), .no, .no] = forM [2, 3] (gT 2 (gsCons (gN 2) (gsCons (gN 3) gsNil))) b_birth_of_1 (l.map nfD) [g0, .pin (.dat (.int b)), .no, .no] := by
        conv => lhs; unfold forM
        simp! [b_birth_of_1, nfD, h]
      rw [st]
      exact birth_loop b l
theorem birth_of_ok {l : List NF} {b : Int} {x : Fc} (h : birthF l b = some x) : m_birth_of [.dat (fsD l), .dat (.int b)] = .ok (.dat (fcD x)) [.dat (fsD l), .dat (.int b)] := by
  rcases birth_loop (g0 := .pin (.dat (fsD l))) b l with ⟨y, g2, g3, e1, e2, e3⟩ | ⟨e1, e3⟩
  · rw [h] at e1
    cases e1
    simp! [m_birth_of, e3]
  · rw [h] at e1
    cases e1
/-- a loop that appends to a list -/
theorem forM_app {α : Type} {is : List Nat} {tg : Tg} {mb : Gm → SOut} {enc : α → PyData} {S : List PyData → Gm} {f : α → Option PyData} : ∀ (l : List α) (acc : List PyData), acc.length + l.length < zl →
    (∀ a ∈ l, ∀ acc : List PyData, acc.length < 1000000 → ∃ g1, tg (enc a) (S acc) = some g1 ∧ ∃ g2, (mb g1 = .nx g2 ∨ mb g1 = .ct g2) ∧ kl is g2 = S (acc ++ (f a).toList)) →
    forM is tg mb (l.map enc) (S acc) = .nx (S (acc ++ l.filterMap f))
  | [], acc, _, _ => by simp [forM]
  | a :: l, acc, hz, h => by
    simp only [List.length_cons] at hz
    unfold zl at hz
    obtain ⟨g1, e1, g2, e2, e3⟩ := h a List.mem_cons_self acc (by omega)
    have hl : (acc ++ (f a).toList).length ≤ acc.length + 1 := by
      rw [List.length_append]
      cases f a <;> simp
    have ih := forM_app (f := f) l (acc ++ (f a).toList) (by unfold zl; omega) fun b hb => h b (List.mem_cons_of_mem _ hb)
    rw [List.map_cons]
    unfold forM
    rw [e1]
    have e4 : acc ++ (f a).toList ++ l.filterMap f = acc ++ (a :: l).filterMap f := by
      rw [List.append_assoc]
      congr 1
      cases o : f a <;> simp [List.filterMap_cons, o]
    rw [e4] at ih
    rcases e2 with e2 | e2
    · simp only [e2, lp]
      rw [e3]
      exact ih
    · simp only [e2, lp]
      rw [e3]
      exact ih
theorem forM_step {is : List Nat} {tg : Tg} {mb : Gm → SOut} {d : PyData} {l : List PyData} {g g1 g2 : Gm} (h1 : tg d g = some g1) (h2 : mb g1 = .nx g2) : forM is tg mb (d :: l) g = forM is tg mb l (kl is g2) := by
  rw [forM, h1]
  simp only [h2]
  rfl
-- needs: birth_of x_loop in_forceg
def drvR (l : List NF) (b d0 : Int) : List (Rw Int) := l.filterMap fun x => match x.2 with
  | .driven c f d => if c = b ∧ d0 ≤ d then some (x.1, d, f) else none
  | _ => none
def drvO (b d0 : Int) (x : NF) : Option PyData := match x.2 with
  | .driven c f d => if c = b ∧ d0 ≤ d then some (rwE PyData.int (x.1, d, f)) else none
  | _ => none
theorem drvO_map (l : List NF) (b d0 : Int) : l.filterMap (drvO b d0) = (drvR l b d0).map (rwE PyData.int) := by
  unfold drvR drvO
  rw [List.map_filterMap]
  congr 1
  funext x
  cases x.2 <;> simp
def fieldF (l : List NF) (b f d0 day : Int) : Option Int := forceG day ((0, d0, f) :: drvR l b d0)
theorem field_loop {g0 g2 : Sl} (l : List NF) (b f k d0 s w : Int) (hl : l.length < gz) : forM [5, 6] (gT 2 (gsCons (gN 5) (gsCons (gN 6) gsNil))) b_field_on_1 (l.map nfD) [g0, .pin (.dat (.int b)), g2, .v (.dat (fcD (.born f k d0 s w))), .v (.lst [rwE PyData.int (0, d0, f)]), .no, .no] = .nx [g0, .pin (.dat (.int b)), g2, .v (.dat (fcD (.born f k d0 s w))), .v (.lst (((0, d0, f) :: drvR l b d0).map (rwE PyData.int))), .no, .no] := by
  have r := forM_app (is := [5, 6]) (tg := gT 2 (gsCons (gN 5) (gsCons (gN 6) gsNil))) (mb := b_field_on_1) (enc := nfD) (S := fun acc => [g0, .pin (.dat (.int b)), g2, .v (.dat (fcD (.born f k d0 s w))), .v (.lst acc), .no, .no]) (f := drvO b d0) l [rwE PyData.int (0, d0, f)] (by unfold gz at hl; simp [zl]; omega) (fun x hx acc ha => by
    clear hx
    obtain ⟨n, x⟩ := x
    refine ⟨[g0, .pin (.dat (.int b)), g2, .v (.dat (fcD (.born f k d0 s w))), .v (.lst acc), .v (.dat (.int n)), .v (.dat (fcD x))], rfl, ?_⟩
    cases x
    case driven c f' d =>
      by_cases h1 : c = b
      · by_cases h2 : d0 ≤ d
        · refine ⟨?gA, .inl ?eA, ?kA⟩
          case eA =>
            simp! [b_field_on_1, fcD, fw_lies, fw_held, fw_free, fw_custom, fw_takers, fw_cut, fw_born, fw_driven, fw_pass, fw_render, fw_paid, fw_claim, h1, h2, ha]
            rfl
          case kA => simp [kl, st, drvO, h1, h2, rwE, fcD]
        · refine ⟨?gB, .inl ?eB, ?kB⟩
          case eB =>
            simp! [b_field_on_1, fcD, fw_lies, fw_held, fw_free, fw_custom, fw_takers, fw_cut, fw_born, fw_driven, fw_pass, fw_render, fw_paid, fw_claim, h1, h2]
            rfl
          case kB => simp [kl, st, drvO, h1, h2, fcD]
      · refine ⟨?gC, .inl ?eC, ?kC⟩
        case eC =>
          simp! [b_field_on_1, fcD, fw_lies, fw_held, fw_free, fw_custom, fw_takers, fw_cut, fw_born, fw_driven, fw_pass, fw_render, fw_paid, fw_claim, h1]
          rfl
        case kC => simp [kl, st, drvO, h1, fcD]
    all_goals exact ⟨_, .inl (by simp! [b_field_on_1, fcD, fw_lies, fw_held, fw_free, fw_custom, fw_takers, fw_cut, fw_born, fw_driven, fw_pass, fw_render, fw_paid, fw_claim]; rfl), by simp [kl, st, drvO, fcD]⟩)
  rw [drvO_map] at r
  exact r
theorem field_on_ok (l : List NF) (b f k d0 s w day : Int) (hl : l.length < gz) (hb : birthF l b = some (.born f k d0 s w)) (hd : okDay day = true) : m_field_on [.dat (fsD l), .dat (.int b), .dat (.int day)] = .ok (.dat (oI (fieldF l b f d0 day))) [.dat (fsD l), .dat (.int b), .dat (.int day)] := by
  have e1 := birth_of_ok hb
  have e2 := need_day_ok hd
  have e3 := field_loop (g0 := .pin (.dat (fsD l))) (g2 := .pin (.dat (.int day))) l b f k d0 s w hl
  have e4 := in_force_g PyData.int ((0, d0, f) :: drvR l b d0) day
  unfold fieldF
  generalize ((0, d0, f) :: drvR l b d0).map (rwE PyData.int) = R at e3 e4
  simp only [rwE, fcD] at e1 e3
  simp! [m_field_on, e1, e2, e3, e4]
/-! the lines to which a beast counts, day by day -/
def sortP (l : List (Int × Int)) : List (Int × Int) := l.mergeSort ltP
theorem ltP_trans (a b c : Int × Int) (h1 : ltP a b = true) (h2 : ltP b c = true) : ltP a c = true := by
  simp only [ltP, Bool.or_eq_true, Bool.and_eq_true, decide_eq_true_eq] at *
  omega
theorem ltP_total (a b : Int × Int) : (ltP a b || ltP b a) = true := by
  simp only [ltP, Bool.or_eq_true, Bool.and_eq_true, decide_eq_true_eq] at *
  omega
theorem sortP_perm (l : List (Int × Int)) : (sortP l).Perm l := List.mergeSort_perm _ _
theorem sortP_sorted (l : List (Int × Int)) : (sortP l).Pairwise fun a b => ltP a b = true := List.pairwise_mergeSort ltP_trans ltP_total l
theorem sortD_P (l : List (Int × Int)) : sortD (l.map iiD) = (sortP l).map iiD := sortD_ii (sortP_perm l) (sortP_sorted l)
/-- the field of a beast, from its birth on -/
theorem field_some {l : List NF} {G : List NF → Prop} [GW G] (hl : G l) (b : Int) {f d0 day : Int} (hf : okField f = true) (hd : d0 ≤ day) : ∃ f', fieldF l b f d0 day = some f' ∧ okField f' = true := by
  unfold fieldF forceG
  cases e : bestOfR day ((0, d0, f) :: drvR l b d0) with
  | none =>
    have := (best_none day _).mp e (0, d0, f) List.mem_cons_self
    simp at this
    omega
  | some r =>
    obtain ⟨l1, l2, el, hw, h1, h2⟩ := best_some day _ r e
    have mem : r ∈ (0, d0, f) :: drvR l b d0 := by
      rw [el]
      simp
    refine ⟨r.2.2, rfl, ?_⟩
    rcases List.mem_cons.mp mem with rfl | mem
    · exact hf
    · unfold drvR at mem
      obtain ⟨x, hx, ex⟩ := List.mem_filterMap.mp mem
      have ok := (GW.w hl).ok x hx
      cases hx2 : x.2 <;> rw [hx2] at ex ok <;> first | (cases ex; done) | skip
      rename_i c f' d
      simp only at ex
      split at ex
      · cases ex
        exact okField_iff.mpr ok.1
      · cases ex
/-- where it counts on a day -/
def dayLn (l : List NF) (b f d0 day : Int) : Option Kk := lineF l ((fieldF l b f d0 day).getD 0) day
def lnsF (l : List NF) (b f d0 : Int) (n : Nat) : List (Option Kk) := (List.range n).map fun (i : Nat) => dayLn l b f d0 (d0 + (i : Int))
def ctF (l : List NF) (b f d0 s : Int) : Ct := cntF (lnsF l b f d0 s.toNat)
theorem lnsF_succ (l : List NF) (b f d0 : Int) (n : Nat) : lnsF l b f d0 (n + 1) = lnsF l b f d0 n ++ [dayLn l b f d0 (d0 + (n : Int))] := by
  unfold lnsF
  rw [List.range_succ, List.map_append]
  rfl
theorem cntF_snoc (a : List (Option Kk)) (x : Option Kk) : cntF (a ++ [x]) = cStep (cntF a) x := by
  unfold cntF
  rw [List.foldl_append]
  rfl
theorem cPut_len (C : Ct) (k : Kk) (c : Nat) : (cPut C k c).length ≤ C.length + 1 := by
  unfold cPut
  split <;> simp
theorem cntF_len (lns : List (Option Kk)) : (cntF lns).length ≤ lns.length := by
  unfold cntF
  have : ∀ (lns : List (Option Kk)) (C : Ct), (lns.foldl cStep C).length ≤ C.length + lns.length := by
    intro lns
    induction lns with
    | nil => intro C; simp
    | cons x lns ih =>
      intro C
      rw [List.foldl_cons]
      refine Nat.le_trans (ih _) ?_
      have : (cStep C x).length ≤ C.length + 1 := by
        cases x with
        | none => simp [cStep]
        | some k => exact cPut_len C k _
      simp
      omega
  have := this lns []
  simpa using this
theorem lnsF_len (l : List NF) (b f d0 : Int) (n : Nat) : (lnsF l b f d0 n).length = n := by
  unfold lnsF
  simp
abbrev lowD (s : Int) (c : Nat) : PyData := pp (lowA c s) (lowB c s)
theorem enc_keys (v : Nat → PyData) (C : Ct) : (encC v C).map (fun p => tkD' p.1) = (C.map (·.1)).map iiD := by
  unfold encC
  rw [List.map_map, List.map_map]
  apply List.map_congr_left
  intro x _
  rfl
/-- the told rows -/
def shRows (s : Int) (C : Ct) : List (Kk × (Int × Int)) := (sortP (C.map (·.1))).map fun k => (k, (lowA ((cVal C k).getD 0 : Nat) s, lowB ((cVal C k).getD 0 : Nat) s))
abbrev shD (x : Kk × (Int × Int)) : PyData := .tuple [iiD x.1, pp x.2.1 x.2.2]
theorem keys_kK (k : Kk) : keysOf [.int k.1, .int k.2] = some (kK k) := rfl
theorem cVal_sort {C : Ct} {k : Kk} (h : k ∈ sortP (C.map (·.1))) : ∃ c, cVal C k = some c := cVal_mem ((sortP_perm _).mem_iff.mp h)
/-- counts stay below the days -/
theorem occ_le (k : Kk) (lns : List (Option Kk)) : occ k lns ≤ lns.length := List.countP_le_length
theorem keysOf_kD : ∀ ks : List Key, keysOf (ks.map kD) = some ks
  | [] => rfl
  | .inl i :: ks => by simp [keysOf, keyOf, kD, keysOf_kD ks]
  | .inr i :: ks => by simp [keysOf, keyOf, kD, keysOf_kD ks]
theorem getD_map {o : Option Nat} {v : Nat → PyData} {z : PyData} (h : z = v 0) : (o.map v).getD z = v (o.getD 0) := by
  cases o
  · exact h
  · rfl
def lnS (s : Sl) : Prop := s = .no ∨ s = .v (.dat .none) ∨ ∃ ks, s = .v (.tk ks)
theorem frz_dt (kvs : List (List Key × PyData)) : (OD.dt kvs).frz = none := rfl
theorem sh_len (s : Int) (C : Ct) : (shRows s C).length = C.length := by
  unfold shRows
  rw [List.length_map, (sortP_perm _).length_eq, List.length_map]
theorem ct_len {l : List NF} {b f d0 s : Int} (h0 : s ≤ 60) : (ctF l b f d0 s).length ≤ 60 := by
  have := cntF_len (lnsF l b f d0 s.toNat)
  rw [lnsF_len] at this
  unfold ctF
  omega
-- needs: x_share x_sum
theorem cPut_keys (C : Ct) (k : Kk) (c : Nat) : (cPut C k c).map (·.1) = if k ∈ C.map (·.1) then C.map (·.1) else C.map (·.1) ++ [k] := by
  unfold cPut
  have e : (C.any fun x => decide (x.1 = k)) = true ↔ k ∈ C.map (·.1) := by
    rw [List.any_eq_true, List.mem_map]
    simp
  by_cases h : (C.any fun x => decide (x.1 = k)) = true
  · rw [if_pos h, if_pos (e.mp h), List.map_map]
    apply List.map_congr_left
    intro x _
    simp only [Function.comp]
    split <;> rfl
  · rw [if_neg h, if_neg (fun z => h (e.mpr z)), List.map_append]
    rfl
theorem cnt_keys : ∀ (lns : List (Option Kk)) (C : Ct), (C.map (·.1)).Nodup → ((lns.foldl cStep C).map (·.1)).Nodup ∧ ∀ k, k ∈ (lns.foldl cStep C).map (·.1) ↔ k ∈ C.map (·.1) ∨ some k ∈ lns
  | [], C, h => ⟨h, fun k => by simp⟩
  | none :: lns, C, h => by
    rw [List.foldl_cons]
    obtain ⟨a, b⟩ := cnt_keys lns C h
    exact ⟨a, fun k => by rw [show cStep C none = C from rfl, b k]; simp⟩
  | some j :: lns, C, h => by
    rw [List.foldl_cons]
    have hk := cPut_keys C j ((cVal C j).getD 0 + 1)
    have nd : ((cStep C (some j)).map (·.1)).Nodup := by
      show ((cPut C j _).map (·.1)).Nodup
      rw [hk]
      split
      · exact h
      · rename_i hn
        rw [List.nodup_append]
        refine ⟨h, by simp, fun a ha b hb e => ?_⟩
        have : b = j := by simpa using hb
        subst this
        subst e
        exact hn ha
    obtain ⟨a, b⟩ := cnt_keys lns _ nd
    refine ⟨a, fun k => ?_⟩
    rw [b k]
    show k ∈ (cPut C j _).map (·.1) ∨ _ ↔ _
    rw [hk]
    split
    · rename_i hj
      constructor
      · rintro (z | z)
        · exact .inl z
        · exact .inr (List.mem_cons_of_mem _ z)
      · rintro (z | z)
        · exact .inl z
        · rcases List.mem_cons.mp z with z | z
          · cases z
            exact .inl hj
          · exact .inr z
    · constructor
      · rintro (z | z)
        · rcases List.mem_append.mp z with z | z
          · exact .inl z
          · have : k = j := by simpa using z
            subst this
            exact .inr List.mem_cons_self
        · exact .inr (List.mem_cons_of_mem _ z)
      · rintro (z | z)
        · exact .inl (List.mem_append.mpr (.inl z))
        · rcases List.mem_cons.mp z with z | z
          · cases z
            exact .inl (List.mem_append.mpr (.inr (by simp)))
          · exact .inr z
theorem cntF_mem (lns : List (Option Kk)) (k : Kk) : k ∈ (cntF lns).map (·.1) ↔ some k ∈ lns := by
  have := (cnt_keys lns [] (by simp)).2 k
  simpa [cntF] using this
/-! parts by one under: so many of 1 / LU -/
def LU : Nat := 9690712164777231700912800
theorem LU_pos : 1 ≤ LU := by decide
theorem LU_dvd {s : Nat} (h1 : 1 ≤ s) (h2 : s ≤ 60) : s ∣ LU := by
  have key : ∀ s : Fin 61, s.val = 0 ∨ LU % s.val = 0 := by decide +kernel
  rcases key ⟨s, by omega⟩ with h | h
  · simp at h
    omega
  · exact Nat.dvd_of_mod_eq_zero h
abbrev uA (z : Nat) : Int := lowA (z : Int) (LU : Int)
abbrev uB (z : Nat) : Int := lowB (z : Int) (LU : Int)
abbrev uD (z : Nat) : PyData := pp (uA z) (uB z)
theorem LUi : (1 : Int) ≤ (LU : Int) := by have := LU_pos; omega
theorem u_eq (z : Nat) : uA z * (LU : Int) = (z : Int) * uB z := (gcd_div (a := (z : Int)) (b := (LU : Int)) (by omega) LUi).2.2.2.1
theorem uB_pos (z : Nat) : 1 ≤ uB z := (gcd_div (a := (z : Int)) (b := (LU : Int)) (by omega) LUi).2.1
theorem u_cop (z : Nat) : Int.gcd (uA z) (uB z) = 1 := (gcd_div (a := (z : Int)) (b := (LU : Int)) (by omega) LUi).2.2.1
theorem u_inj {a b : Nat} (h1 : uA a = uA b) (h2 : uB a = uB b) : a = b := by
  have e1 := u_eq a
  have e2 := u_eq b
  rw [h1, h2] at e1
  have e3 : (a : Int) * uB b = (b : Int) * uB b := by rw [← e1, ← e2]
  have := Int.eq_of_mul_eq_mul_right (by have := uB_pos b; omega) e3
  omega
theorem u_zero : uA 0 = 0 ∧ uB 0 = 1 := low_zero LUi
/-- a quotient in its lowest terms -/
theorem u_of {x y : Int} {z : Nat} (hx : 0 ≤ x) (hy : 1 ≤ y) (e : x * (LU : Int) = (z : Int) * y) : x / Int.gcd x y = uA z ∧ y / Int.gcd x y = uB z := by
  refine low_uniq hx hy (uB_pos z) (u_cop z) ?_
  have h := u_eq z
  have p := LUi
  have : (LU : Int) * (x * uB z) = (LU : Int) * (uA z * y) := by
    calc (LU : Int) * (x * uB z) = (x * (LU : Int)) * uB z := by grind
      _ = (z : Int) * y * uB z := by rw [e]
      _ = ((z : Int) * uB z) * y := by grind
      _ = uA z * (LU : Int) * y := by rw [← h]
      _ = (LU : Int) * (uA z * y) := by grind
  exact Int.eq_of_mul_eq_mul_left (by omega) this
/-- whole numbers -/
theorem u_whole (n : Nat) : uA (n * LU) = (n : Int) ∧ uB (n * LU) = 1 := by
  have := u_of (x := (n : Int)) (y := 1) (z := n * LU) (by omega) (by decide) (by push_cast; grind)
  simp at this
  exact ⟨this.1.symm, this.2.symm⟩
/-- a share of days -/
theorem u_share {c s : Nat} (h1 : 1 ≤ s) (h2 : s ≤ 60) : lowA (c : Int) (s : Int) = uA (c * (LU / s)) ∧ lowB (c : Int) (s : Int) = uB (c * (LU / s)) := by
  refine u_of (by omega) (by omega) ?_
  have := Nat.div_mul_cancel (LU_dvd h1 h2)
  have e : ((LU / s : Nat) : Int) * (s : Int) = (LU : Int) := by exact_mod_cast this
  push_cast
  rw [← e]
  have : ((LU : Int) / (s : Int)) = ((LU / s : Nat) : Int) := by simp
  grind
theorem u_ne0 (z : Nat) : (uA z = 0 ∧ uB z = 1) ↔ z = 0 := by
  constructor
  · intro ⟨h1, h2⟩
    exact u_inj (by rw [h1, u_zero.1]) (by rw [h2, u_zero.2])
  · rintro rfl
    exact u_zero
-- needs: 
def dv (a b : Int) : Int := if 0 < a then (Int.gcd a b : Int) else b
theorem dv_step {a b : Int} (h : 0 < a) : dv (b % a) a = dv a b := by
  unfold dv
  rw [if_pos h]
  have h0 := Int.emod_nonneg b (by omega : a ≠ 0)
  by_cases z : 0 < b % a
  · rw [if_pos z]
    congr 1
    rw [Int.emod_def, Int.gcd_sub_mul_left_left, Int.gcd_comm]
  · rw [if_neg z]
    have e : b % a = 0 := by omega
    have d : a ∣ b := Int.dvd_of_emod_eq_zero e
    rw [Int.gcd_eq_left_iff_dvd (by omega) |>.mpr d]
theorem whl_divisor : ∀ (n : Nat) (a b : Int), a.toNat < n → ∃ x, whl [] t_divisor_1 b_divisor_2 n [.v (.dat (.int a)), .v (.dat (.int b))] = .nx [.v (.dat (.int x)), .v (.dat (.int (dv a b)))]
  | 0, a, b, h => absurd h (Nat.not_lt_zero _)
  | n + 1, a, b, h => by
    by_cases ha : 0 < a
    · have h2 := Int.emod_lt_of_pos b ha
      have h3 := Int.emod_nonneg b (by omega : a ≠ 0)
      obtain ⟨x, hx⟩ := whl_divisor n (b % a) a (by omega)
      refine ⟨x, ?_⟩
      unfold whl
      simp! only [t_divisor_1, b_divisor_2, ha, hx, dv_step ha]
    · refine ⟨a, ?_⟩
      unfold whl
      simp! only [t_divisor_1, b_divisor_2, ha, dv]
theorem divisor_ok (a b : Int) : m_divisor [.dat (.int a), .dat (.int b)] = .ok (.dat (.int (dv a b))) [.dat (.int a), .dat (.int b)] := by
  obtain ⟨x, hx⟩ := whl_divisor (a.toNat + 2) a b (by omega)
  unfold m_divisor
  simp! only [sWhl, fuN, hx]
-- needs: divisor x_gcd0
theorem dv_pos {a b : Int} (ha : 0 ≤ a) (hb : 1 ≤ b) : dv a b = (Int.gcd a b : Int) := by
  unfold dv
  by_cases z : 0 < a
  · rw [if_pos z]
  · rw [if_neg z]
    have e : a = 0 := by omega
    subst e
    simp
    omega
theorem lowest_good {a b : Int} (ha : 0 ≤ a) (hb : 1 ≤ b) (hl : b.natAbs.log2 < 9000) : m_lowest [.dat (.int a), .dat (.int b)] = .ok (.dat (.tuple [.int (a / Int.gcd a b), .int (b / Int.gcd a b)])) [.dat (.int a), .dat (.int b)] := by
  unfold m_lowest
  have h1 : ¬ a < 0 := by omega
  have h2 : ¬ b < 1 := by omega
  obtain ⟨g1, g2⟩ := gcd_le' (a := a) hb
  have g3 : (Int.gcd a b : Int).natAbs.log2 < 9000 := log_mono (by omega) hl
  simp! only [r_lowest_1, h1, h2, divisor_ok, dv_pos ha hb, g1, g3]
-- needs: lowest x_parts
theorem plus_ok {n m : Nat} {a b c d : Int} (h : Pt n a b) (h' : Pt m c d) (hn : n + m < 8000) : m_plus [.dat (pp a b), .dat (pp c d)] = .ok (.dat (pp ((a * d + c * b) / Int.gcd (a * d + c * b) (b * d)) (b * d / Int.gcd (a * d + c * b) (b * d)))) [.dat (pp a b), .dat (pp c d)] := by
  obtain ⟨m1, m2, m3, m4⟩ := h.mul h' (by omega) (by omega)
  obtain ⟨p1, p2, p3, p4⟩ := plus_pt h h'
  have l := lowest_good p1 p2 (sm_of (by omega) p4 (by omega)).log
  simp! only [m_plus, m1, m2, m3, l]
theorem fNe_u0 (z : Nat) : fNe (uD z) (pp 0 1) = some (.dat (.bool (!decide (z = 0)))) := by
  have g1 : Gd 1 (uD z) := gd_pair 0 _ _
  have g2 : Gd 1 (pp 0 1) := gd_pair 0 _ _
  unfold fNe
  rw [if_pos ⟨g1.shaped (by decide), g2.shaped (by decide)⟩]
  have : PyData.eqv (uD z) (pp 0 1) = decide (z = 0) := by
    have h := u_ne0 z
    show PyData.eqv (pp (uA z) (uB z)) (pp 0 1) = _
    generalize uA z = a at *
    generalize uB z = b at *
    simp only [pp, PyData.eqv, PyData.eqvAll, Bool.and_true]
    by_cases hz : z = 0
    · obtain ⟨h1, h2⟩ := h.mpr hz
      simp [h1, h2, hz]
    · have : ¬ (a = 0 ∧ b = 1) := fun x => hz (h.mp x)
      simp only [hz, decide_false]
      by_cases ha : a = 0
      · have : ¬ b = 1 := fun x => this ⟨ha, x⟩
        simp [ha, this]
      · simp [ha]
  rw [this]
  rfl
/-- a loop that folds, within bounds -/
theorem forM_foldB {α β : Type} {is : List Nat} {tg : Tg} {mb : Gm → SOut} {enc : α → PyData} {S : β → Gm} {f : β → α → β} {P : Nat → β → Prop} {w K : Nat} : ∀ (l : List α) (x : β) (k : Nat), P k x → k + w * l.length ≤ K →
    (∀ a ∈ l, ∀ x k, P k x → k + w ≤ K → P (k + w) (f x a) ∧ ∃ g1, tg (enc a) (S x) = some g1 ∧ ∃ g2, (mb g1 = .nx g2 ∨ mb g1 = .ct g2) ∧ kl is g2 = S (f x a)) →
    P (k + w * l.length) (l.foldl f x) ∧ forM is tg mb (l.map enc) (S x) = .nx (S (l.foldl f x))
  | [], x, k, hp, _, _ => by simpa [forM] using hp
  | a :: l, x, k, hp, hk, h => by
    simp only [List.length_cons, Nat.mul_add, Nat.mul_one] at hk
    obtain ⟨p1, g1, e1, g2, e2, e3⟩ := h a List.mem_cons_self x k hp (by omega)
    have ih := forM_foldB (w := w) (K := K) l (f x a) (k + w) p1 (by omega) fun b hb => h b (List.mem_cons_of_mem _ hb)
    refine ⟨?_, ?_⟩
    · have := ih.1
      simp only [List.length_cons, Nat.mul_add, Nat.mul_one, List.foldl_cons]
      rw [Nat.add_comm (w * l.length) w, ← Nat.add_assoc]
      exact this
    · rw [List.map_cons]
      unfold forM
      rw [e1]
      rcases e2 with e2 | e2
      · simp only [e2, lp]
        rw [e3]
        exact ih.2
      · simp only [e2, lp]
        rw [e3]
        exact ih.2
/-- the line as it is given: a tracked tuple -/
def lnO : Option (Int × Int) → OD
  | none => .dat .none
  | some p => .tk [.inl p.1, .inl p.2]
theorem line_onk_ok (l : List NF) (f d : Int) (hl : l.length ≤ gz) (hf : okField f = true) (hd : okDay d = true) : m_line_on [.dat (fsD l), .dat (.int f), .dat (.int d)] = .ok (lnO (lineF l f d)) [.dat (fsD l), .dat (.int f), .dat (.int d)] := by
  have h1 := holder_on_ok l f d hl hf hd
  have h2 := parish_on_ok l f d hl hf hd
  have h3 := free_on_ok l f d hf hd
  unfold lineF
  cases e1 : holderF l f d with
  | none =>
    rw [e1] at h1
    simp only [oD, lnO] at h1 ⊢
    cases e2 : parishF l f d <;> rw [e2] at h2 <;> simp only [oD] at h2 <;> simp! [m_line_on, h1, h2]
  | some h =>
    rw [e1] at h1
    cases e2 : parishF l f d with
    | none =>
      rw [e2] at h2
      simp only [oD, lnO] at h1 h2 ⊢
      simp! [m_line_on, h1, h2]
    | some p =>
      rw [e2] at h2
      cases e3 : freeF l f d with
      | true =>
        rw [e3] at h3
        simp only [oD, lnO, if_true] at h1 h2 ⊢
        simp! [m_line_on, h1, h2, h3, oTupK, keysOf, keyOf]
      | false =>
        rw [e3] at h3
        simp only [oD, lnO, if_false, Bool.false_eq_true] at h1 h2 ⊢
        simp! [m_line_on, h1, h2, h3, oTupK, keysOf, keyOf]
-- needs: x_share line_onk plus
theorem shares_turn {l : List NF} {G : List NF → Prop} [GW G] (hl : G l) (hz : l.length < gz) {b f k d0 s w : Int} (hb : birthF l b = some (.born f k d0 s w)) (hx : FcOk (.born f k d0 s w)) {i : Nat} (hi : (i : Int) < s) {s5 : Sl} : ∃ s5', lnS s5' ∧
    b_shares_1 [.pin (.dat (fsD l)), .pin (.dat (.int b)), .v (.dat (fcD (.born f k d0 s w))), .v (.dt (encC (lowD s) (cntF (lnsF l b f d0 i)))), .v (.dat (.int (d0 + (i : Int)))), s5] =
      .nx [.pin (.dat (fsD l)), .pin (.dat (.int b)), .v (.dat (fcD (.born f k d0 s w))), .v (.dt (encC (lowD s) (cntF (lnsF l b f d0 (i + 1))))), .v (.dat (.int (d0 + (i : Int)))), s5'] := by
  obtain ⟨⟨f1, f2⟩, _, ⟨d1, d2⟩, ⟨s1, s2⟩, ds, _⟩ := hx
  have hd : okDay (d0 + (i : Int)) = true := okDay_iff.mpr ⟨by omega, by omega⟩
  have e1 := field_on_ok l b f k d0 s w (d0 + (i : Int)) hz hb hd
  obtain ⟨f', ef, hf'⟩ := field_some hl b (f := f) (d0 := d0) (day := d0 + (i : Int)) (okField_iff.mpr ⟨f1, f2⟩) (by omega)
  rw [ef] at e1
  have e2 := line_onk_ok l f' (d0 + (i : Int)) (by omega) hf' hd
  have ed : dayLn l b f d0 (d0 + (i : Int)) = lineF l f' (d0 + (i : Int)) := by
    unfold dayLn
    rw [ef]
    rfl
  rw [lnsF_succ, cntF_snoc, ed]
  simp only [oD] at e1
  cases eL : lineF l f' (d0 + (i : Int)) with
  | none =>
    rw [eL] at e2
    simp only [lnO] at e2
    refine ⟨.v (.dat .none), .inr (.inl rfl), ?_⟩
    simp! [b_shares_1, e1, e2, pTk, cStep]
  | some p =>
    rw [eL] at e2
    simp only [lnO] at e2
    have cl : (cntF (lnsF l b f d0 i)).length ≤ i := by
      have := cntF_len (lnsF l b f d0 i)
      rw [lnsF_len] at this
      exact this
    have cv := cnt_val p (lnsF l b f d0 i)
    have oc := occ_le p (lnsF l b f d0 i)
    rw [lnsF_len] at oc
    generalize hC : cntF (lnsF l b f d0 i) = C at *
    have gv : (valD (encC (lowD s) C) (kK p)).getD (.tuple [.int 0, .int 1]) = lowD s ((cVal C p).getD 0) := by
      rw [valD_enc]
      refine getD_map ?_
      unfold lowD
      obtain ⟨z1, z2⟩ := low_zero s1
      show _ = pp (lowA 0 s) (lowB 0 s)
      rw [z1, z2]
    have lg := lowest_good (a := 1) (b := s) (by decide) s1 (sm_lit (by omega) (by omega)).log
    have lo : (1 : Int) / Int.gcd 1 s = 1 ∧ s / Int.gcd 1 s = s := low_one s
    rw [lo.1, lo.2] at lg
    generalize hc : (cVal C p).getD 0 = c at *
    have pt1 := low_pt6 (c := (c : Int)) (n := s) (by omega) s1 s2 (by omega)
    have pt2 : Pt 6 1 s := ⟨by decide, s1, by decide, by omega, Int.one_gcd⟩
    have pl := plus_ok pt1 pt2 (by decide)
    obtain ⟨st1, st2⟩ := low_step (c := (c : Int)) (n := s) (by omega) s1
    rw [st1, st2] at pl
    have pu : putD (encC (lowD s) C) (kK p) (pp (lowA ((c : Int) + 1) s) (lowB ((c : Int) + 1) s)) = encC (lowD s) (cStep C (some p)) := by
      show putD (encC (lowD s) C) (kK p) (lowD s (c + 1)) = _
      rw [putD_enc]
      simp only [cStep, hc]
    have hl2 : (encC (lowD s) C).length < 1000000 := by
      unfold encC
      rw [List.length_map]
      omega
    refine ⟨.v (.tk [.inl p.1, .inl p.2]), .inr (.inr ⟨_, rfl⟩), ?_⟩
    have kk : [Sum.inl p.1, Sum.inl p.2] = kK p := rfl
    unfold lowD at gv
    simp! [b_shares_1, e1, e2, pTk, vDGet, keysOf_kD, c_NOUGHT, gv, fcD, lg, pl, sDPutT, oTk, kk, hl2, pu]
theorem shares_comp {l : List NF} {b : Int} {s2 : Sl} {s : Int} (C : Ct) (hC : C.length ≤ 1000) : cmpM [5] (gN 5) tYesM e_shares_2 (sortD ((encC (lowD s) C).map fun p => tkD' p.1)) [] [.pin (.dat (fsD l)), .pin (.dat (.int b)), s2, .v (.dt (encC (lowD s) C)), .no, .no] = .ok ((shRows s C).map shD) [.pin (.dat (fsD l)), .pin (.dat (.int b)), s2, .v (.dt (encC (lowD s) C)), .no, .no] := by
  rw [enc_keys, sortD_P]
  have hlen : (sortP (C.map (·.1))).length = C.length := by rw [(sortP_perm _).length_eq, List.length_map]
  have c := cmp_fold (β := Unit) (is := [5]) (tg := gN 5) (mt := tYesM) (me := e_shares_2) (enc := iiD) (out := fun k => some (shD (k, (lowA ((cVal C k).getD 0 : Nat) s, lowB ((cVal C k).getD 0 : Nat) s)))) (g := [.pin (.dat (fsD l)), .pin (.dat (.int b)), s2, .v (.dt (encC (lowD s) C)), .no, .no]) (sortP (C.map (·.1))) [] (by simp [zl]; omega) (fun k hk => by
    obtain ⟨c, hc⟩ := cVal_sort hk
    have gv : valD (encC (lowD s) C) (kK k) = some (lowD s c) := by
      rw [valD_enc, hc]
      rfl
    refine ⟨[.pin (.dat (fsD l)), .pin (.dat (.int b)), s2, .v (.dt (encC (lowD s) C)), .no, .v (.dat (iiD k))], rfl, .inl ⟨_, _, [.pin (.dat (fsD l)), .pin (.dat (.int b)), s2, .v (.dt (encC (lowD s) C)), .no, .v (.dat (iiD k))], rfl, rfl, ?_, rfl⟩⟩
    rw [hc]
    simp! [e_shares_2, pTk, vDIx, iiD, keys_kK, gv, Option.getD]
    rfl)
  rw [c, List.nil_append]
  unfold shRows
  rw [List.filterMap_eq_map', List.map_map]
  rfl
theorem shares_ok {l : List NF} {G : List NF → Prop} [GW G] (hl : G l) (hz : l.length < gz) {b f k d0 s w : Int} (hb : birthF l b = some (.born f k d0 s w)) : m_shares [.dat (fsD l), .dat (.int b)] = .ok (.lst ((shRows s (ctF l b f d0 s)).map shD)) [.dat (fsD l), .dat (.int b)] := by
  have hx : FcOk (.born f k d0 s w) := by
    obtain ⟨x, hx, e⟩ := Option.map_eq_some_iff.mp hb
    have := (GW.w hl).ok x (List.mem_of_find?_eq_some hx)
    rw [e] at this
    exact this
  obtain ⟨_, _, ⟨d1, d2⟩, ⟨s1, s2⟩, ds, _⟩ := id hx
  have e1 := birth_of_ok hb
  obtain ⟨g', f1, s5, hs5, rfl⟩ := rng_inv (is := [4]) (tg := gN 4) (mb := b_shares_1) (lo := d0) (P := fun i g => ∃ s5, lnS s5 ∧ g = [.pin (.dat (fsD l)), .pin (.dat (.int b)), .v (.dat (fcD (.born f k d0 s w))), .v (.dt (encC (lowD s) (cntF (lnsF l b f d0 i)))), .no, s5]) s.toNat [.pin (.dat (fsD l)), .pin (.dat (.int b)), .v (.dat (fcD (.born f k d0 s w))), .v (.dt []), .no, .no] (fun i hi g hP => by
    obtain ⟨s5, _, rfl⟩ := hP
    obtain ⟨s5', h5, t⟩ := shares_turn hl hz hb hx (i := i) (by omega) (s5 := s5)
    exact ⟨_, rfl, _, .inl t, s5', h5, rfl⟩) ⟨.no, .inl rfl, rfl⟩
  have e2 : (d0 + s - d0).toNat = s.toNat := by congr 1; omega
  have fa : ∀ g, forRA [4] (gN 4) b_shares_1 [.int d0, .int (d0 + s)] g = forM [4] (gN 4) b_shares_1 (rng d0 s.toNat) (kl [4] g) := fun g => by
    rw [forRA_2 (by unfold gz; omega) (by unfold gz; omega) (by unfold gz; omega) (by unfold gz; omega), e2]
  have cl : (cntF (lnsF l b f d0 s.toNat)).length ≤ 60 := by
    have := cntF_len (lnsF l b f d0 s.toNat)
    rw [lnsF_len] at this
    omega
  have cm := shares_comp (l := l) (b := b) (s2 := .v (.dat (fcD (.born f k d0 s w)))) (s := s) (cntF (lnsF l b f d0 s.toNat)) (by omega)
  have so : sortOk ((encC (lowD s) (cntF (lnsF l b f d0 s.toNat))).map fun p => tkD' p.1) = true := by
    rw [enc_keys]
    exact sortOk_ii _
  unfold ctF
  simp only [fcD] at e1 f1 cm
  rcases hs5 with rfl | rfl | ⟨ks, rfl⟩ <;> simp! [m_shares, e1, oDNewT, fa, f1, frz_dt, oSortDT, so, cm]
-- needs: 
def bagD (cells : List Int) (i s m : Int) : List PyData := [.list (cells.map PyData.int), .int i, .int s, .int m]
def BagOk (b : List PyData) : Prop := ∃ cells i s m, b = bagD cells i s m ∧ 0 ≤ i
theorem pull_ok {b : List PyData} (hb : BagOk b) {n : Int} (h0 : 0 < n) (h1 : n.natAbs.log2 < 9000) : ∃ r b', BagOk b' ∧ 0 ≤ r ∧ r < n ∧ m__law_pull [.lst b, .dat (.int n)] = .ok (.dat (.int r)) [.lst b', .dat (.int n)] := by
  obtain ⟨cells, i, s, m, rfl, hi⟩ := hb
  have hn : n ≠ 0 := by omega
  have m1 : ∀ x : Int, mulOk x 7919 = true := fun x => mul_small (by decide) (by decide)
  have m2 : ∀ x : Int, mulOk x 48271 = true := fun x => mul_small (by decide) (by decide)
  have m3 : ∀ x : Int, mulOk x 40692 = true := fun x => mul_small (by decide) (by decide)
  have m4 : ∀ x : Int, mulOk x 69621 = true := fun x => mul_small (by decide) (by decide)
  have m5 : ∀ x : Int, mulOk (x % 2147483647) (x % 2147483647) = true := fun x => mul_small (by omega) (by omega)
  have l7 : (7 : Int).natAbs.log2 < 9000 := by decide
  have e1 : i + 1 - 1 = i := by omega
  have ar : ∀ (ds : List PyData), (ds.length : Int) = ((ds.length : Nat) : Int) := fun _ => rfl
  by_cases hs : s < 2
  · by_cases hc : i + 1 ≤ (cells.length : Int)
    · have hlt : i.toNat < cells.length := by omega
      have eg : atI (cells.map PyData.int) i = some (.int cells[i.toNat]) := by
        have e := atI_nat (cells.map PyData.int) i.toNat
        rw [Int.toNat_of_nonneg hi] at e
        rw [e, List.getElem?_map, List.getElem?_eq_getElem hlt]
        rfl
      have hn1 : ¬ ((cells.length : Int) < i + 1) := by omega
      by_cases h18 : cells[i.toNat] < 1000000000000000000
      · refine ⟨?r1, bagD cells (i + 1) s m, ⟨cells, i + 1, s, m, rfl, by omega⟩, ?_, ?_, ?e1⟩
        case e1 =>
          simp! only [r__law_pull_1, r__law_pull_2, m__law_pull, bagD, hs, hc, e1, eg, m1, m2, m3, m4, m5, l7, h0, h18, hn1, List.length_map]
          rfl
        · exact Int.emod_nonneg _ hn
        · exact Int.emod_lt_of_pos _ h0
      · refine ⟨?r2, bagD cells (i + 1) ?s2 m, ⟨cells, i + 1, ?s2, m, rfl, by omega⟩, ?_, ?_, ?e2⟩
        case e2 =>
          simp! only [r__law_pull_1, r__law_pull_2, m__law_pull, bagD, hs, hc, e1, eg, m1, m2, m3, m4, m5, l7, h0, h1, h18, hn1, List.length_map]
          rfl
        · exact Int.emod_nonneg _ hn
        · exact Int.emod_lt_of_pos _ h0
    · have hn1 : (cells.length : Int) < i + 1 := by omega
      refine ⟨?r3, bagD cells (i + 1) s m, ⟨cells, i + 1, s, m, rfl, by omega⟩, ?_, ?_, ?e3⟩
      case e3 =>
        simp! only [r__law_pull_1, r__law_pull_2, m__law_pull, bagD, hs, hc, e1, m1, m2, m3, m4, m5, l7, h0, hn1, List.length_map]
        rfl
      · exact Int.emod_nonneg _ hn
      · exact Int.emod_lt_of_pos _ h0
  · refine ⟨?r4, bagD cells i ?s4 m, ⟨cells, i, ?s4, m, rfl, hi⟩, ?_, ?_, ?e4⟩
    case e4 =>
      simp! only [r__law_pull_1, r__law_pull_2, m__law_pull, bagD, hs, h0, h1, List.length_map]
      rfl
    · exact Int.emod_nonneg _ hn
    · exact Int.emod_lt_of_pos _ h0
-- needs: _law_pull
theorem for_bag : ∀ (l : List Int) (m : Int) (g0 g1 : Sl), ∃ m', forM [3] (gN 3) b__law_bag_1 (l.map PyData.int) [g0, g1, .v (.dat (.int m)), .no] = .nx [g0, g1, .v (.dat (.int m')), .no]
  | [], m, g0, g1 => ⟨m, rfl⟩
  | x :: l, m, g0, g1 => by
    obtain ⟨m', hm⟩ := for_bag l ((m * 1543 + x) % 2147483629) g0 g1
    refine ⟨m', ?_⟩
    have m1 : ∀ x : Int, mulOk x 1543 = true := fun x => mul_small (by decide) (by decide)
    rw [List.map_cons]
    unfold forM
    simp! only [b__law_bag_1, m1, hm]
theorem bag_ok (ns : List Int) : ∃ b, BagOk b ∧ m__law_bag [.scr ns] = .ok (.lst b) [.scr ns] := by
  obtain ⟨m', hm⟩ := for_bag (cutD ns none (some 63)) (17 + (cutD ns none (some 63)).length) (.pin (.scr ns)) (.v (.dat (.list ((cutD ns none (some 63)).map PyData.int))))
  refine ⟨bagD (cutD ns none (some 63)) 0 0 m', ⟨_, 0, 0, m', rfl, by decide⟩, ?_⟩
  have e : cutD (ns.map PyData.int) none (some 63) = (cutD ns none (some 63)).map PyData.int := cut_map _ _ _ _
  simp! only [m__law_bag, oSlS, e, hm, List.length_map, bagD]
-- needs:
theorem atI_end {α : Type} (l : List α) (h : l ≠ []) : atI l (-1) = some (l.getLast h) := by
  have hp : 0 < l.length := List.length_pos_iff.mpr h
  rw [atI2]
  have e : ixN l.length (-1) = some (l.length - 1) := by
    unfold ixN
    simp
    omega
  rw [e, Option.bind_some, List.getLast_eq_getElem]
  exact List.getElem?_eq_getElem (by omega)
theorem cut_to {α : Type} (l : List α) (j : Nat) : cutD l none (some (j : Int)) = l.take j := by
  unfold cutD HT.sIx
  simp only
  have e2 : ¬ ((j : Int) < 0) := by omega
  simp only [e2, if_false]
  by_cases h : j ≤ l.length
  · have m2 : min (j : Int).toNat l.length = j := by omega
    simp [Nat.min_eq_left h]
  · simp [Nat.min_eq_right (Nat.le_of_lt (Nat.lt_of_not_le h))]
    exact (List.take_of_length_le (by omega)).symm
theorem birth_born {l : List NF} {b : Int} {x : Fc} (h : birthF l b = some x) : ∃ f k d s w, x = .born f k d s w := by
  obtain ⟨y, hy, e⟩ := Option.map_eq_some_iff.mp h
  have := List.find?_some hy
  simp only [isB, Bool.and_eq_true] at this
  rw [e] at this
  cases x <;> first | (cases this.2; done) | exact ⟨_, _, _, _, _, rfl⟩
theorem gd_ints0 (r : List Int) (h : r.length ≤ gz) : Gd 1 (.list (r.map PyData.int)) := gd_lst (by simpa using h) fun d hd => by
  obtain ⟨i, _, rfl⟩ := List.mem_map.mp hd
  exact gd_int _ _
theorem birth_in {l : List NF} {G : List NF → Prop} [GW G] (hl : G l) {x : NF} (hx : x ∈ l) (hb : isBorn x.2 = true) : birthF l x.1 = some x.2 := by
  unfold birthF
  have hw := GW.w hl
  cases e : l.find? (isB x.1) with
  | none =>
    have := List.find?_eq_none.mp e x hx
    simp [isB, hb] at this
  | some y =>
    have hy := List.mem_of_find?_eq_some e
    have h1 := List.find?_some e
    simp only [isB, Bool.and_eq_true, decide_eq_true_eq] at h1
    rw [Option.map_some, hw.bu y hy x hx h1.2 hb h1.1]
-- needs: x_days
theorem need_year_ok {d : Int} (h : okYear d = true) : m_need_year [.dat (.int d)] = .ok (.dat .none) [.dat (.int d)] := by
  obtain ⟨h0, h1⟩ := okYear_iff.mp h
  simp! only [m_need_year, c_LAST_YEAR, h0, h1]
-- needs: in_forceg x_words x_facts x_loop need_year
def okParish (f : Int) : Bool := decide (1 ≤ f) && decide (f ≤ 8)
def okKind (f : Int) : Bool := decide (1 ≤ f) && decide (f ≤ 6)
theorem okParish_iff {d : Int} : okParish d = true ↔ 1 ≤ d ∧ d ≤ 8 := by simp [okParish]
theorem okKind_iff {d : Int} : okKind d = true ↔ 1 ≤ d ∧ d ≤ 6 := by simp [okKind]
theorem need_parish_ok {d : Int} (h : okParish d = true) : m_need_parish [.dat (.int d)] = .ok (.dat .none) [.dat (.int d)] := by
  obtain ⟨h0, h1⟩ := okParish_iff.mp h
  simp! [m_need_parish, c_PARISHES, h0, h1]
theorem need_kind_ok {d : Int} (h : okKind d = true) : m_need_kind [.dat (.int d)] = .ok (.dat .none) [.dat (.int d)] := by
  obtain ⟨h0, h1⟩ := okKind_iff.mp h
  simp! [m_need_kind, c_KINDS, h0, h1]
def cusR (l : List NF) (p k : Int) : List (Rw Cu) := l.filterMap fun x => match x.2 with
  | .custom p' k' y c => if p' = p ∧ k' = k then some (x.1, y, c) else none
  | _ => none
def customF (l : List NF) (p k y : Int) : Cu := (forceG y (cusR l p k)).getD (.kind 0)
def cusO (p k : Int) (x : NF) : Option PyData := match x.2 with
  | .custom p' k' y c => if p' = p ∧ k' = k then some (rwE cuD (x.1, y, c)) else none
  | _ => none
theorem cusO_map (l : List NF) (p k : Int) : l.filterMap (cusO p k) = (cusR l p k).map (rwE cuD) := by
  unfold cusR cusO
  rw [List.map_filterMap]
  congr 1
  funext x
  cases x.2 <;> simp
theorem cus_loop {g0 g3 : Sl} (l : List NF) (p k : Int) (hl : l.length ≤ gz) : forM [5, 6] (gT 2 (gsCons (gN 5) (gsCons (gN 6) gsNil))) b_custom_of_1 (l.map nfD) [g0, .pin (.dat (.int p)), .pin (.dat (.int k)), g3, .v (.lst []), .no, .no, .no] = .nx [g0, .pin (.dat (.int p)), .pin (.dat (.int k)), g3, .v (.lst ((cusR l p k).map (rwE cuD))), .no, .no, .no] := by
  have r := forM_app (is := [5, 6]) (tg := gT 2 (gsCons (gN 5) (gsCons (gN 6) gsNil))) (mb := b_custom_of_1) (enc := nfD) (S := fun acc => [g0, .pin (.dat (.int p)), .pin (.dat (.int k)), g3, .v (.lst acc), .no, .no, .no]) (f := cusO p k) l [] (by unfold gz at hl; simp [zl]; omega) (fun x hx acc ha => by
    clear hx
    obtain ⟨n, x⟩ := x
    refine ⟨[g0, .pin (.dat (.int p)), .pin (.dat (.int k)), g3, .v (.lst acc), .v (.dat (.int n)), .v (.dat (fcD x)), .no], rfl, ?_⟩
    cases x
    case custom p' k' y c =>
      by_cases h1 : p' = p
      · by_cases h2 : k' = k
        · refine ⟨?gA, .inl ?eA, ?kA⟩
          case eA =>
            simp! [b_custom_of_1, fcD, fw_lies, fw_held, fw_free, fw_custom, fw_takers, fw_cut, fw_born, fw_driven, fw_pass, fw_render, fw_paid, fw_claim, h1, h2, ha]
            rfl
          case kA => simp [kl, st, cusO, h1, h2]
        · refine ⟨?gB, .inl ?eB, ?kB⟩
          case eB =>
            simp! [b_custom_of_1, fcD, fw_lies, fw_held, fw_free, fw_custom, fw_takers, fw_cut, fw_born, fw_driven, fw_pass, fw_render, fw_paid, fw_claim, h1, h2]
            rfl
          case kB => simp [kl, st, cusO, h1, h2]
      · refine ⟨?gC, .inl ?eC, ?kC⟩
        case eC =>
          simp! [b_custom_of_1, fcD, fw_lies, fw_held, fw_free, fw_custom, fw_takers, fw_cut, fw_born, fw_driven, fw_pass, fw_render, fw_paid, fw_claim, h1]
          rfl
        case kC => simp [kl, st, cusO, h1]
    all_goals exact ⟨_, .inl (by simp! [b_custom_of_1, fcD, fw_lies, fw_held, fw_free, fw_custom, fw_takers, fw_cut, fw_born, fw_driven, fw_pass, fw_render, fw_paid, fw_claim]; rfl), by simp [kl, st, cusO]⟩)
  rw [List.nil_append, cusO_map] at r
  exact r
theorem custom_of_ok (l : List NF) (p k y : Int) (hl : l.length ≤ gz) (hp : okParish p = true) (hk : okKind k = true) (hy : okYear y = true) : m_custom_of [.dat (.list (l.map nfD)), .dat (.int p), .dat (.int k), .dat (.int y)] = .ok (.dat (cuD (customF l p k y))) [.dat (.list (l.map nfD)), .dat (.int p), .dat (.int k), .dat (.int y)] := by
  have lo := cus_loop (g0 := .pin (.dat (.list (l.map nfD)))) (g3 := .pin (.dat (.int y))) l p k hl
  have i := in_force_g cuD (cusR l p k) y
  unfold customF
  cases e : forceG y (cusR l p k) with
  | none =>
    rw [e] at i
    simp only [oD] at i
    simp! [m_custom_of, need_parish_ok hp, need_kind_ok hk, need_year_ok hy, lo, r_custom_of_2, i, c_PLAIN, Option.getD_none, cuD]
  | some c =>
    rw [e] at i
    simp only [oD] at i
    have n : isNone (cuD c) = false := by cases c <;> rfl
    simp! [m_custom_of, need_parish_ok hp, need_kind_ok hk, need_year_ok hy, lo, r_custom_of_2, i, n, Option.getD_some]
/-! what arises -/
abbrev Ar5 := Int × Int × Int × (Int × Int) × Int
abbrev arD (r : Ar5) : PyData := .tuple [.int r.1, .int r.2.1, .int r.2.2.1, pp r.2.2.2.1.1 r.2.2.2.1.2, .int r.2.2.2.2]
def cutRows (l : List NF) (n f d c : Int) : List Ar5 := match lineF l f d with
  | none => []
  | some p => [(d, p.1, p.2, (c, 1), n)]
def birRows (l : List NF) (n f d s : Int) : List Ar5 := (shRows s (ctF l n f d s)).map fun r => (d + s, r.1.1, r.1.2, r.2, n)
def arOf (l : List NF) (kd : Int) (x : NF) : List Ar5 := match x.2 with
  | .cut f k d c => if k = kd then cutRows l x.1 f d c else []
  | .born f k d s _ => if k = kd then birRows l x.1 f d s else []
  | _ => []
def allAr (l : List NF) (kd : Int) : List Ar5 := l.flatMap (arOf l kd)
theorem arOf_len {l : List NF} (kd : Int) {x : NF} (h : FcOk x.2) : (arOf l kd x).length ≤ 60 := by
  obtain ⟨n, x⟩ := x
  unfold arOf
  cases x <;> simp
  · split
    · unfold cutRows
      split <;> simp
    · simp
  · split
    · unfold birRows
      rw [List.length_map, sh_len]
      exact ct_len h.2.2.2.1.2
    · simp
theorem allAr_len {l : List NF} (kd : Int) (h : ∀ x ∈ l, FcOk x.2) : (allAr l kd).length ≤ 60 * l.length := by
  unfold allAr
  have : ∀ l' : List NF, (∀ x ∈ l', FcOk x.2) → (l'.flatMap (arOf l kd)).length ≤ 60 * l'.length := by
    intro l' h
    induction l' with
    | nil => simp
    | cons x l' ih =>
      rw [List.flatMap_cons, List.length_append]
      have := ih fun y hy => h y (List.mem_cons_of_mem _ hy)
      have := arOf_len (l := l) kd (h x List.mem_cons_self)
      rw [List.length_cons]
      omega
  exact this l h
theorem of_cut_ok {l : List NF} (hz : l.length ≤ gz) {n f k d c : Int} (h : FcOk (.cut f k d c)) : m_of_cut [.dat (fsD l), .dat (.int n), .dat (fcD (.cut f k d c))] = .ok (.lst ((cutRows l n f d c).map arD)) [.dat (fsD l), .dat (.int n), .dat (fcD (.cut f k d c))] := by
  obtain ⟨⟨f1, f2⟩, _, ⟨d1, d2⟩, _⟩ := h
  have e := line_onk_ok l f d hz (okField_iff.mpr ⟨f1, f2⟩) (okDay_iff.mpr ⟨d1, d2⟩)
  unfold cutRows
  cases q : lineF l f d with
  | none =>
    rw [q] at e
    simp only [lnO] at e
    simp! [m_of_cut, fcD, e]
  | some p =>
    rw [q] at e
    simp only [lnO] at e
    simp! [m_of_cut, fcD, e, frz_tk, kD]
theorem falls_on_ok {l : List NF} {b f k d0 s w : Int} (hb : birthF l b = some (.born f k d0 s w)) : m_falls_on [.dat (fsD l), .dat (.int b)] = .ok (.dat (.int (d0 + s))) [.dat (fsD l), .dat (.int b)] := by
  have e1 := birth_of_ok hb
  simp! [m_falls_on, e1, fcD]
theorem of_birth_ok {l : List NF} {G : List NF → Prop} [GW G] (hl : G l) (hz : l.length < gz) {b f k d0 s w : Int} (hb : birthF l b = some (.born f k d0 s w)) (hs : s ≤ 60) : m_of_birth [.dat (fsD l), .dat (.int b)] = .ok (.lst ((birRows l b f d0 s).map arD)) [.dat (fsD l), .dat (.int b)] := by
  have e1 := falls_on_ok hb
  have e2 := shares_ok hl hz hb
  have c := cmp_fold (β := Unit) (is := [3, 4]) (tg := gT 2 (gsCons (gN 3) (gsCons (gN 4) gsNil))) (mt := tYesM) (me := e_of_birth_1) (enc := shD) (out := fun r => some (arD (d0 + s, r.1.1, r.1.2, r.2, b))) (g := [.pin (.dat (fsD l)), .pin (.dat (.int b)), .v (.dat (.int (d0 + s))), .no, .no]) (shRows s (ctF l b f d0 s)) [] (by
    have := ct_len (l := l) (b := b) (f := f) (d0 := d0) hs
    rw [sh_len]
    simp [zl]
    omega) (fun r _ => by
    obtain ⟨⟨h, p⟩, a, c⟩ := r
    refine ⟨[.pin (.dat (fsD l)), .pin (.dat (.int b)), .v (.dat (.int (d0 + s))), .v (.dat (iiD (h, p))), .v (.dat (pp a c))], rfl, .inl ⟨_, _, [.pin (.dat (fsD l)), .pin (.dat (.int b)), .v (.dat (.int (d0 + s))), .v (.dat (iiD (h, p))), .v (.dat (pp a c))], rfl, rfl, ?_, rfl⟩⟩
    simp! [e_of_birth_1, iiD])
  rw [List.nil_append, List.filterMap_eq_map'] at c
  have ee : (shRows s (ctF l b f d0 s)).map (fun r => arD (d0 + s, r.1.1, r.1.2, r.2, b)) = (birRows l b f d0 s).map arD := by
    unfold birRows
    rw [List.map_map]
    rfl
  rw [ee] at c
  simp! [m_of_birth, e1, e2, c]
theorem arisings_loop {l : List NF} {G : List NF → Prop} [GW G] (hl : G l) (hz : l.length ≤ 2000) (kd : Int) {g0 : Sl} (hg0 : g0 = .pin (.dat (fsD l))) : ∀ (l' : List NF) (acc : List Ar5), (∀ x ∈ l', x ∈ l) → acc.length + 60 * l'.length ≤ 200000 →
    forM [3, 4] (gT 2 (gsCons (gN 3) (gsCons (gN 4) gsNil))) b_arisings_1 (l'.map nfD) [g0, .pin (.dat (.int kd)), .v (.dat (.list (acc.map arD))), .no, .no] = .nx [g0, .pin (.dat (.int kd)), .v (.dat (.list ((acc ++ l'.flatMap (arOf l kd)).map arD))), .no, .no]
  | [], acc, _, _ => by simp [forM]
  | (n, x) :: l', acc, hs, hc => by
    subst hg0
    have hx := hs (n, x) List.mem_cons_self
    have ok := (GW.w hl).ok _ hx
    have al := arOf_len (l := l) kd ok
    simp only [List.length_cons] at hc
    have ih := arisings_loop hl hz kd rfl l' (acc ++ arOf l kd (n, x)) (fun y hy => hs y (List.mem_cons_of_mem _ hy)) (by rw [List.length_append]; omega)
    rw [List.flatMap_cons, ← List.append_assoc, ← ih, List.map_cons]
    conv => lhs; unfold forM
    have hz1 : l.length < gz := by unfold gz; omega
    cases x
    case cut f k d c =>
      by_cases hk : k = kd
      · have e := of_cut_ok (l := l) (n := n) (by omega) ok
        have ea : arOf l kd (n, .cut f k d c) = cutRows l n f d c := by simp [arOf, hk]
        rw [ea] at al ⊢
        have h1 : (acc.map arD).length + ((cutRows l n f d c).map arD).length ≤ 1000000 := by
          rw [List.length_map, List.length_map]
          omega
        rw [List.map_append]
        generalize (cutRows l n f d c).map arD = R at *
        generalize acc.map arD = A at *
        subst hk
        simp only [fcD] at e
        simp! [b_arisings_1, fcD, fw_lies, fw_held, fw_free, fw_custom, fw_takers, fw_cut, fw_born, fw_driven, fw_pass, fw_render, fw_paid, fw_claim, e, h1]
      · have ea : arOf l kd (n, .cut f k d c) = [] := by simp [arOf, hk]
        rw [ea, List.append_nil]
        simp! [b_arisings_1, fcD, fw_lies, fw_held, fw_free, fw_custom, fw_takers, fw_cut, fw_born, fw_driven, fw_pass, fw_render, fw_paid, fw_claim, hk]
    case born f k d s w =>
      by_cases hk : k = kd
      · have e := of_birth_ok hl hz1 (birth_in hl hx rfl) ok.2.2.2.1.2
        have ea : arOf l kd (n, .born f k d s w) = birRows l n f d s := by simp [arOf, hk]
        rw [ea] at al ⊢
        have h1 : (acc.map arD).length + ((birRows l n f d s).map arD).length ≤ 1000000 := by
          rw [List.length_map, List.length_map]
          omega
        rw [List.map_append]
        generalize (birRows l n f d s).map arD = R at *
        generalize acc.map arD = A at *
        subst hk
        simp! [b_arisings_1, fcD, fw_lies, fw_held, fw_free, fw_custom, fw_takers, fw_cut, fw_born, fw_driven, fw_pass, fw_render, fw_paid, fw_claim, e, h1]
      · have ea : arOf l kd (n, .born f k d s w) = [] := by simp [arOf, hk]
        rw [ea, List.append_nil]
        simp! [b_arisings_1, fcD, fw_lies, fw_held, fw_free, fw_custom, fw_takers, fw_cut, fw_born, fw_driven, fw_pass, fw_render, fw_paid, fw_claim, hk]
    all_goals
      first
        | (have ea : ∀ x, arOf l kd (n, x) = arOf l kd (n, x) := fun _ => rfl)
      show _ = forM _ _ _ _ [_, _, .v (.dat (.list ((acc ++ []).map arD))), _, _]
      rw [List.append_nil]
      simp! [b_arisings_1, fcD, fw_lies, fw_held, fw_free, fw_custom, fw_takers, fw_cut, fw_born, fw_driven, fw_pass, fw_render, fw_paid, fw_claim]
theorem alike_ar (a b : Ar5) : PySem.W.alike (arD a) (arD b) = true := by simp [PySem.W.alike, PySem.W.alikeAll]
theorem sortOk_ar (l : List Ar5) : sortOk (l.map arD) = true := sortOk_of alike_ar (.inl fun _ => rfl) fun _ => by simp [PyData.depth, PyData.depthAll]
theorem arisings_ok {l : List NF} {G : List NF → Prop} [GW G] (hl : G l) (hz : l.length ≤ 2000) {kd : Int} (hk : okKind kd = true) : m_arisings [.dat (fsD l), .dat (.int kd)] = .ok (.lst (sortD ((allAr l kd).map arD))) [.dat (fsD l), .dat (.int kd)] := by
  have f := arisings_loop hl hz kd (g0 := .pin (.dat (fsD l))) rfl l [] (fun _ h => h) (by simp; omega)
  rw [List.nil_append, List.map_nil] at f
  have so := fSorted_l _ (sortOk_ar (allAr l kd))
  have e : l.flatMap (arOf l kd) = allAr l kd := rfl
  rw [e] at f
  generalize (allAr l kd).map arD = R at *
  simp! [m_arisings, need_kind_ok hk, f, so]
/-! rows of what arises, in units -/
theorem best_fold {α : Type} (w : Int) : ∀ (l : List (Rw α)) (o : Option (Rw α)) (x : Rw α), l.foldl (bestG w) o = some x → x ∈ l ∨ o = some x
  | [], o, x, h => .inr h
  | r :: l, o, x, h => by
    rcases best_fold w l _ x h with h | h
    · exact .inl (List.mem_cons_of_mem _ h)
    · unfold bestG at h
      split at h
      · cases o with
        | none =>
          simp only [Option.some.injEq] at h
          exact .inl (h ▸ List.mem_cons_self)
        | some c =>
          simp only [] at h
          split at h
          · simp only [Option.some.injEq] at h
            exact .inl (h ▸ List.mem_cons_self)
          · exact .inr h
      · exact .inr h
theorem force_mem {α : Type} {w : Int} {l : List (Rw α)} {a : α} (h : forceG w l = some a) : ∃ r ∈ l, r.2.2 = a := by
  unfold forceG bestOfR at h
  obtain ⟨x, hx, rfl⟩ := Option.map_eq_some_iff.mp h
  rcases best_fold w l none x hx with h | h
  · exact ⟨x, h, rfl⟩
  · simp at h
theorem lies_in {l : List NF} (hl : ∀ x ∈ l, FcOk x.2) {f d p : Int} (h : parishF l f d = some p) : inB 1 8 p := by
  obtain ⟨r, hr, rfl⟩ := force_mem h
  obtain ⟨⟨n, x⟩, hx, e⟩ := List.mem_filterMap.mp hr
  cases x <;> simp at e
  obtain ⟨_, e⟩ := e
  rw [← e]
  exact (hl _ hx).2.1
theorem held_in {l : List NF} (hl : ∀ x ∈ l, FcOk x.2) {f d p : Int} (h : holderF l f d = some p) : inB 1 8 p := by
  unfold holderF at h
  cases q : forceG d (heldR l f) with
  | none =>
    rw [q] at h
    simp [nz] at h
  | some v =>
    rw [q] at h
    obtain ⟨r, hr, e0⟩ := force_mem q
    obtain ⟨⟨n, x⟩, hx, e⟩ := List.mem_filterMap.mp hr
    have hv : inB 0 8 v := by
      cases x <;> simp at e
      obtain ⟨_, e⟩ := e
      rw [← e0, ← e]
      exact (hl _ hx).2.1
    by_cases z : v = 0
    · subst z
      simp [nz] at h
    · have : nz (some v) = some v := by
        unfold nz
        split
        · rename_i e
          simp only [Option.some.injEq] at e
          exact absurd e z
        · rfl
      rw [this] at h
      simp only [Option.some.injEq] at h
      subst h
      unfold inB at *
      omega
theorem line_in {l : List NF} (hl : ∀ x ∈ l, FcOk x.2) {f d : Int} {p : Int × Int} (h : lineF l f d = some p) : inB 1 8 p.1 ∧ inB 1 8 p.2 := by
  unfold lineF at h
  split at h
  · rename_i a b h1 h2
    split at h
    · simp at h
    · simp only [Option.some.injEq] at h
      subst h
      exact ⟨held_in hl h1, lies_in hl h2⟩
  · simp at h
def zOf (q : Int × Int) : Nat := (q.1 * (LU : Int) / q.2).toNat
theorem zOf_u (z : Nat) : zOf (uA z, uB z) = z := by
  unfold zOf
  have := uB_pos z
  rw [show (uA z, uB z).1 = uA z from rfl, show (uA z, uB z).2 = uB z from rfl, u_eq, Int.mul_ediv_cancel _ (by omega)]
  omega
/-- what a row holds -/
def RowOk (r : Ar5) : Prop := inB 0 3999 r.1 ∧ inB 1 8 r.2.1 ∧ inB 1 8 r.2.2.1 ∧ r.2.2.2.1 = (uA (zOf r.2.2.2.1), uB (zOf r.2.2.2.1)) ∧ zOf r.2.2.2.1 ≤ 10000 * LU ∧ 1 ≤ zOf r.2.2.2.1
theorem row_mk {d h p n : Int} {q : Int × Int} {z : Nat} (e : q = (uA z, uB z)) (hd : inB 0 3999 d) (hh : inB 1 8 h) (hp : inB 1 8 p) (h1 : z ≤ 10000 * LU) (h2 : 1 ≤ z) : RowOk (d, h, p, q, n) := by
  subst e
  unfold RowOk
  simp only [zOf_u]
  exact ⟨hd, hh, hp, trivial, h1, h2⟩
theorem cut_row {l : List NF} (hl : ∀ x ∈ l, FcOk x.2) {n f k d c : Int} (h : FcOk (.cut f k d c)) : ∀ r ∈ cutRows l n f d c, RowOk r := by
  obtain ⟨_, _, hd, hc⟩ := h
  intro r hr
  unfold cutRows at hr
  cases q : lineF l f d with
  | none => rw [q] at hr; simp at hr
  | some p =>
    rw [q] at hr
    simp only [List.mem_singleton] at hr
    subst hr
    obtain ⟨a1, a2⟩ := line_in hl q
    have e : ((c, (1 : Int)) : Int × Int) = (uA (c.toNat * LU), uB (c.toNat * LU)) := by
      rw [(u_whole c.toNat).1, (u_whole c.toNat).2]
      have := hc.1
      rw [show ((c.toNat : Nat) : Int) = c by omega]
    have ez : zOf (c, 1) = c.toNat * LU := by rw [e, zOf_u]
    refine ⟨hd, a1, a2, ?_, ?_, ?_⟩
    · show (c, (1 : Int)) = (uA (zOf (c, 1)), uB (zOf (c, 1)))
      rw [ez]
      exact e
    · show zOf (c, 1) ≤ _
      rw [ez]
      exact Nat.mul_le_mul_right _ (by have := hc.2; omega)
    · show 1 ≤ zOf (c, 1)
      rw [ez]
      have := Nat.mul_le_mul (show 1 ≤ c.toNat by have := hc.1; omega) LU_pos
      omega
theorem bir_row {l : List NF} (hl : ∀ x ∈ l, FcOk x.2) {n f k d s w : Int} (h : FcOk (.born f k d s w)) : ∀ r ∈ birRows l n f d s, RowOk r := by
  obtain ⟨_, _, hd, hs, hds, _⟩ := h
  intro r hr
  unfold birRows shRows at hr
  rw [List.map_map] at hr
  obtain ⟨key, hk, rfl⟩ := List.mem_map.mp hr
  have hk' := (sortP_perm _).mem_iff.mp hk
  have m := (cntF_mem _ _).mp hk'
  have oc : (cVal (ctF l n f d s) key).getD 0 = occ key (lnsF l n f d s.toNat) := cnt_val _ _
  have o1 : 1 ≤ occ key (lnsF l n f d s.toNat) := by
    unfold occ
    exact List.countP_pos_iff.mpr ⟨_, m, by simp⟩
  have o2 : occ key (lnsF l n f d s.toNat) ≤ s.toNat := by
    have := occ_le key (lnsF l n f d s.toNat)
    simpa [lnsF] using this
  obtain ⟨i, hi, e⟩ := List.mem_map.mp m
  obtain ⟨a1, a2⟩ := line_in hl e
  obtain ⟨s, rfl⟩ : ∃ m : Nat, s = (m : Int) := ⟨s.toNat, by have := hs.1; omega⟩
  have s1 : 1 ≤ s := by have := hs.1; omega
  have s2 : s ≤ 60 := by have := hs.2; omega
  simp only [Int.toNat_natCast] at *
  have sh := u_share (c := occ key (lnsF l n f d s)) s1 s2
  have ep : ((lowA ((cVal (ctF l n f d s) key).getD 0 : Nat) (s : Int), lowB ((cVal (ctF l n f d s) key).getD 0 : Nat) (s : Int)) : Int × Int) = (uA (occ key (lnsF l n f d s) * (LU / s)), uB (occ key (lnsF l n f d s) * (LU / s))) := by
    rw [oc, sh.1, sh.2]
  have dv := Nat.div_mul_cancel (LU_dvd s1 s2)
  have pL := LU_pos
  refine row_mk ep ?_ a1 a2 ?_ ?_
  · unfold inB at *
    omega
  · have := Nat.mul_le_mul_right (LU / s) o2
    rw [Nat.mul_comm s] at this
    omega
  · have p : 1 ≤ LU / s := by
      by_cases z : LU / s = 0
      · rw [z] at dv
        omega
      · exact Nat.pos_of_ne_zero z
    have := Nat.mul_le_mul o1 p
    rwa [Nat.mul_one] at this
theorem ar_ok {l : List NF} (hl : ∀ x ∈ l, FcOk x.2) (k : Int) : ∀ r ∈ allAr l k, RowOk r := by
  intro r hr
  obtain ⟨⟨n, x⟩, hx, h⟩ := List.mem_flatMap.mp hr
  have ok := hl _ hx
  unfold arOf at h
  cases x <;> simp at h
  · exact cut_row hl ok r h.2
  · exact bir_row hl ok r h.2
-- needs: days need_year
theorem l100 : (100 : Int).natAbs.log2 < 9000 := by decide
theorem year_of_ok {d : Int} (h : okDay d = true) : m_year_of [.dat (.int d)] = .ok (.dat (.int (d / 100))) [.dat (.int d)] := by
  simp! only [m_year_of, c_YEAR_DAYS, need_day_ok h, l100]
/-! the course of a line: days in order -/
theorem fm_if {α β : Type} (p : α → Bool) (f : α → β) (L : List α) : L.filterMap (fun t => if p t = true then some (f t) else none) = (L.filter p).map f := by
  induction L with
  | nil => rfl
  | cons a L ih =>
    by_cases h : p a = true
    · simp [List.filterMap_cons, h, ih]
    · simp [List.filterMap_cons, h, ih]
def arS (l : List NF) (k : Int) : List Ar5 := (allAr l k).mergeSort (PySem.W.dataLe false arD)
theorem arS_perm (l : List NF) (k : Int) : (arS l k).Perm (allAr l k) := List.mergeSort_perm _ _
theorem arS_len {l : List NF} (hl : ∀ x ∈ l, FcOk x.2) (k : Int) : (arS l k).length ≤ 60 * l.length := by
  rw [(arS_perm l k).length_eq]
  exact allAr_len k hl
theorem arisings_s {l : List NF} {G : List NF → Prop} [GW G] (hl : G l) (hz : l.length ≤ 2000) {kd : Int} (hk : okKind kd = true) : m_arisings [.dat (fsD l), .dat (.int kd)] = .ok (.lst ((arS l kd).map arD)) [.dat (fsD l), .dat (.int kd)] := by
  rw [arisings_ok hl hz hk, sortD_map]
  rfl
theorem cus_ok {l : List NF} (hl : ∀ x ∈ l, FcOk x.2) (p k y : Int) : CuOk (customF l p k y) := by
  unfold customF
  cases q : forceG y (cusR l p k) with
  | none => exact ⟨by decide, by decide⟩
  | some c =>
    obtain ⟨r, hr, e0⟩ := force_mem q
    obtain ⟨⟨n, x⟩, hx, e⟩ := List.mem_filterMap.mp hr
    have ok := hl _ hx
    cases x <;> simp at e
    obtain ⟨_, e⟩ := e
    subst e0
    rw [← e]
    exact ok.2.2.2
theorem need_holder_ok {h : Int} (hh : inB 1 8 h) : m_need_holder [.dat (.int h)] = .ok (.dat .none) [.dat (.int h)] := by
  obtain ⟨h0, h1⟩ := hh
  simp! [m_need_holder, c_HOLDERS, h0, h1]
-- needs: x_facts
theorem fEq_pq (a b c d : Int) : fEq (.tuple [.int a, .int b]) (.tuple [.int c, .int d]) = ob (decide (a = c ∧ b = d)) := by
  have s1 : ∀ a b : Int, SeqAt.shaped (.tuple [.int a, .int b]) = true := fun a b => (gd_pair 0 a b).shaped (by decide)
  unfold fEq
  rw [if_pos ⟨s1 a b, s1 c d⟩]
  congr 1
  simp only [PyData.eqv, PyData.eqvAll, Bool.and_true]
  rw [Bool.decide_and]
  congr 1
/-! the numbers behind a line -/
def addN (acc : List Int) (n : Int) : List Int := if n ∈ acc then acc else acc ++ [n]
abbrev dkL (acc : List Int) : List (Key × PyData) := acc.map fun n => ((Sum.inl n : Key), PyData.bool true)
theorem putT (acc : List Int) (n : Int) : putD (dkL acc) (Sum.inl n : Key) (.bool true) = dkL (addN acc n) := by
  unfold putD addN
  have e : ((dkL acc).any fun kv => decide (kv.1 = (Sum.inl n : Key))) = decide (n ∈ acc) := by
    rw [List.any_map]
    apply Bool.eq_iff_iff.mpr
    rw [List.any_eq_true, decide_eq_true_eq]
    constructor
    · rintro ⟨x, hx, e⟩
      simp at e
      rw [← e]
      exact hx
    · intro hx
      exact ⟨n, hx, by simp⟩
  rw [e]
  by_cases h : n ∈ acc
  · simp only [h, decide_true, if_true]
    rw [List.map_map]
    refine List.map_congr_left fun x _ => ?_
    simp only [Function.comp]
    split <;> rfl
  · simp only [h, decide_false, Bool.false_eq_true, if_false]
    simp [dkL]
theorem keyInts_T (acc : List Int) : keyInts (dkL acc) = some acc := by
  induction acc with
  | nil => rfl
  | cons n acc ih =>
    show (keyInts (dkL acc)).map (n :: ·) = _
    rw [ih]
    rfl
theorem addN_len (acc : List Int) (n : Int) : (addN acc n).length ≤ acc.length + 1 := by
  unfold addN
  split <;> simp
def inLine (h p d : Int) (r : Ar5) : Bool := decide (r.2.1 = h ∧ r.2.2.1 = p) && decide (r.1 ≤ d)
def numF (h p d : Int) (R : List Ar5) : List Int := R.foldl (fun acc r => if inLine h p d r = true then addN acc r.2.2.2.2 else acc) []
theorem numF_mem {h p d : Int} {n : Int} : ∀ (R : List Ar5) (acc : List Int), n ∈ R.foldl (fun acc r => if inLine h p d r = true then addN acc r.2.2.2.2 else acc) acc ↔ n ∈ acc ∨ ∃ r ∈ R, inLine h p d r = true ∧ r.2.2.2.2 = n
  | [], acc => by simp
  | r :: R, acc => by
    rw [List.foldl_cons, numF_mem R]
    by_cases q : inLine h p d r = true
    · simp only [q, if_true]
      have : n ∈ addN acc r.2.2.2.2 ↔ n ∈ acc ∨ r.2.2.2.2 = n := by
        unfold addN
        split
        · rename_i hm
          constructor
          · exact .inl
          · rintro (z | rfl)
            · exact z
            · exact hm
        · simp only [List.mem_append, List.mem_singleton]
          constructor
          · rintro (z | z)
            · exact .inl z
            · exact .inr z.symm
          · rintro (z | z)
            · exact .inl z
            · exact .inr z.symm
      rw [this]
      constructor
      · rintro ((z | z) | ⟨r', h1, h2⟩)
        · exact .inl z
        · exact .inr ⟨r, List.mem_cons_self, q, z⟩
        · exact .inr ⟨r', List.mem_cons_of_mem _ h1, h2⟩
      · rintro (z | ⟨r', h1, h2, h3⟩)
        · exact .inl (.inl z)
        · rcases List.mem_cons.mp h1 with rfl | h1
          · exact .inl (.inr h3)
          · exact .inr ⟨r', h1, h2, h3⟩
    · simp only [q, if_false, Bool.false_eq_true]
      constructor
      · rintro (z | ⟨r', h1, h2⟩)
        · exact .inl z
        · exact .inr ⟨r', List.mem_cons_of_mem _ h1, h2⟩
      · rintro (z | ⟨r', h1, h2, h3⟩)
        · exact .inl z
        · rcases List.mem_cons.mp h1 with rfl | h1
          · exact absurd h2 q
          · exact .inr ⟨r', h1, h2, h3⟩
theorem numF_nodup {h p d : Int} : ∀ (R : List Ar5) (acc : List Int), acc.Nodup → (R.foldl (fun acc r => if inLine h p d r = true then addN acc r.2.2.2.2 else acc) acc).Nodup
  | [], acc, hn => hn
  | r :: R, acc, hn => by
    rw [List.foldl_cons]
    refine numF_nodup R _ ?_
    split
    · unfold addN
      split
      · exact hn
      · rename_i q
        rw [List.nodup_append]
        exact ⟨hn, by simp, fun a ha b hb => by
          have : b = r.2.2.2.2 := by simpa using hb
          subst this
          exact fun e => q (e ▸ ha)⟩
    · exact hn
def reasF (l : List NF) (h p k d : Int) : List Int := sortI (numF h p d (arS l k))
theorem ar_num {l : List NF} {k : Int} {r : Ar5} (hr : r ∈ allAr l k) : ∃ x ∈ l, x.1 = r.2.2.2.2 ∧ ((∃ f d c, x.2 = .cut f k d c) ∨ ∃ f d s w, x.2 = .born f k d s w) := by
  unfold allAr at hr
  obtain ⟨⟨n, x⟩, hx, h⟩ := List.mem_flatMap.mp hr
  unfold arOf at h
  cases x <;> simp at h
  case cut f k' d c =>
    obtain ⟨rfl, h⟩ := h
    refine ⟨_, hx, ?_, .inl ⟨_, _, _, rfl⟩⟩
    unfold cutRows at h
    split at h
    · cases h
    · rw [List.mem_singleton.mp h]
  case born f k' d s w =>
    obtain ⟨rfl, h⟩ := h
    refine ⟨_, hx, ?_, .inr ⟨_, _, _, _, rfl⟩⟩
    unfold birRows at h
    obtain ⟨y, _, rfl⟩ := List.mem_map.mp h
    rfl
theorem nodup_le : ∀ {L M : List Int}, L.Nodup → (∀ x ∈ L, x ∈ M) → L.length ≤ M.length
  | [], _, _, _ => Nat.zero_le _
  | a :: L, M, h, hs => by
    obtain ⟨h1, h2⟩ := List.nodup_cons.mp h
    have ha := hs a List.mem_cons_self
    have := nodup_le (M := M.erase a) h2 fun x hx => (List.mem_erase_of_ne (a := x) (b := a) (fun e => h1 (by rw [← e]; exact hx))).mpr (hs x (List.mem_cons_of_mem _ hx))
    rw [List.length_erase_of_mem ha] at this
    have := List.length_pos_of_mem ha
    rw [List.length_cons]
    omega
theorem numF_len (l : List NF) (h p k d : Int) : (numF h p d (arS l k)).length ≤ l.length := by
  have := nodup_le (M := l.map (·.1)) (numF_nodup (h := h) (p := p) (d := d) (arS l k) [] (by simp)) fun n hn => by
    rcases (numF_mem _ _).mp hn with z | ⟨r, hr, _, rfl⟩
    · cases z
    · obtain ⟨x, hx, e, _⟩ := ar_num ((arS_perm l k).mem_iff.mp hr)
      exact List.mem_map.mpr ⟨x, hx, e⟩
  rw [List.length_map] at this
  exact this
theorem reas_mem {l : List NF} {h p k d n : Int} : n ∈ reasF l h p k d ↔ ∃ r ∈ allAr l k, inLine h p d r = true ∧ r.2.2.2.2 = n := by
  unfold reasF sortI
  rw [(List.mergeSort_perm _ _).mem_iff]
  unfold numF
  rw [numF_mem]
  simp only [List.not_mem_nil, false_or]
  constructor
  · rintro ⟨r, hr, h⟩
    exact ⟨r, (arS_perm l k).mem_iff.mp hr, h⟩
  · rintro ⟨r, hr, h⟩
    exact ⟨r, (arS_perm l k).mem_iff.mpr hr, h⟩
theorem reas_len (l : List NF) (h p k d : Int) : (reasF l h p k d).length ≤ l.length := by
  unfold reasF sortI
  rw [(List.mergeSort_perm _ _).length_eq]
  exact numF_len l h p k d
theorem reasons_ok {l : List NF} (hl : Good l) (hz : l.length ≤ 60) {p k d : Int} (hp : okParish p = true) (hk : okKind k = true) (hd : okDay d = true) {h : Int} (hh : inB 1 8 h) : m_reasons [.dat (fsD l), .dat (.int h), .dat (.int p), .dat (.int k), .dat (.int d)] = .ok (.lst ((reasF l h p k d).map PyData.int)) [.dat (fsD l), .dat (.int h), .dat (.int p), .dat (.int k), .dat (.int d)] := by
  have e1 := arisings_s hl (by omega) hk
  have nh := need_holder_ok hh
  have lR := arS_len hl.ok k
  have hR : ∀ r ∈ arS l k, RowOk r := fun r hr => ar_ok hl.ok k r ((arS_perm l k).mem_iff.mp hr)
  have nl := numF_len l h p k d
  unfold reasF
  have lo := (forM_foldB (is := [6, 7, 8, 9, 10]) (tg := gT 5 (gsCons (gN 6) (gsCons (gN 7) (gsCons (gN 8) (gsCons (gN 9) (gsCons (gN 10) gsNil)))))) (mb := b_reasons_1) (enc := arD) (S := fun acc : List Int => [.pin (.dat (fsD l)), .pin (.dat (.int h)), .pin (.dat (.int p)), .pin (.dat (.int k)), .pin (.dat (.int d)), .v (.dk (dkL acc)), .no, .no, .no, .no, .no]) (f := fun acc r => if inLine h p d r = true then addN acc r.2.2.2.2 else acc) (P := fun m acc => acc.length ≤ m) (w := 1) (K := 100000) (arS l k) [] 0 (by simp) (by omega) (fun r hr acc m hm hK => by
    obtain ⟨_, _, _, h4, _, h6⟩ := hR r hr
    obtain ⟨t, a, b, q, n⟩ := r
    have eq : pp q.1 q.2 = uD (zOf q) := by
      show _ = pp (uA (zOf q)) (uB (zOf q))
      have e1 : q.1 = uA (zOf q) := congrArg (·.1) h4
      have e2 : q.2 = uB (zOf q) := congrArg (·.2) h4
      rw [← e1, ← e2]
    have nz : fNe (uD (zOf q)) (pp 0 1) = some (.dat (.bool true)) := by
      rw [fNe_u0]
      have : ¬ zOf q = 0 := by
        have h6 : 1 ≤ zOf q := h6
        omega
      simp [this]
    generalize uD (zOf q) = Z at *
    have az : (dkL acc).length < zl := by
      rw [List.length_map]
      unfold zl
      omega
    have pu := putT acc n
    refine ⟨?_, [.pin (.dat (fsD l)), .pin (.dat (.int h)), .pin (.dat (.int p)), .pin (.dat (.int k)), .pin (.dat (.int d)), .v (.dk (dkL acc)), .v (.dat (.int t)), .v (.dat (.int a)), .v (.dat (.int b)), .v (.dat Z), .v (.dat (.int n))], by rw [← eq]; rfl, ?_⟩
    · show (if inLine h p d (t, a, b, q, n) = true then addN acc n else acc).length ≤ m + 1
      have := addN_len acc n
      split <;> omega
    · unfold zl at az
      by_cases c1 : a = h ∧ b = p
      · by_cases c2 : t ≤ d
        · refine ⟨?gA, .inl ?eA, ?kA⟩
          case eA =>
            simp! [b_reasons_1, fEq_pq, c1, c2, c_NOUGHT, nz, az, pu]
            rfl
          case kA => simp [kl, st, inLine, c1, c2]
        · refine ⟨?gB, .inl ?eB, ?kB⟩
          case eB =>
            simp! [b_reasons_1, fEq_pq, c1, c2]
            rfl
          case kB => simp [kl, st, inLine, c1, c2]
      · refine ⟨?gC, .inl ?eC, ?kC⟩
        case eC =>
          simp! [b_reasons_1, fEq_pq, c1]
          rfl
        case kC => simp [kl, st, inLine, c1])).2
  have ki := keyInts_T (numF h p d (arS l k))
  have e2 : (arS l k).foldl (fun acc r => if inLine h p d r = true then addN acc r.2.2.2.2 else acc) [] = numF h p d (arS l k) := rfl
  rw [e2] at lo
  generalize (arS l k).map arD = RR at *
  generalize numF h p d (arS l k) = N at *
  have hN : N.length < 64 := by omega
  have d0 : dkL [] = [] := rfl
  rw [d0] at lo
  simp! [m_reasons, nh, need_parish_ok hp, need_kind_ok hk, need_day_ok hd, e1, lo, ki, hN, OD.frz]
-- needs: 
abbrev nI (q : Nat) : PyData := .int (q : Int)
-- needs: x_ni
def wAt (W : List Int) (q : Nat) : Int := W.getD q 0
def atW (W : List Int) (p : Nat) (o : List Nat) : Nat := (o.takeWhile fun q => decide (wAt W p ≤ wAt W q)).length
def insW (W : List Int) (p : Nat) (o : List Nat) : List Nat := o.take (atW W p o) ++ [p] ++ o.drop (atW W p o)
def byW (W : List Int) : Nat → List Nat
  | 0 => []
  | k + 1 => insW W k (byW W k)
theorem insW_eq (W : List Int) (p : Nat) (o : List Nat) : insW W p o = o.takeWhile (fun q => decide (wAt W p ≤ wAt W q)) ++ p :: o.dropWhile (fun q => decide (wAt W p ≤ wAt W q)) := by
  unfold insW atW
  have e := List.takeWhile_append_dropWhile (p := fun q => decide (wAt W p ≤ wAt W q)) (l := o)
  generalize o.takeWhile (fun q => decide (wAt W p ≤ wAt W q)) = t at *
  generalize o.dropWhile (fun q => decide (wAt W p ≤ wAt W q)) = d at *
  subst e
  simp
theorem insW_perm (W : List Int) (p : Nat) (o : List Nat) : (insW W p o).Perm (p :: o) := by
  rw [insW_eq]
  have e := List.takeWhile_append_dropWhile (p := fun q => decide (wAt W p ≤ wAt W q)) (l := o)
  refine List.perm_middle.trans ?_
  rw [e]
theorem byW_perm (W : List Int) : ∀ k, (byW W k).Perm (List.range k)
  | 0 => .nil
  | k + 1 => by
    refine (insW_perm W k _).trans ?_
    rw [List.range_succ]
    exact ((byW_perm W k).cons k).trans (List.perm_append_singleton _ _).symm
theorem wAt_get {W : List Int} {q : Nat} (h : q < W.length) : (W.map PyData.int)[q]? = some (.int (wAt W q)) := by
  rw [List.getElem?_map, List.getElem?_eq_getElem h]
  simp [wAt, h]
theorem bw_while (W : List Int) (o : List Nat) (p : Nat) (hp : p < W.length) (ho : ∀ q ∈ o, q < W.length) : ∀ (n a : Nat), a ≤ o.length → o.length - a < n →
    whl [] t_by_worth_1 b_by_worth_2 n [.pin (.dat (.list (W.map PyData.int))), .v (.lst (o.map nI)), .v (.dat (nI p)), .v (.dat (nI a))] =
      .nx [.pin (.dat (.list (W.map PyData.int))), .v (.lst (o.map nI)), .v (.dat (nI p)), .v (.dat (nI (a + ((o.drop a).takeWhile fun q => decide (wAt W p ≤ wAt W q)).length)))] := by
  intro n
  induction n with
  | zero => intro a _ h; omega
  | succ n ih =>
    intro a ha hn
    unfold whl
    have wp := wAt_get hp
    by_cases h : a < o.length
    · have hq := ho _ (List.getElem_mem h)
      have wq := wAt_get hq
      have e1 : atI (o.map nI) (a : Int) = some (nI o[a]) := by
        rw [atI_nat, List.getElem?_map, List.getElem?_eq_getElem h]
        rfl
      have ed : o.drop a = o[a] :: o.drop (a + 1) := List.drop_eq_getElem_cons h
      have hlt : (a : Int) < (o.length : Int) := by omega
      by_cases hw : wAt W p ≤ wAt W o[a]
      · have t : t_by_worth_1 [.pin (.dat (.list (W.map PyData.int))), .v (.lst (o.map nI)), .v (.dat (nI p)), .v (.dat (nI a))] = .ok true [.pin (.dat (.list (W.map PyData.int))), .v (.lst (o.map nI)), .v (.dat (nI p)), .v (.dat (nI a))] := by
          simp! only [t_by_worth_1, List.length_map, hlt, e1, atI_nat, wp, wq, hw]
        have b : b_by_worth_2 [.pin (.dat (.list (W.map PyData.int))), .v (.lst (o.map nI)), .v (.dat (nI p)), .v (.dat (nI a))] = .nx [.pin (.dat (.list (W.map PyData.int))), .v (.lst (o.map nI)), .v (.dat (nI p)), .v (.dat (nI (a + 1 : Nat)))] := by
          simp! only [b_by_worth_2]
          rfl
        rw [t]
        simp only [if_true]
        rw [b]
        simp only [lp, kl]
        rw [ih (a + 1) (by omega) (by omega), ed]
        rw [List.takeWhile_cons_of_pos (by simpa using hw), List.length_cons]
        have : a + 1 + ((o.drop (a + 1)).takeWhile fun q => decide (wAt W p ≤ wAt W q)).length = a + (((o.drop (a + 1)).takeWhile fun q => decide (wAt W p ≤ wAt W q)).length + 1) := by omega
        rw [this]
      · have t : t_by_worth_1 [.pin (.dat (.list (W.map PyData.int))), .v (.lst (o.map nI)), .v (.dat (nI p)), .v (.dat (nI a))] = .ok false [.pin (.dat (.list (W.map PyData.int))), .v (.lst (o.map nI)), .v (.dat (nI p)), .v (.dat (nI a))] := by
          simp! only [t_by_worth_1, List.length_map, hlt, e1, atI_nat, wp, wq, hw]
        rw [t, ed, List.takeWhile_cons_of_neg (by simpa using hw)]
        simp
    · have hlt : ¬ (a : Int) < (o.length : Int) := by omega
      have t : t_by_worth_1 [.pin (.dat (.list (W.map PyData.int))), .v (.lst (o.map nI)), .v (.dat (nI p)), .v (.dat (nI a))] = .ok false [.pin (.dat (.list (W.map PyData.int))), .v (.lst (o.map nI)), .v (.dat (nI p)), .v (.dat (nI a))] := by
        simp! only [t_by_worth_1, List.length_map, hlt]
      rw [t, List.drop_eq_nil_of_le (by omega)]
      simp
theorem byW_len (W : List Int) (k : Nat) : (byW W k).length = k := by
  rw [(byW_perm W k).length_eq, List.length_range]
theorem bw_row (W : List Int) (hW : W.length ≤ gz) (k : Nat) (hk : k < W.length) : b_by_worth_3 [.pin (.dat (.list (W.map PyData.int))), .v (.lst ((byW W k).map nI)), .v (.dat (.int (0 + (k : Int)))), .no] =
    .nx [.pin (.dat (.list (W.map PyData.int))), .v (.lst ((byW W (k + 1)).map nI)), .v (.dat (nI k)), .v (.dat (nI (atW W k (byW W k))))] := by
  have hm : ∀ q ∈ byW W k, q < W.length := fun q hq => by
    have := List.mem_range.mp ((byW_perm W k).mem_iff.mp hq)
    omega
  have w := bw_while W (byW W k) k hk hm ((byW W k).length + 2) 0 (by omega) (by omega)
  simp only [List.drop_zero, Nat.zero_add] at w
  have hl : (byW W k).length = k := byW_len W k
  have hat : atW W k (byW W k) ≤ (byW W k).length := List.takeWhile_prefix _ |>.length_le
  have fi : fIns ((byW W k).map nI) [nI (atW W k (byW W k)), nI k] = some (.none, (byW W (k + 1)).map nI) := by
    rw [fIns_i, if_pos ⟨by rw [List.length_map, hl]; unfold gz at hW; unfold zl; omega, by omega, by unfold gz at hW; omega⟩]
    show _ = some (PyData.none, (insW W k (byW W k)).map nI)
    unfold insW
    simp
  have e0 : (0 : Int) + (k : Int) = (k : Int) := by omega
  have fu : sWhl [] (fuL 1) t_by_worth_1 b_by_worth_2 [.pin (.dat (.list (W.map PyData.int))), .v (.lst ((byW W k).map nI)), .v (.dat (nI k)), .v (.dat (nI 0))] = .nx [.pin (.dat (.list (W.map PyData.int))), .v (.lst ((byW W k).map nI)), .v (.dat (nI k)), .v (.dat (nI (atW W k (byW W k))))] := by
    unfold sWhl
    have : fuL 1 [.pin (.dat (.list (W.map PyData.int))), .v (.lst ((byW W k).map nI)), .v (.dat (nI k)), .v (.dat (nI 0))] = (byW W k).length + 2 := by
      unfold fuL
      simp! only [List.length_map]
    rw [this]
    exact w
  have fu' : sWhl [] (fuL 1) t_by_worth_1 b_by_worth_2 [.pin (.dat (.list (W.map PyData.int))), .v (.lst ((byW W k).map nI)), .v (.dat (.int (k : Int))), .v (.dat (.int 0))] = .nx [.pin (.dat (.list (W.map PyData.int))), .v (.lst ((byW W k).map nI)), .v (.dat (nI k)), .v (.dat (nI (atW W k (byW W k))))] := fu
  simp! only [b_by_worth_3, e0, fu', fi]
theorem by_worth_ok (W : List Int) (hW : W.length ≤ gz) : m_by_worth [.dat (.list (W.map PyData.int))] = .ok (.lst ((byW W W.length).map nI)) [.dat (.list (W.map PyData.int))] := by
  obtain ⟨g', f, rfl⟩ := rng_inv (is := [2, 3]) (tg := gN 2) (mb := b_by_worth_3) (lo := 0) (P := fun i g => g = [.pin (.dat (.list (W.map PyData.int))), .v (.lst ((byW W i).map nI)), .no, .no]) W.length [.pin (.dat (.list (W.map PyData.int))), .v (.lst []), .no, .no] (fun i hi g hP => by
    subst hP
    exact ⟨_, rfl, _, .inl (bw_row W hW i hi), rfl⟩) rfl
  simp! [m_by_worth, List.length_map, forRA_n hW, f]
theorem picked_ok (W : List Int) (hW : W.length ≤ gz) (a : Nat) (ha : a < W.length) : m_picked [.dat (.list (W.map PyData.int)), .dat (nI a)] = .ok (.dat (nI ((byW W W.length).getD a 0))) [.dat (.list (W.map PyData.int)), .dat (nI a)] := by
  have h1 : (0 : Int) ≤ (a : Int) := by omega
  have h2 : (a : Int) < (W.length : Int) := by omega
  have h3 : a < (byW W W.length).length := by rw [byW_len]; exact ha
  have e : atI ((byW W W.length).map nI) (a : Int) = some (nI ((byW W W.length).getD a 0)) := by
    rw [atI_nat, List.getElem?_map, List.getElem?_eq_getElem h3]
    simp [h3]
  simp! [m_picked, List.length_map, h1, h2, by_worth_ok W hW, e]
-- needs: 
theorem rngOf3_pos {a b c : Int} (ha : -(gz : Int) ≤ a) (ha' : a ≤ gz) (hb : -(gz : Int) ≤ b) (hb' : b ≤ gz) (hc : 1 ≤ c) (hc' : c ≤ gz) : rngOf3 [.int a, .int b, .int c] = some (a, c, (if a < b then (b - a - 1) / c + 1 else 0).toNat) := by
  unfold gz at *
  have e : Builtin.Range.rangeSize a b c = if a < b then (b - a - 1) / c + 1 else 0 := by
    unfold Builtin.Range.rangeSize
    rw [if_pos (by omega)]
  have q : 0 ≤ (b - a - 1) / c ∨ ¬ a < b := by
    by_cases h : a < b
    · exact .inl (Int.ediv_nonneg (by omega) (by omega))
    · exact .inr h
  have q2 : a < b → (b - a - 1) / c ≤ b - a - 1 := fun h => Int.ediv_le_self _ (by omega)
  have e0 : 0 ≤ Builtin.Range.rangeSize a b c ∧ Builtin.Range.rangeSize a b c ≤ 200000 := by
    rw [e]
    split <;> omega
  have sm : Builtin.Range.small a b c = true := by
    unfold Builtin.Range.small Builtin.Range.rangeFitsLong
    generalize Builtin.Range.rangeSize a b c = n at *
    rw [if_pos (by omega)]
    simp only [Bool.and_eq_true, Bool.or_eq_true, decide_eq_true_eq, beq_iff_eq]
    omega
  show cIf _ _ _ = _
  rw [cIf_pos ⟨by omega, by omega, sm, e0.1⟩, e]
theorem forCA_pos {is : List Nat} {tg : Tg} {mb : Gm → SOut} {g : Gm} {a b c : Int} (ha : -(gz : Int) ≤ a) (ha' : a ≤ gz) (hb : -(gz : Int) ≤ b) (hb' : b ≤ gz) (hc : 1 ≤ c) (hc' : c ≤ gz) : forCA is tg mb [.int a, .int b, .int c] g = forM is tg mb (rngC a c (if a < b then (b - a - 1) / c + 1 else 0).toNat) (kl is g) := by
  unfold forCA
  rw [rngOf3_pos ha ha' hb hb' hc hc']
theorem cut_nat {α : Type} (l : List α) (i j : Nat) (hi : i ≤ l.length) (hj : j ≤ l.length) (hij : i ≤ j) : cutD l (some (i : Int)) (some (j : Int)) = (l.drop i).take (j - i) := by
  unfold cutD HT.sIx
  simp only
  have e1 : ¬ ((i : Int) < 0) := by omega
  have e2 : ¬ ((j : Int) < 0) := by omega
  simp only [e1, e2, if_false]
  have m1 : min (i : Int).toNat l.length = i := by omega
  have m2 : min (j : Int).toNat l.length = j := by omega
  first
    | rw [m1, m2]
    | simp [Nat.min_eq_left hi, Nat.min_eq_left hj]
/-! pens -/
def wh (r : Ar5) : Bool := decide (r.2.2.2.1.1 = 1 ∧ r.2.2.2.1.2 = 1)
def wholeR (l : List NF) (n : Int) : List Ar5 := match birthF l n with
  | some (.born f _ d s _) => (birRows l n f d s).filter wh
  | _ => []
theorem whole_comp {l : List NF} {g0 g2 g3 : Sl} {n : Int} (R : List Ar5) (hz : R.length ≤ 1000) : cmpM [4] (gN 4) t_of_wholes_2 e_of_wholes_1 (R.map arD) [] [g0, .pin (.dat (.int n)), g2, g3, .no] = .ok ((R.filter wh).map arD) [g0, .pin (.dat (.int n)), g2, g3, .no] := by
  have c := cmp_fold (β := Unit) (is := [4]) (tg := gN 4) (mt := t_of_wholes_2) (me := e_of_wholes_1) (enc := arD) (out := fun r => if wh r = true then some (arD r) else none) (g := [g0, .pin (.dat (.int n)), g2, g3, .no]) R [] (by simp [zl]; omega) (fun r hr => by
    clear hr
    obtain ⟨t, a, b, ⟨q1, q2⟩, m⟩ := r
    refine ⟨[g0, .pin (.dat (.int n)), g2, g3, .v (.dat (arD (t, a, b, (q1, q2), m)))], rfl, ?_⟩
    by_cases q : q1 = 1 ∧ q2 = 1
    · obtain ⟨rfl, rfl⟩ := q
      exact .inl ⟨arD (t, a, b, (1, 1), m), _, _, by simp [wh], by simp! [t_of_wholes_2, arD, c_WHOLE, fEq_pq]; rfl, by simp! [e_of_wholes_1]; rfl, rfl⟩
    · exact .inr ⟨_, by simp only [wh, q, decide_false, Bool.false_eq_true, if_false], by simp! [t_of_wholes_2, arD, c_WHOLE, fEq_pq, q]; rfl, rfl⟩)
  rw [List.nil_append, fm_if] at c
  exact c
theorem whole_loop {l : List NF} {n f k d s w : Int} (hz : (birRows l n f d s).length ≤ 1000) (ob : m_of_birth [.dat (fsD l), .dat (.int n)] = .ok (.lst ((birRows l n f d s).map arD)) [.dat (fsD l), .dat (.int n)]) : ∀ l' : List NF, (birthF l' n).isSome = true → ∃ g2 g3, forM [2, 3] (gT 2 (gsCons (gN 2) (gsCons (gN 3) gsNil))) b_of_wholes_3 (l'.map nfD) [.pin (.dat (fsD l)), .pin (.dat (.int n)), .no, .no, .no] = .rt (.lst (((birRows l n f d s).filter wh).map arD)) [.pin (.dat (fsD l)), .pin (.dat (.int n)), g2, g3, .no]
  | [], h => by cases h
  | (m, x) :: l', h => by
    by_cases e : m = n
    · by_cases hx : isBorn x = true
      · have c := whole_comp (l := l) (g0 := .pin (.dat (fsD l))) (g2 := .v (.dat (.int m))) (g3 := .v (.dat (fcD x))) (n := n) (birRows l n f d s) hz
        refine ⟨.v (.dat (.int m)), .v (.dat (fcD x)), ?_⟩
        generalize ((birRows l n f d s).filter wh).map arD = W at *
        generalize (birRows l n f d s).map arD = B at *
        generalize fsD l = LL at *
        rw [List.map_cons]
        unfold forM
        cases x <;> first | (cases hx; done) | skip
        simp only [fcD] at c
        simp! [b_of_wholes_3, nfD, fcD, fw_lies, fw_held, fw_free, fw_custom, fw_takers, fw_cut, fw_born, fw_driven, fw_pass, fw_render, fw_paid, fw_claim, e, ob, c]
        subst e
        simp! [c]
      · have hb : birthF ((m, x) :: l') n = birthF l' n := by simp [birthF, isB, hx]
        rw [hb] at h
        obtain ⟨g2, g3, ih⟩ := whole_loop (k := k) (w := w) hz ob l' h
        refine ⟨g2, g3, ?_⟩
        rw [← ih, List.map_cons]
        conv => lhs; unfold forM
        cases x <;> first | (exact absurd rfl hx) | simp! [b_of_wholes_3, nfD, fcD, fw_lies, fw_held, fw_free, fw_custom, fw_takers, fw_cut, fw_born, fw_driven, fw_pass, fw_render, fw_paid, fw_claim, e]
    · have hb : birthF ((m, x) :: l') n = birthF l' n := by simp [birthF, isB, e]
      rw [hb] at h
      obtain ⟨g2, g3, ih⟩ := whole_loop (k := k) (w := w) hz ob l' h
      refine ⟨g2, g3, ?_⟩
      rw [← ih, List.map_cons]
      conv => lhs; unfold forM
      simp! [b_of_wholes_3, nfD, e]
theorem whole_no {g0 : Sl} (n : Int) : ∀ l' : List NF, birthF l' n = none → forM [2, 3] (gT 2 (gsCons (gN 2) (gsCons (gN 3) gsNil))) b_of_wholes_3 (l'.map nfD) [g0, .pin (.dat (.int n)), .no, .no, .no] = .nx [g0, .pin (.dat (.int n)), .no, .no, .no]
  | [], _ => rfl
  | (m, x) :: l', h => by
    by_cases e : m = n
    · have hx : ¬ isBorn x = true := fun hx => by simp [birthF, isB, e, hx] at h
      have hb : birthF ((m, x) :: l') n = birthF l' n := by simp [birthF, isB, hx]
      rw [hb] at h
      rw [← whole_no (g0 := g0) n l' h, List.map_cons]
      conv => lhs; unfold forM
      cases x <;> first | (exact absurd rfl hx) | simp! [b_of_wholes_3, nfD, fcD, fw_lies, fw_held, fw_free, fw_custom, fw_takers, fw_cut, fw_born, fw_driven, fw_pass, fw_render, fw_paid, fw_claim, e]
    · have hb : birthF ((m, x) :: l') n = birthF l' n := by simp [birthF, isB, e]
      rw [hb] at h
      rw [← whole_no (g0 := g0) n l' h, List.map_cons]
      conv => lhs; unfold forM
      simp! [b_of_wholes_3, nfD, e]
theorem birRows_len {l : List NF} {n f d s : Int} (hs : s ≤ 60) : (birRows l n f d s).length ≤ 60 := by
  unfold birRows
  rw [List.length_map, sh_len]
  exact ct_len hs
theorem of_wholes_ok {l : List NF} (hl : Good l) (hz : l.length < gz) (n : Int) : m_of_wholes [.dat (fsD l), .dat (.int n)] = .ok (.lst ((wholeR l n).map arD)) [.dat (fsD l), .dat (.int n)] := by
  unfold wholeR
  cases hb : birthF l n with
  | none =>
    have lo := whole_no (g0 := .pin (.dat (fsD l))) n l hb
    simp only [List.map_nil]
    simp! [m_of_wholes, lo]
  | some x =>
    obtain ⟨f, k, d, s, w, rfl⟩ := birth_born hb
    have hs : s ≤ 60 := by
      obtain ⟨y, hy, e⟩ := Option.map_eq_some_iff.mp hb
      have := hl.ok y (List.mem_of_find?_eq_some hy)
      rw [e] at this
      exact this.2.2.2.1.2
    have bl := birRows_len (l := l) (n := n) (f := f) (d := d) hs
    obtain ⟨g2, g3, lo⟩ := whole_loop (k := k) (w := w) (Nat.le_trans bl (by decide)) (of_birth_ok hl hz hb hs) l (by rw [hb]; rfl)
    simp only
    generalize ((birRows l n f d s).filter wh).map arD = W at *
    simp! [m_of_wholes, lo]
def isKind : Cu → Bool
  | .kind _ => true
  | _ => false
def penO (l : List NF) (h p k n : Int) (r : Ar5) : Option (Int × Int) := if decide (r.2.1 = h ∧ r.2.2.1 = p) && isKind (customF l p k (r.1 / 100)) then some (r.1, n) else none
def penN (l : List NF) (h p k n : Int) : List (Int × Int) := (wholeR l n).filterMap (penO l h p k n)
theorem whole_row {l : List NF} (hl : Good l) {n : Int} : ∀ r ∈ wholeR l n, RowOk r := fun r hr => by
  unfold wholeR at hr
  cases hb : birthF l n with
  | none =>
    rw [hb] at hr
    cases hr
  | some x =>
    obtain ⟨f, k, d, s, w, rfl⟩ := birth_born hb
    rw [hb] at hr
    obtain ⟨y, hy, e⟩ := Option.map_eq_some_iff.mp hb
    have ok := hl.ok y (List.mem_of_find?_eq_some hy)
    rw [e] at ok
    exact bir_row hl.ok ok r (List.mem_filter.mp hr).1
theorem whole_len {l : List NF} (hl : Good l) (n : Int) : (wholeR l n).length ≤ 60 := by
  unfold wholeR
  cases hb : birthF l n with
  | none => simp
  | some x =>
    obtain ⟨f, k, d, s, w, rfl⟩ := birth_born hb
    obtain ⟨y, hy, e⟩ := Option.map_eq_some_iff.mp hb
    have ok := hl.ok y (List.mem_of_find?_eq_some hy)
    rw [e] at ok
    exact Nat.le_trans (List.length_filter_le _ _) (birRows_len ok.2.2.2.1.2)
theorem pen_in {l : List NF} (hl : Good l) (hz : l.length < gz) {h p k d n : Int} (hp : okParish p = true) (hk : okKind k = true) (acc : List (Int × Int)) (ha : acc.length ≤ 100000) : b_pen_2 [.pin (.dat (fsD l)), .pin (.dat (.int h)), .pin (.dat (.int p)), .pin (.dat (.int k)), .pin (.dat (.int d)), .v (.lst (acc.map iiD)), .v (.dat (.int n)), .no, .no, .no, .no, .no] = .nx [.pin (.dat (fsD l)), .pin (.dat (.int h)), .pin (.dat (.int p)), .pin (.dat (.int k)), .pin (.dat (.int d)), .v (.lst ((acc ++ penN l h p k n).map iiD)), .v (.dat (.int n)), .no, .no, .no, .no, .no] := by
  have ow := of_wholes_ok hl hz n
  have wl := whole_len hl n
  have wr := whole_row hl (n := n)
  have lo := forM_app (is := [7, 8, 9, 10, 11]) (tg := gT 5 (gsCons (gN 7) (gsCons (gN 8) (gsCons (gN 9) (gsCons (gN 10) (gsCons (gN 11) gsNil)))))) (mb := b_pen_1) (enc := arD) (S := fun acc => [.pin (.dat (fsD l)), .pin (.dat (.int h)), .pin (.dat (.int p)), .pin (.dat (.int k)), .pin (.dat (.int d)), .v (.lst acc), .v (.dat (.int n)), .no, .no, .no, .no, .no]) (f := fun r => (penO l h p k n r).map iiD) (wholeR l n) (acc.map iiD) (by rw [List.length_map]; unfold zl; omega) (fun r hr acc ha => by
    obtain ⟨⟨d1, d2⟩, _⟩ := wr r hr
    clear hr
    obtain ⟨t, a, b, q, m⟩ := r
    have d1 : 0 ≤ t := d1
    have d2 : t ≤ 3999 := d2
    have yo := year_of_ok (d := t) (okDay_iff.mpr ⟨d1, d2⟩)
    have cu := custom_of_ok l p k (t / 100) (by omega) hp hk (okYear_iff.mpr ⟨by omega, by omega⟩)
    refine ⟨[.pin (.dat (fsD l)), .pin (.dat (.int h)), .pin (.dat (.int p)), .pin (.dat (.int k)), .pin (.dat (.int d)), .v (.lst acc), .v (.dat (.int n)), .v (.dat (.int t)), .v (.dat (.int a)), .v (.dat (.int b)), .v (.dat (pp q.1 q.2)), .v (.dat (.int m))], rfl, ?_⟩
    unfold penO
    generalize customF l p k (t / 100) = cv at *
    generalize hL : l.map nfD = LL at *
    simp only [fsD, hL]
    by_cases c1 : a = h ∧ b = p
    · cases cv
      case kind z =>
        refine ⟨?gA, .inl ?eA, ?kA⟩
        case eA =>
          simp! [b_pen_1, fEq_pq, c1, yo, cu, cuD, cw_kind, cw_odd, cw_fixed, cw_none, ha]
          rfl
        case kA => simp [kl, st, c1, isKind, iiD]
      all_goals
        refine ⟨?gB, .inl ?eB, ?kB⟩
        case eB =>
          simp! [b_pen_1, fEq_pq, c1, yo, cu, cuD, cw_kind, cw_odd, cw_fixed, cw_none] <;> rfl
        case kB => simp [kl, st, c1, isKind]
    · refine ⟨?gC, .inl ?eC, ?kC⟩
      case eC =>
        simp! [b_pen_1, fEq_pq, c1]
        rfl
      case kC => simp [kl, st, c1])
  have e : (acc ++ penN l h p k n).map iiD = acc.map iiD ++ (wholeR l n).filterMap fun r => (penO l h p k n r).map iiD := by
    unfold penN
    rw [List.map_append, List.map_filterMap]
  rw [e]
  generalize (wholeR l n).map arD = WW at *
  generalize acc.map iiD ++ (wholeR l n).filterMap (fun r => (penO l h p k n r).map iiD) = ZZ at *
  simp! [b_pen_2, ow, lo]
def slI (s : Sl) : Prop := s = .no ∨ ∃ n : Int, s = .v (.dat (.int n))
theorem pen_loop {l : List NF} (hl : Good l) (hz : l.length < gz) {h p k d : Int} (hp : okParish p = true) (hk : okKind k = true) : ∀ (ns : List Int) (acc : List (Int × Int)) (s6 : Sl), slI s6 → acc.length + 60 * ns.length ≤ 100000 → ∃ s6', slI s6' ∧ forM [7, 8, 9, 10, 11] (gN 6) b_pen_2 (ns.map PyData.int) [.pin (.dat (fsD l)), .pin (.dat (.int h)), .pin (.dat (.int p)), .pin (.dat (.int k)), .pin (.dat (.int d)), .v (.lst (acc.map iiD)), s6, .no, .no, .no, .no, .no] = .nx [.pin (.dat (fsD l)), .pin (.dat (.int h)), .pin (.dat (.int p)), .pin (.dat (.int k)), .pin (.dat (.int d)), .v (.lst ((acc ++ ns.flatMap (penN l h p k)).map iiD)), s6', .no, .no, .no, .no, .no]
  | [], acc, s6, h6, _ => ⟨s6, h6, by simp [forM]⟩
  | n :: ns, acc, s6, h6, ha => by
    simp only [List.length_cons] at ha
    have t := pen_in hl hz (h := h) (d := d) (n := n) hp hk acc (by omega)
    have pl : (penN l h p k n).length ≤ 60 := Nat.le_trans (List.length_filterMap_le _ _) (whole_len hl n)
    obtain ⟨s6', h6', e⟩ := pen_loop hl hz hp hk ns (acc ++ penN l h p k n) (.v (.dat (.int n))) (.inr ⟨n, rfl⟩) (by rw [List.length_append]; omega)
    refine ⟨s6', h6', ?_⟩
    rw [List.flatMap_cons, ← List.append_assoc, ← e, List.map_cons]
    exact forM_step rfl t
def penF (l : List NF) (h p k d : Int) : List (Int × Int) := sortP ((reasF l h p k d).flatMap (penN l h p k))
theorem pen_ok {l : List NF} (hl : Good l) (hz : l.length ≤ 60) {p k d : Int} (hp : okParish p = true) (hk : okKind k = true) (hd : okDay d = true) {h : Int} (hh : inB 1 8 h) : m_pen [.dat (fsD l), .dat (.int h), .dat (.int p), .dat (.int k), .dat (.int d)] = .ok (.lst ((penF l h p k d).map fun x => PyData.int x.2)) [.dat (fsD l), .dat (.int h), .dat (.int p), .dat (.int k), .dat (.int d)] ∧ (penF l h p k d).length ≤ 3600 := by
  have re := reasons_ok hl hz hp hk hd hh
  have rl := reas_len l h p k d
  obtain ⟨s6, h6, lo⟩ := pen_loop hl (by unfold gz; omega) (h := h) (d := d) hp hk (reasF l h p k d) [] .no (.inl rfl) (by simp; omega)
  rw [List.nil_append] at lo
  have fl : ((reasF l h p k d).flatMap (penN l h p k)).length ≤ 3600 := by
    have : ∀ L : List Int, (L.flatMap (penN l h p k)).length ≤ 60 * L.length := fun L => by
      induction L with
      | nil => simp
      | cons n L ih =>
        have pl : (penN l h p k n).length ≤ 60 := Nat.le_trans (List.length_filterMap_le _ _) (whole_len hl n)
        rw [List.flatMap_cons, List.length_append, List.length_cons]
        omega
    have := this (reasF l h p k d)
    omega
  unfold penF
  generalize (reasF l h p k d).flatMap (penN l h p k) = Z at *
  have so := fSorted_l _ (sortOk_ii Z)
  rw [sortD_P] at so
  have lz : (sortP Z).length ≤ 3600 := by
    rw [(sortP_perm Z).length_eq]
    exact fl
  refine ⟨?_, lz⟩
  have c : ∀ Y : PyData, cmpM [6, 7] (gT 2 (gsCons (gN 7) (gsCons (gN 6) gsNil))) tYesM e_pen_3 ((sortP Z).map iiD) [] [.pin (.dat (fsD l)), .pin (.dat (.int h)), .pin (.dat (.int p)), .pin (.dat (.int k)), .pin (.dat (.int d)), .v (.dat Y), .no, .no, .no, .no, .no, .no] = .ok ((sortP Z).map fun x => PyData.int x.2) [.pin (.dat (fsD l)), .pin (.dat (.int h)), .pin (.dat (.int p)), .pin (.dat (.int k)), .pin (.dat (.int d)), .v (.dat Y), .no, .no, .no, .no, .no, .no] := fun Y => by
    have c := cmp_fold (β := Unit) (is := [6, 7]) (tg := gT 2 (gsCons (gN 7) (gsCons (gN 6) gsNil))) (mt := tYesM) (me := e_pen_3) (enc := iiD) (out := fun x => some (PyData.int x.2)) (g := [.pin (.dat (fsD l)), .pin (.dat (.int h)), .pin (.dat (.int p)), .pin (.dat (.int k)), .pin (.dat (.int d)), .v (.dat Y), .no, .no, .no, .no, .no, .no]) (sortP Z) [] (by simp [zl]; omega) (fun x hx => by
      clear hx
      exact ⟨[.pin (.dat (fsD l)), .pin (.dat (.int h)), .pin (.dat (.int p)), .pin (.dat (.int k)), .pin (.dat (.int d)), .v (.dat Y), .v (.dat (.int x.2)), .v (.dat (.int x.1)), .no, .no, .no, .no], rfl, .inl ⟨_, _, _, rfl, rfl, by simp! [e_pen_3]; rfl, rfl⟩⟩)
    rw [List.nil_append, List.filterMap_eq_map'] at c
    exact c
  generalize (sortP Z).map iiD = SZ at *
  generalize Z.map iiD = ZZ at *
  generalize ((sortP Z).map fun x => PyData.int x.2) = PZ at *
  generalize (reasF l h p k d).map PyData.int = RR at *
  simp only [List.map_nil] at lo
  rcases h6 with rfl | ⟨m, rfl⟩ <;> simp! [m_pen, re, lo, so, c]
/-! whether a number stands in a list of numbers, a word in a tuple of words -/
theorem any_int (p : Int) (r : List Int) : ((r.map PyData.int).any fun z => PyData.eqv z (.int p)) = decide (p ∈ r) := by
  rw [List.any_map]
  apply Bool.eq_iff_iff.mpr
  rw [List.any_eq_true, decide_eq_true_eq]
  constructor
  · rintro ⟨x, hx, e⟩
    simp [PyData.eqv] at e
    rw [← e]
    exact hx
  · intro hx
    exact ⟨p, hx, by simp [PyData.eqv]⟩
theorem notInL_int (p : Int) (r : List Int) (h : r.length ≤ gz) : fNotInL (.int p) (.list (r.map PyData.int)) = ob (!decide (p ∈ r)) := by
  have s1 : SeqAt.shaped (.int p) = true := (gd_int 0 p).shaped (by decide)
  have s2 : SeqAt.shaped (.list (r.map PyData.int)) = true := (gd_ints0 r h).shaped (by decide)
  show (if SeqAt.shaped (.int p) = true ∧ SeqAt.shaped (.list (r.map PyData.int)) = true then ob (!(r.map PyData.int).any fun z => PyData.eqv z (.int p)) else none) = _
  rw [if_pos ⟨s1, s2⟩, any_int]
theorem up_inj {l : List NF} (h : l.Pairwise fun a b => a.1 < b.1) {x y : NF} (hx : x ∈ l) (hy : y ∈ l) (e : x.1 = y.1) : x = y := by
  induction l with
  | nil => cases hx
  | cons z l ih =>
    obtain ⟨h1, h2⟩ := List.pairwise_cons.mp h
    rcases List.mem_cons.mp hx with hx | hx <;> rcases List.mem_cons.mp hy with hy | hy
    · rw [hx, hy]
    · have := h1 y hy
      rw [← hx] at this
      omega
    · have := h1 x hx
      rw [← hy] at this
      omega
    · exact ih h2 hx hy
/-! the beasts that are picked -/
def worthF (l : List NF) (n : Int) : Int := match birthF l n with
  | some (.born _ _ _ _ w) => w
  | _ => 0
def asideF (l : List NF) (p k t : Int) : Nat := match customF l p k (t / 100) with
  | .kind a => a.toNat
  | _ => 0
def pk1 (l : List NF) (p k : Int) (T : List (Int × Int)) : Int := (T.getD ((byW (T.map fun x => worthF l x.2) 10).getD (asideF l p k (T.getD 9 (0, 0)).1) 0) (0, 0)).2
def pkF (l : List NF) (p k : Int) (row : List (Int × Int)) : List Int := (List.range (row.length / 10)).map fun i => pk1 l p k ((row.drop (10 * i)).take 10)
/-- what is known of a beast in a pen -/
structure InPen (l : List NF) (p k : Int) (x : Int × Int) : Prop where
  b : ∃ f k' d s w, birthF l x.2 = some (.born f k' d s w) ∧ x.1 = d + s
  c : isKind (customF l p k (x.1 / 100)) = true
  t : 0 ≤ x.1 ∧ x.1 ≤ 3999
theorem pen_has {l : List NF} (hl : Good l) {h p k d : Int} : ∀ x ∈ penF l h p k d, InPen l p k x := fun x hx => by
  unfold penF at hx
  obtain ⟨n, hn, h1⟩ := List.mem_flatMap.mp ((sortP_perm _).mem_iff.mp hx)
  obtain ⟨r, hr, h2⟩ := List.mem_filterMap.mp h1
  have ro := whole_row hl r hr
  unfold penO at h2
  split at h2
  · rename_i q
    simp only [Option.some.injEq] at h2
    subst h2
    rw [Bool.and_eq_true] at q
    unfold wholeR at hr
    cases hb : birthF l n with
    | none =>
      rw [hb] at hr
      cases hr
    | some y =>
      obtain ⟨f, k', d0, s, w, rfl⟩ := birth_born hb
      rw [hb] at hr
      refine ⟨⟨f, k', d0, s, w, hb, ?_⟩, q.2, ro.1⟩
      have := (List.mem_filter.mp hr).1
      unfold birRows at this
      obtain ⟨z, _, rfl⟩ := List.mem_map.mp this
      rfl
  · cases h2
theorem worth_ok {l : List NF} (hl : Good l) (hz : l.length ≤ 1000) {n f k d s w : Int} (hb : birthF l n = some (.born f k d s w)) : m_worth_of [.dat (fsD l), .dat (.int n)] = .ok (.dat (.int w)) [.dat (fsD l), .dat (.int n)] := by
  have hm : (n, Fc.born f k d s w) ∈ l := by
    obtain ⟨y, hy, e⟩ := Option.map_eq_some_iff.mp hb
    have h1 := List.mem_of_find?_eq_some hy
    have h2 := List.find?_some hy
    simp only [isB, Bool.and_eq_true, decide_eq_true_eq] at h2
    obtain ⟨m, y⟩ := y
    simp only at e h2
    rw [← h2.1, ← e]
    exact h1
  have c := cmp_fold (β := Unit) (is := [2, 3]) (tg := gT 2 (gsCons (gN 2) (gsCons (gN 3) gsNil))) (mt := t_worth_of_2) (me := e_worth_of_1) (enc := nfD) (out := fun x => if x.1 = n then some (PyData.int w) else none) (g := [.pin (.dat (fsD l)), .pin (.dat (.int n)), .no, .no]) l [] (by simp [zl]; omega) (fun x hx => by
    have un := up_inj hl.up hx hm
    clear hx
    obtain ⟨m, x⟩ := x
    refine ⟨[.pin (.dat (fsD l)), .pin (.dat (.int n)), .v (.dat (.int m)), .v (.dat (fcD x))], rfl, ?_⟩
    by_cases q : m = n
    · subst q
      have := un rfl
      simp only [Prod.mk.injEq, true_and] at this
      subst this
      exact .inl ⟨.int w, _, _, by simp, by simp! [t_worth_of_2]; rfl, by simp! [e_worth_of_1, fcD]; rfl, rfl⟩
    · exact .inr ⟨_, by simp [q], by simp! [t_worth_of_2, q]; rfl, rfl⟩)
  have he : ∃ r, l.filterMap (fun x => if x.1 = n then some (PyData.int w) else none) = .int w :: r := by
    have h1 : PyData.int w ∈ l.filterMap (fun x => if x.1 = n then some (PyData.int w) else none) := List.mem_filterMap.mpr ⟨_, hm, by simp⟩
    have h2 : ∀ y ∈ l.filterMap (fun x => if x.1 = n then some (PyData.int w) else none), y = .int w := fun y hy => by
      obtain ⟨x, _, e⟩ := List.mem_filterMap.mp hy
      split at e
      · simp only [Option.some.injEq] at e
        exact e.symm
      · cases e
    generalize l.filterMap (fun x => if x.1 = n then some (PyData.int w) else none) = Z at *
    cases Z with
    | nil => cases h1
    | cons y r => exact ⟨r, by rw [h2 y List.mem_cons_self]⟩
  obtain ⟨r, er⟩ := he
  rw [List.nil_append, er] at c
  simp! [m_worth_of, c]
theorem at_last10 {α : Type} (L : List α) (f : α → PyData) (z : α) (h : L.length = 10) : atI (L.map f) (-1) = some (f (L.getD 9 z)) := by
  have hne : L.map f ≠ [] := fun e => by
    have := congrArg List.length e
    rw [List.length_map, h] at this
    cases this
  rw [atI_end _ hne, List.getLast_eq_getElem, List.getElem_map]
  congr 2
  have e : (L.map f).length - 1 = 9 := by rw [List.length_map, h]
  simp only [e]
  rw [List.getD_eq_getElem?_getD, List.getElem?_eq_getElem (by omega)]
  rfl
theorem at_get {α : Type} (L : List α) (f : α → PyData) (z : α) {i : Nat} (h : i < L.length) : atI (L.map f) (i : Int) = some (f (L.getD i z)) := by
  rw [atI_nat, List.getElem?_map, List.getElem?_eq_getElem h, List.getD_eq_getElem?_getD, List.getElem?_eq_getElem h]
  rfl
theorem pk_row {l : List NF} (hl : Good l) (hz : l.length ≤ 1000) {h p k d : Int} (hp : okParish p = true) (hk : okKind k = true) {row : List (Int × Int)} (hr : ∀ x ∈ row, InPen l p k x) (hw : row.length ≤ 10000) (i : Nat) (hi : 10 * i + 10 ≤ row.length) (F : List PyData) (hF : F.length ≤ 10000) : ∃ g8 g9, b_picked_beasts_2 [.pin (.dat (fsD l)), .pin (.dat (.int h)), .pin (.dat (.int p)), .pin (.dat (.int k)), .pin (.dat (.int d)), .v (.dat (.list (row.map fun x => PyData.int x.2))), .v (.lst F), .v (.dat (.int (0 + (i : Int) * 10))), .no, .no, .no] = .nx [.pin (.dat (fsD l)), .pin (.dat (.int h)), .pin (.dat (.int p)), .pin (.dat (.int k)), .pin (.dat (.int d)), .v (.dat (.list (row.map fun x => PyData.int x.2))), .v (.lst (F ++ [.int (pk1 l p k ((row.drop (10 * i)).take 10))])), .v (.dat (.int (0 + (i : Int) * 10))), g8, g9, .no] := by
  have e0 : 0 + (i : Int) * 10 = ((10 * i : Nat) : Int) := by omega
  have e1 : ((10 * i : Nat) : Int) + 10 = ((10 * i + 10 : Nat) : Int) := by omega
  have ec : cutD (row.map fun x => PyData.int x.2) (some ((10 * i : Nat) : Int)) (some ((10 * i + 10 : Nat) : Int)) = ((row.drop (10 * i)).take 10).map fun x => PyData.int x.2 := by
    rw [cut_nat _ _ _ (by rw [List.length_map]; omega) (by rw [List.length_map]; omega) (by omega), ← List.map_drop, ← List.map_take]
    congr 2
    omega
  have hT : ∀ x ∈ (row.drop (10 * i)).take 10, InPen l p k x := fun x hx => hr x (List.mem_of_mem_drop (List.mem_of_mem_take hx))
  have lT : ((row.drop (10 * i)).take 10).length = 10 := by
    rw [List.length_take, List.length_drop]
    omega
  unfold pk1
  generalize (row.drop (10 * i)).take 10 = T at *
  generalize (row.map fun x => PyData.int x.2) = RR at *
  have la := at_last10 T (fun x => PyData.int x.2) (0, 0) lT
  have h9 : T.getD 9 (0, 0) ∈ T := by
    rw [List.getD_eq_getElem?_getD, List.getElem?_eq_getElem (by omega)]
    exact List.getElem_mem _
  obtain ⟨⟨f, k', d0, s, w, hb, et⟩, ck, t0, t1⟩ := hT _ h9
  generalize T.getD 9 (0, 0) = z at *
  have fo := falls_on_ok hb
  rw [← et] at fo
  have yo := year_of_ok (d := z.1) (okDay_iff.mpr ⟨t0, t1⟩)
  have cu := custom_of_ok l p k (z.1 / 100) (by unfold gz; omega) hp hk (okYear_iff.mpr ⟨by omega, by omega⟩)
  have cok := cus_ok hl.ok p k (z.1 / 100)
  unfold asideF
  generalize customF l p k (z.1 / 100) = cv at *
  cases cv <;> first | (simp [isKind] at ck; done) | skip
  rename_i a
  have a0 : 0 ≤ a := cok.1
  have a9 : a ≤ 9 := cok.2
  obtain ⟨a, rfl⟩ : ∃ m : Nat, a = (m : Int) := ⟨a.toNat, by omega⟩
  simp only [Int.toNat_natCast]
  have c : ∀ s8 s9 : Sl, cmpM [10] (gN 10) tYesM e_picked_beasts_1 (T.map fun x => PyData.int x.2) [] [.pin (.dat (fsD l)), .pin (.dat (.int h)), .pin (.dat (.int p)), .pin (.dat (.int k)), .pin (.dat (.int d)), .v (.dat (.list RR)), .v (.lst F), .v (.dat (.int ((10 * i : Nat) : Int))), s8, s9, .no] = .ok ((T.map fun x => worthF l x.2).map PyData.int) [.pin (.dat (fsD l)), .pin (.dat (.int h)), .pin (.dat (.int p)), .pin (.dat (.int k)), .pin (.dat (.int d)), .v (.dat (.list RR)), .v (.lst F), .v (.dat (.int ((10 * i : Nat) : Int))), s8, s9, .no] := fun s8 s9 => by
    have c := cmp_fold (β := Unit) (is := [10]) (tg := gN 10) (mt := tYesM) (me := e_picked_beasts_1) (enc := fun x : Int × Int => PyData.int x.2) (out := fun x => some (PyData.int (worthF l x.2))) (g := [.pin (.dat (fsD l)), .pin (.dat (.int h)), .pin (.dat (.int p)), .pin (.dat (.int k)), .pin (.dat (.int d)), .v (.dat (.list RR)), .v (.lst F), .v (.dat (.int ((10 * i : Nat) : Int))), s8, s9, .no]) T [] (by simp [zl]; omega) (fun x hx => by
      obtain ⟨⟨f, k', d0, s, w, hb, et⟩, _, _⟩ := hT x hx
      have wo := worth_ok hl hz hb
      have ew : worthF l x.2 = w := by
        unfold worthF
        rw [hb]
      rw [ew]
      clear hx
      generalize fsD l = LL at *
      exact ⟨[.pin (.dat LL), .pin (.dat (.int h)), .pin (.dat (.int p)), .pin (.dat (.int k)), .pin (.dat (.int d)), .v (.dat (.list RR)), .v (.lst F), .v (.dat (.int ((10 * i : Nat) : Int))), s8, s9, .v (.dat (.int x.2))], rfl, .inl ⟨_, _, _, rfl, rfl, by simp! [e_picked_beasts_1, wo]; rfl, rfl⟩⟩)
    rw [List.nil_append, List.filterMap_eq_map'] at c
    rw [c, List.map_map]
    rfl
  have lW : (T.map fun x => worthF l x.2).length = 10 := by rw [List.length_map]; exact lT
  have pk := picked_ok (T.map fun x => worthF l x.2) (by rw [lW]; simp [gz]) a (by rw [lW]; omega)
  rw [lW] at pk
  have pl : (byW (T.map fun x => worthF l x.2) 10).getD a 0 < 10 := by
    have hm : (byW (T.map fun x => worthF l x.2) 10).getD a 0 ∈ byW (T.map fun x => worthF l x.2) 10 := by
      rw [List.getD_eq_getElem?_getD, List.getElem?_eq_getElem (by rw [byW_len]; omega)]
      exact List.getElem_mem _
    exact List.mem_range.mp ((byW_perm _ _).mem_iff.mp hm)
  generalize (byW (T.map fun x => worthF l x.2) 10).getD a 0 = q at *
  have ag := at_get T (fun x => PyData.int x.2) (0, 0) (i := q) (by omega)
  generalize T.getD q (0, 0) = y at *
  have hz1 : F.length < 1000000 := by omega
  generalize (T.map fun x => worthF l x.2).map PyData.int = WW at *
  generalize (T.map fun x => PyData.int x.2) = TT at *
  generalize hL : l.map nfD = LL at *
  unfold nI at pk
  simp only [fsD, hL] at *
  rw [e0]
  refine ⟨.v (.dat (.list TT)), .v (.dat (cuD (.kind (a : Int)))), ?_⟩
  simp! [b_picked_beasts_2, c_TEN, e1, ec, la, fo, yo, cu, cuD, c, pk, ag, hz1]
theorem picked_beasts_ok {l : List NF} (hl : Good l) (hz : l.length ≤ 60) {p k d : Int} (hp : okParish p = true) (hk : okKind k = true) (hd : okDay d = true) {h : Int} (hh : inB 1 8 h) : m_picked_beasts [.dat (fsD l), .dat (.int h), .dat (.int p), .dat (.int k), .dat (.int d)] = .ok (.lst ((pkF l p k (penF l h p k d)).map PyData.int)) [.dat (fsD l), .dat (.int h), .dat (.int p), .dat (.int k), .dat (.int d)] := by
  obtain ⟨pe, lp⟩ := pen_ok hl hz hp hk hd hh
  have hr := pen_has hl (h := h) (p := p) (k := k) (d := d)
  generalize penF l h p k d = row at *
  have key : ∀ (m j : Nat), j + m = row.length / 10 → forM [7, 8, 9] (gN 7) b_picked_beasts_2 ((List.range' j m).map fun i : Nat => PyData.int (0 + (i : Int) * 10)) [.pin (.dat (fsD l)), .pin (.dat (.int h)), .pin (.dat (.int p)), .pin (.dat (.int k)), .pin (.dat (.int d)), .v (.dat (.list (row.map fun x => PyData.int x.2))), .v (.lst ((List.range j).map fun i => PyData.int (pk1 l p k ((row.drop (10 * i)).take 10)))), .no, .no, .no, .no] = .nx [.pin (.dat (fsD l)), .pin (.dat (.int h)), .pin (.dat (.int p)), .pin (.dat (.int k)), .pin (.dat (.int d)), .v (.dat (.list (row.map fun x => PyData.int x.2))), .v (.lst ((List.range (row.length / 10)).map fun i => PyData.int (pk1 l p k ((row.drop (10 * i)).take 10)))), .no, .no, .no, .no] := by
    intro m
    induction m with
    | zero =>
      intro j hj
      have : j = row.length / 10 := by omega
      subst this
      rfl
    | succ m ih =>
      intro j hj
      rw [List.range'_succ, List.map_cons]
      obtain ⟨g8, g9, t⟩ := pk_row hl (by omega) (h := h) (d := d) hp hk hr (by omega) j (by omega) ((List.range j).map fun i => PyData.int (pk1 l p k ((row.drop (10 * i)).take 10))) (by rw [List.length_map, List.length_range]; omega)
      have i2 := ih (j + 1) (by omega)
      rw [List.range_succ, List.map_append] at i2
      rw [forM_step rfl t]
      exact i2
  have h1 := key (row.length / 10) 0 (by omega)
  rw [← List.range_eq_range'] at h1
  have en : (if (0 : Int) < (row.length : Int) - 10 + 1 then ((row.length : Int) - 10 + 1 - 0 - 1) / 10 + 1 else 0).toNat = row.length / 10 := by
    split <;> omega
  have fc : ∀ g, forCA [7, 8, 9] (gN 7) b_picked_beasts_2 [.int 0, .int ((row.length : Int) - 10 + 1), .int 10] g = forM [7, 8, 9] (gN 7) b_picked_beasts_2 (rngC 0 10 (row.length / 10)) (kl [7, 8, 9] g) := fun g => by
    rw [forCA_pos (by unfold gz; omega) (by unfold gz; omega) (by unfold gz; omega) (by unfold gz; omega) (by omega) (by unfold gz; omega), en]
  have lr : (row.map fun x => PyData.int x.2).length = row.length := List.length_map _
  have er : rngC 0 10 (row.length / 10) = (List.range (row.length / 10)).map fun i : Nat => PyData.int (0 + (i : Int) * 10) := rfl
  rw [← er] at h1
  have ep : (pkF l p k row).map PyData.int = (List.range (row.length / 10)).map fun i => PyData.int (pk1 l p k ((row.drop (10 * i)).take 10)) := by
    unfold pkF
    rw [List.map_map]
    rfl
  rw [ep]
  generalize ((List.range (row.length / 10)).map fun i => PyData.int (pk1 l p k ((row.drop (10 * i)).take 10))) = ZZ at *
  generalize (row.map fun x => PyData.int x.2) = RR at *
  simp only [List.range_zero, List.map_nil] at h1
  generalize fsD l = LL at *
  simp! [m_picked_beasts, pe, c_TEN, lr, fc, h1]
/-! the pen by all that arises -/
def penG (l : List NF) (h p k d : Int) (r : Ar5) : Option (Int × Int) := if decide (r.2.1 = h ∧ r.2.2.1 = p ∧ (r.2.2.2.1.1 = 1 ∧ r.2.2.2.1.2 = 1)) && decide (r.1 ≤ d) && isKind (customF l p k (r.1 / 100)) then some (r.1, r.2.2.2.2) else none
theorem sortP_eq {L M : List (Int × Int)} (h : L.Perm M) : sortP L = sortP M := by
  refine ((sortP_perm L).trans (h.trans (sortP_perm M).symm)).eq_of_pairwise (le := fun a b => ltP a b = true) (fun a b _ _ h1 h2 => ?_) (sortP_sorted L) (sortP_sorted M)
  simp only [ltP, Bool.or_eq_true, Bool.and_eq_true, decide_eq_true_eq] at *
  obtain ⟨a1, a2⟩ := a
  obtain ⟨b1, b2⟩ := b
  simp only [Prod.mk.injEq] at *
  omega
theorem fm_flat {α β γ : Type} (g : α → List β) (f : β → Option γ) (L : List α) : (L.flatMap g).filterMap f = L.flatMap fun x => (g x).filterMap f := by
  induction L with
  | nil => rfl
  | cons a L ih => rw [List.flatMap_cons, List.filterMap_append, List.flatMap_cons, ih]
theorem fm_congr {α β : Type} {f g : α → Option β} {L : List α} (h : ∀ x ∈ L, f x = g x) : L.filterMap f = L.filterMap g := by
  induction L with
  | nil => rfl
  | cons a L ih => rw [List.filterMap_cons, List.filterMap_cons, h a List.mem_cons_self, ih fun x hx => h x (List.mem_cons_of_mem _ hx)]
theorem flat_congr {α β : Type} {g g' : α → List β} {L : List α} (h : ∀ x ∈ L, g x = g' x) : L.flatMap g = L.flatMap g' := by
  induction L with
  | nil => rfl
  | cons a L ih => rw [List.flatMap_cons, List.flatMap_cons, h a List.mem_cons_self, ih fun x hx => h x (List.mem_cons_of_mem _ hx)]
theorem flat_if {F : List Int} (q : Int → List (Int × Int)) : ∀ L : List NF, L.flatMap (fun x => if x.1 ∈ F then q x.1 else []) = ((L.filter fun x => decide (x.1 ∈ F)).map (·.1)).flatMap q
  | [] => rfl
  | x :: L => by
    rw [List.flatMap_cons, List.filter_cons, flat_if q L]
    by_cases h : x.1 ∈ F
    · simp [h]
    · simp [h]
theorem up_nd {L : List NF} (h : L.Pairwise fun a b => a.1 < b.1) : (L.map (·.1)).Nodup := List.pairwise_map.mpr (h.imp fun q e => by omega)
theorem pen_as {l : List NF} (hl : Good l) (hc : ∀ x ∈ l, ∀ f k d c, x.2 ≠ .cut f k d c) (h p k d : Int) : sortP ((arS l k).filterMap (penG l h p k d)) = penF l h p k d := by
  unfold penF
  refine sortP_eq ?_
  refine ((arS_perm l k).filterMap _).trans ?_
  unfold allAr
  rw [fm_flat]
  have key : ∀ x ∈ l, (arOf l k x).filterMap (penG l h p k d) = if x.1 ∈ reasF l h p k d then penN l h p k x.1 else [] := fun x hx => by
    have out : (∀ f d' s w, x.2 ≠ .born f k d' s w) → x.1 ∉ reasF l h p k d := fun hn hm => by
      obtain ⟨r, hr, _, e⟩ := reas_mem.mp hm
      obtain ⟨y, hy, e1, e2⟩ := ar_num hr
      have := up_inj hl.up hx hy (by rw [e1, e])
      subst this
      rcases e2 with ⟨_, _, _, e2⟩ | ⟨_, _, _, _, e2⟩
      · exact hc x hx _ _ _ _ e2
      · exact hn _ _ _ _ e2
    obtain ⟨n, x⟩ := x
    by_cases hb : ∃ f d' s w, x = .born f k d' s w
    · obtain ⟨f, d', s, w, rfl⟩ := hb
      have eb : birthF l n = some (.born f k d' s w) := birth_in hl hx rfl
      have ea : arOf l k (n, .born f k d' s w) = birRows l n f d' s := by
        unfold arOf
        simp
      have rows : ∀ r ∈ birRows l n f d' s, r.1 = d' + s ∧ r.2.2.2.2 = n := fun r hr => by
        unfold birRows at hr
        obtain ⟨z, _, rfl⟩ := List.mem_map.mp hr
        exact ⟨rfl, rfl⟩
      rw [ea]
      by_cases hm : n ∈ reasF l h p k d
      · simp only [hm, if_true]
        have hd : d' + s ≤ d := by
          obtain ⟨r, hr, hi, e⟩ := reas_mem.mp hm
          have hi2 : r.1 ≤ d := by
            unfold inLine at hi
            rw [Bool.and_eq_true] at hi
            exact of_decide_eq_true hi.2
          obtain ⟨⟨m, y⟩, hy, hr⟩ := List.mem_flatMap.mp hr
          have num : r.2.2.2.2 = m := by
            unfold arOf at hr
            cases y <;> simp at hr
            · exact absurd rfl (hc _ hy _ _ _ _)
            · obtain ⟨_, hr⟩ := hr
              unfold birRows at hr
              obtain ⟨z, _, rfl⟩ := List.mem_map.mp hr
              rfl
          have := up_inj hl.up hx hy (by show n = m; rw [← e, num])
          simp only [Prod.mk.injEq] at this
          obtain ⟨rfl, rfl⟩ := this
          rw [ea] at hr
          rw [← (rows r hr).1]
          exact hi2
        unfold penN wholeR
        rw [eb]
        simp only
        rw [List.filterMap_filter]
        refine fm_congr fun r hr => ?_
        obtain ⟨r1, r2⟩ := rows r hr
        unfold penG penO wh
        rw [r1, r2]
        by_cases q1 : r.2.2.2.1.1 = 1 ∧ r.2.2.2.1.2 = 1
        · by_cases q2 : r.2.1 = h ∧ r.2.2.1 = p
          · simp [q1, q2, hd]
          · have : ¬ (r.2.1 = h ∧ r.2.2.1 = p ∧ (r.2.2.2.1.1 = 1 ∧ r.2.2.2.1.2 = 1)) := fun z => q2 ⟨z.1, z.2.1⟩
            rw [decide_eq_false this, decide_eq_true q1, decide_eq_false q2]
            simp
        · have : ¬ (r.2.1 = h ∧ r.2.2.1 = p ∧ (r.2.2.2.1.1 = 1 ∧ r.2.2.2.1.2 = 1)) := fun z => q1 z.2.2
          rw [decide_eq_false this, decide_eq_false q1]
          simp
      · simp only [hm, if_false]
        rw [List.filterMap_eq_nil_iff]
        intro r hr
        unfold penG
        rw [if_neg]
        intro z
        rw [Bool.and_eq_true, Bool.and_eq_true, decide_eq_true_eq, decide_eq_true_eq] at z
        refine hm (reas_mem.mpr ⟨r, List.mem_flatMap.mpr ⟨_, hx, by rw [ea]; exact hr⟩, ?_, (rows r hr).2⟩)
        unfold inLine
        simp [z.1.1.1, z.1.1.2.1, z.1.2]
    · have hn : n ∉ reasF l h p k d := out fun f d' s w e => hb ⟨f, d', s, w, e⟩
      simp only [hn, if_false]
      have : arOf l k (n, x) = [] := by
        unfold arOf
        cases x <;> first | rfl | skip
        · exact absurd rfl (hc _ hx _ _ _ _)
        · rename_i f k' d' s w
          have : ¬ k' = k := fun e => hb ⟨f, d', s, w, by rw [e]⟩
          simp [this]
      rw [this]
      rfl
  rw [flat_congr key, flat_if]
  refine List.Perm.flatMap_right _ ?_
  have nd1 : ((l.filter fun x => decide (x.1 ∈ reasF l h p k d)).map (·.1)).Nodup := up_nd (hl.up.filter _)
  have nd2 : (reasF l h p k d).Nodup := (List.mergeSort_perm _ _).nodup_iff.mpr (numF_nodup _ [] (by simp))
  refine (List.perm_ext_iff_of_nodup nd1 nd2).mpr fun n => ?_
  constructor
  · intro hn
    obtain ⟨x, hx, rfl⟩ := List.mem_map.mp hn
    exact of_decide_eq_true (List.mem_filter.mp hx).2
  · intro hn
    obtain ⟨r, hr, _, e⟩ := reas_mem.mp hn
    obtain ⟨y, hy, e1, _⟩ := ar_num hr
    refine List.mem_map.mpr ⟨y, List.mem_filter.mpr ⟨hy, ?_⟩, by rw [e1, e]⟩
    rw [e1, e]
    exact decide_eq_true hn
/-! facts numbered from one on -/
def numL (rows : List Fc) : List NF := rows.zipIdx.map fun x => ((x.2 : Int) + 1, x.1)
theorem numL_get (rows : List Fc) {i : Nat} (h : i < rows.length) : (numL rows)[i]? = some ((i : Int) + 1, rows[i]) := by
  unfold numL
  rw [List.getElem?_map, List.getElem?_zipIdx, List.getElem?_eq_getElem h]
  simp
theorem numL_len (rows : List Fc) : (numL rows).length = rows.length := by simp [numL]
theorem numL_mem {rows : List Fc} {x : NF} (h : x ∈ numL rows) : ∃ (i : Nat) (hi : i < rows.length), x = ((i : Int) + 1, rows[i]) := by
  obtain ⟨i, hi, e⟩ := List.mem_iff_getElem.mp h
  rw [numL_len] at hi
  refine ⟨i, hi, ?_⟩
  have := numL_get rows hi
  rw [List.getElem?_eq_getElem (by rw [numL_len]; exact hi)] at this
  simp only [Option.some.injEq] at this
  rw [← e, this]
theorem numL_up (rows : List Fc) : (numL rows).Pairwise fun a b => a.1 < b.1 := by
  rw [List.pairwise_iff_getElem]
  intro i j hi hj hij
  rw [numL_len] at hi hj
  have h1 := numL_get rows hi
  have h2 := numL_get rows hj
  rw [List.getElem?_eq_getElem (by rw [numL_len]; assumption)] at h1 h2
  simp only [Option.some.injEq] at h1 h2
  rw [h1, h2]
  show (i : Int) + 1 < (j : Int) + 1
  omega
/-! one field, one line, births alone -/
structure Flat (l : List NF) (a : Int) : Prop where
  good : Good l
  ln : ∀ t, 0 ≤ t → lineF l 1 t = some (1, 1)
  cu : ∀ y, 0 ≤ y → customF l 1 1 y = .kind a
  dr : ∀ b d, drvR l b d = []
  br : ∀ x ∈ l, ∀ f k d s w, x.2 = .born f k d s w → f = 1 ∧ k = 1
  nc : ∀ x ∈ l, ∀ f k d c, x.2 ≠ .cut f k d c
theorem force1 {α : Type} {t n d : Int} (v : α) (h : d ≤ t) : forceG t [(n, d, v)] = some v := by
  unfold forceG bestOfR bestG
  simp [h]
theorem flat_rows {a : Int} (B : List Fc) (hB : ∀ x ∈ B, FcOk x ∧ ∃ d s w, x = .born 1 1 d s w) (ha : inB 0 9 a) : Flat (numL (.lies 1 1 0 :: .held 1 1 0 :: .custom 1 1 0 (.kind a) :: B)) a := by
  have ok : ∀ x ∈ (Fc.lies 1 1 0 :: .held 1 1 0 :: .custom 1 1 0 (.kind a) :: B), FcOk x := fun x hx => by
    simp only [List.mem_cons] at hx
    rcases hx with rfl | rfl | rfl | hx
    · exact ⟨⟨by decide, by decide⟩, ⟨by decide, by decide⟩, ⟨by decide, by decide⟩⟩
    · exact ⟨⟨by decide, by decide⟩, ⟨by decide, by decide⟩, ⟨by decide, by decide⟩⟩
    · exact ⟨⟨by decide, by decide⟩, ⟨by decide, by decide⟩, ⟨by decide, by decide⟩, ha⟩
    · exact (hB x hx).1
  have shape : ∃ L : List NF, numL (.lies 1 1 0 :: .held 1 1 0 :: .custom 1 1 0 (.kind a) :: B) = (1, .lies 1 1 0) :: (2, .held 1 1 0) :: (3, .custom 1 1 0 (.kind a)) :: L ∧ ∀ x ∈ L, ∃ d s w, x.2 = .born 1 1 d s w := by
    refine ⟨(B.zipIdx 3).map fun x => ((x.2 : Int) + 1, x.1), ?_, fun x hx => ?_⟩
    · unfold numL
      simp [List.zipIdx_cons]
    · obtain ⟨⟨y, i⟩, hy, rfl⟩ := List.mem_map.mp hx
      have := List.fst_mem_of_mem_zipIdx hy
      exact (hB _ this).2
  have good : Good (numL (.lies 1 1 0 :: .held 1 1 0 :: .custom 1 1 0 (.kind a) :: B)) := by
    refine ⟨numL_up _, fun x hx => ?_, fun x hx => ?_, fun x hx b f d e => ?_⟩
    · obtain ⟨i, hi, rfl⟩ := numL_mem hx
      show 1 ≤ (i : Int) + 1
      omega
    · obtain ⟨i, hi, rfl⟩ := numL_mem hx
      exact ok _ (List.getElem_mem _)
    · obtain ⟨L, eL, hL⟩ := shape
      rw [eL] at hx
      simp only [List.mem_cons] at hx
      rcases hx with rfl | rfl | rfl | hx
      · cases e
      · cases e
      · cases e
      · obtain ⟨_, _, _, e'⟩ := hL x hx
        rw [e'] at e
        cases e
  obtain ⟨L, eL, hL⟩ := shape
  rw [eL] at good ⊢
  have z : ∀ {β : Type} (g : NF → Option β), (∀ n d s w, g (n, .born 1 1 d s w) = none) → L.filterMap g = [] := fun g hg => by
    rw [List.filterMap_eq_nil_iff]
    intro x hx
    obtain ⟨d, s, w, e⟩ := hL x hx
    obtain ⟨n, x⟩ := x
    simp only at e
    subst e
    exact hg _ _ _ _
  refine ⟨good, fun t ht => ?_, fun y hy => ?_, fun b d => ?_, fun x hx f k d s w e => ?_, fun x hx f k d c e => ?_⟩
  · unfold lineF holderF parishF liesR heldR freeF
    simp only [List.filterMap_cons, if_true]
    rw [z _ fun _ _ _ _ => rfl, z _ fun _ _ _ _ => rfl, force1 _ ht, force1 _ ht]
    have : ((1, Fc.lies 1 1 0) :: (2, .held 1 1 0) :: (3, .custom 1 1 0 (.kind a)) :: L).any (fun x => isFree 1 t x.2) = false := by
      rw [List.any_eq_false]
      intro x hx
      simp only [List.mem_cons] at hx
      rcases hx with rfl | rfl | rfl | hx
      · simp [isFree]
      · simp [isFree]
      · simp [isFree]
      · obtain ⟨d, s, w, e⟩ := hL x hx
        rw [e]
        simp [isFree]
    rw [this]
    rfl
  · unfold customF cusR
    simp only [List.filterMap_cons, and_self, if_true]
    rw [z _ fun _ _ _ _ => rfl, force1 _ hy]
    rfl
  · unfold drvR
    simp only [List.filterMap_cons]
    exact z _ fun _ _ _ _ => rfl
  · simp only [List.mem_cons] at hx
    rcases hx with rfl | rfl | rfl | hx
    · cases e
    · cases e
    · cases e
    · obtain ⟨_, _, _, e'⟩ := hL x hx
      rw [e'] at e
      cases e
      exact ⟨rfl, rfl⟩
  · simp only [List.mem_cons] at hx
    rcases hx with rfl | rfl | rfl | hx
    · cases e
    · cases e
    · cases e
    · obtain ⟨_, _, _, e'⟩ := hL x hx
      rw [e'] at e
      cases e
theorem flat_lns {l : List NF} {a : Int} (h : Flat l a) {n d : Int} (hd : 0 ≤ d) (m : Nat) : lnsF l n 1 d m = List.replicate m (some ((1, 1) : Kk)) := by
  unfold lnsF
  rw [List.eq_replicate_iff]
  refine ⟨by simp, fun x hx => ?_⟩
  obtain ⟨i, _, rfl⟩ := List.mem_map.mp hx
  unfold dayLn fieldF
  rw [h.dr, force1 _ (by omega)]
  exact h.ln _ (by omega)
theorem cnt_rep (k : Kk) : ∀ (m c : Nat), (List.replicate m (some k)).foldl cStep [(k, c)] = [(k, c + m)]
  | 0, c => rfl
  | m + 1, c => by
    rw [List.replicate_succ, List.foldl_cons]
    have : cStep [(k, c)] (some k) = [(k, c + 1)] := by
      simp [cStep, cPut, cVal]
    rw [this, cnt_rep k m (c + 1)]
    congr 2
    omega
theorem cnt_one (k : Kk) (m : Nat) (hm : 1 ≤ m) : cntF (List.replicate m (some k)) = [(k, m)] := by
  obtain ⟨m, rfl⟩ : ∃ j, m = j + 1 := ⟨m - 1, by omega⟩
  unfold cntF
  rw [List.replicate_succ, List.foldl_cons]
  have : cStep [] (some k) = [(k, 1)] := by simp [cStep, cPut, cVal]
  rw [this, cnt_rep]
  congr 2
  omega
theorem flat_bir {l : List NF} {a : Int} (h : Flat l a) {n d s : Int} (hd : 0 ≤ d) (hs : 1 ≤ s) : birRows l n 1 d s = [(d + s, 1, 1, (1, 1), n)] := by
  unfold birRows shRows ctF
  rw [flat_lns h hd, cnt_one _ _ (by omega)]
  have e1 : sortP ([((1, 1), s.toNat)].map fun x : Kk × Nat => x.1) = [(1, 1)] := by simp [sortP]
  rw [e1]
  have e2 : (cVal [(((1, 1) : Kk), s.toNat)] (1, 1)).getD 0 = s.toNat := by simp [cVal]
  simp only [List.map_cons, List.map_nil, e2]
  have e3 : lowA ((s.toNat : Nat) : Int) s = 1 ∧ lowB ((s.toNat : Nat) : Int) s = 1 := by
    rw [show ((s.toNat : Nat) : Int) = s by omega]
    unfold lowA lowB
    have : ((Int.gcd s s : Nat) : Int) = s := by
      rw [Int.gcd_self]
      omega
    rw [this, Int.ediv_self (by omega)]
    exact ⟨rfl, rfl⟩
  rw [e3.1, e3.2]
def bps (l : List NF) : List (Int × Int) := l.filterMap fun x => match x.2 with
  | .born _ _ d s _ => some (d + s, x.1)
  | _ => none
theorem flat_pen {l : List NF} {a : Int} (h : Flat l a) : penF l 1 1 1 3999 = sortP (bps l) := by
  rw [← pen_as h.good h.nc]
  refine sortP_eq (((arS_perm l 1).filterMap _).trans ?_)
  unfold allAr
  rw [fm_flat]
  have : l.flatMap (fun x => (arOf l 1 x).filterMap (penG l 1 1 1 3999)) = bps l := by
    unfold bps
    have : ∀ L : List NF, (∀ x ∈ L, x ∈ l) → L.flatMap (fun x => (arOf l 1 x).filterMap (penG l 1 1 1 3999)) = L.filterMap fun x => match x.2 with
        | .born _ _ d s _ => some (d + s, x.1)
        | _ => none := fun L => by
      induction L with
      | nil => intro _; rfl
      | cons x L ih =>
        intro hL
        have hx := hL x List.mem_cons_self
        rw [List.flatMap_cons, ih fun y hy => hL y (List.mem_cons_of_mem _ hy), List.filterMap_cons]
        have ok := h.good.ok x hx
        have br := h.br x hx
        have nc := h.nc x hx
        obtain ⟨n, x⟩ := x
        unfold arOf
        cases x
        case cut f k d c => exact absurd rfl (nc _ _ _ _)
        case born f k d s w =>
          obtain ⟨rfl, rfl⟩ := br _ _ _ _ _ rfl
          have d0 := ok.2.2.1.1
          have s1 := ok.2.2.2.1.1
          have ds := ok.2.2.2.2.1
          simp only [if_true]
          rw [flat_bir h d0 s1]
          have hc : customF l 1 1 ((d + s) / 100) = .kind a := h.cu _ (by omega)
          have hp : penG l 1 1 1 3999 (d + s, 1, 1, (1, 1), n) = some (d + s, n) := by
            unfold penG
            simp only
            rw [hc]
            simp [isKind, ds]
          rw [List.filterMap_cons, hp]
          rfl
        all_goals rfl
    exact this l fun _ hx => hx
  rw [this]
theorem flat_none {l : List NF} {a : Int} (h : Flat l a) {hh k : Int} (q : hh ≠ 1 ∨ k ≠ 1) : penF l hh 1 k 3999 = [] := by
  rw [← pen_as h.good h.nc]
  have : (arS l k).filterMap (penG l hh 1 k 3999) = [] := by
    rw [List.filterMap_eq_nil_iff]
    intro r hr
    have hr := (arS_perm l k).mem_iff.mp hr
    obtain ⟨⟨n, x⟩, hx, hr⟩ := List.mem_flatMap.mp hr
    unfold arOf at hr
    cases x <;> simp at hr
    · exact absurd rfl (h.nc _ hx _ _ _ _)
    · rename_i f k' d s w
      obtain ⟨ek, hr⟩ := hr
      obtain ⟨rfl, rfl⟩ := h.br _ hx _ _ _ _ _ rfl
      have ok := h.good.ok _ hx
      rw [flat_bir h ok.2.2.1.1 ok.2.2.2.1.1] at hr
      have := List.mem_singleton.mp hr
      subst this
      unfold penG
      rw [if_neg]
      intro z
      rw [Bool.and_eq_true, Bool.and_eq_true, decide_eq_true_eq] at z
      rcases q with q | q
      · exact q z.1.1.1.symm
      · exact q ek.symm
  rw [this]
  simp [sortP]
-- needs: x_flat x_inv x_in x_at _law_bag
theorem bps_num {a : Int} {B : List Fc} (hB : ∀ x ∈ B, ∃ d s w, x = .born 1 1 d s w) : (bps (numL (.lies 1 1 0 :: .held 1 1 0 :: .custom 1 1 0 (.kind a) :: B))).map (·.2) = (List.range B.length).map fun i : Nat => (4 : Int) + i := by
  have e : numL (.lies 1 1 0 :: .held 1 1 0 :: .custom 1 1 0 (.kind a) :: B) = (1, .lies 1 1 0) :: (2, .held 1 1 0) :: (3, .custom 1 1 0 (.kind a)) :: (B.zipIdx 3).map fun x => ((x.2 : Int) + 1, x.1) := by
    unfold numL
    simp [List.zipIdx_cons]
  rw [e]
  unfold bps
  simp only [List.filterMap_cons]
  have : ∀ (B : List Fc) (j : Nat), (∀ x ∈ B, ∃ d s w, x = Fc.born 1 1 d s w) → (((B.zipIdx j).map fun x => (((x.2 : Int) + 1, x.1) : NF)).filterMap (fun x => match x.2 with
      | .born _ _ d s _ => some (d + s, x.1)
      | _ => none)).map (fun x : Int × Int => x.2) = (List.range B.length).map fun i : Nat => ((j + 1 : Nat) : Int) + i := fun B => by
    induction B with
    | nil => intro j _; rfl
    | cons x B ih =>
      intro j h
      obtain ⟨d, s, w, rfl⟩ := h x List.mem_cons_self
      rw [List.zipIdx_cons, List.map_cons, List.filterMap_cons]
      simp only [List.map_cons]
      rw [ih (j + 1) fun y hy => h y (List.mem_cons_of_mem _ hy), List.length_cons, List.range_succ_eq_map, List.map_cons, List.map_map]
      have e1 : ((j : Nat) : Int) + 1 = ((j + 1 : Nat) : Int) + ((0 : Nat) : Int) := by omega
      rw [e1]
      refine congrArg _ (List.map_congr_left fun i _ => ?_)
      simp only [Function.comp]
      push_cast
      omega
  exact this B 3 hB
theorem sortP_snoc {L : List (Int × Int)} {z : Int × Int} (h : ∀ x ∈ L, x.1 < z.1) : sortP (L ++ [z]) = sortP L ++ [z] := by
  refine ((sortP_perm _).trans ((sortP_perm L).symm.append_right [z])).eq_of_pairwise (le := fun a b => ltP a b = true) (fun a b _ _ h1 h2 => ?_) (sortP_sorted _) ?_
  · simp only [ltP, Bool.or_eq_true, Bool.and_eq_true, decide_eq_true_eq] at *
    obtain ⟨a1, a2⟩ := a
    obtain ⟨b1, b2⟩ := b
    simp only [Prod.mk.injEq] at *
    omega
  · refine List.pairwise_append.mpr ⟨sortP_sorted L, List.pairwise_singleton _ _, fun x hx y hy => ?_⟩
    have : y = z := by simpa using hy
    subst this
    have := h x ((sortP_perm L).mem_iff.mp hx)
    simp only [ltP, Bool.or_eq_true, Bool.and_eq_true, decide_eq_true_eq]
    exact .inl this
theorem rng_up (a : Int) (n : Nat) : ((List.range n).map fun i : Nat => a + (i : Int)).Pairwise (· ≤ ·) := by
  rw [List.pairwise_map]
  exact (List.pairwise_lt_range).imp fun h => by omega
/-! picks of a longer pen -/
theorem birth_app {l : List NF} {n : Int} {x : Fc} {z : NF} (h : birthF l n = some x) : birthF (l ++ [z]) n = some x := by
  unfold birthF at *
  rw [List.find?_append]
  obtain ⟨y, hy, e⟩ := Option.map_eq_some_iff.mp h
  rw [hy]
  simpa using e
theorem drop_take_app {α : Type} (L : List α) (z : α) {i : Nat} (h : 10 * i + 10 ≤ L.length) : ((L ++ [z]).drop (10 * i)).take 10 = (L.drop (10 * i)).take 10 := by
  rw [List.drop_append_of_le_length (by omega), List.take_append_of_le_length (by rw [List.length_drop]; omega)]
theorem pk_app {l l' : List NF} {a : Int} (F : Flat l a) (F' : Flat l' a) (z : NF) (el : l' = l ++ [z]) {row : List (Int × Int)} (hr : ∀ x ∈ row, InPen l 1 1 x) (y : Int × Int) : (pkF l' 1 1 (row ++ [y])).take (row.length / 10) = pkF l 1 1 row := by
  unfold pkF
  rw [← List.map_take, List.take_range, List.length_append, List.length_singleton, show min (row.length / 10) ((row.length + 1) / 10) = row.length / 10 by omega]
  refine List.map_congr_left fun i hi => ?_
  have hi := List.mem_range.mp hi
  rw [drop_take_app row y (by omega)]
  have hT : ∀ x ∈ (row.drop (10 * i)).take 10, InPen l 1 1 x := fun x hx => hr x (List.mem_of_mem_drop (List.mem_of_mem_take hx))
  have lT : ((row.drop (10 * i)).take 10).length = 10 := by
    rw [List.length_take, List.length_drop]
    omega
  generalize (row.drop (10 * i)).take 10 = T at *
  unfold pk1
  have e1 : T.map (fun x => worthF l' x.2) = T.map fun x => worthF l x.2 := List.map_congr_left fun x hx => by
    obtain ⟨⟨f, k', d, s, w, hb, _⟩, _, _⟩ := hT x hx
    unfold worthF
    rw [el, birth_app hb, hb]
  have h9 : T.getD 9 (0, 0) ∈ T := by
    rw [List.getD_eq_getElem?_getD, List.getElem?_eq_getElem (by omega)]
    exact List.getElem_mem _
  obtain ⟨_, _, t0, t1⟩ := hT _ h9
  have e2 : asideF l' 1 1 (T.getD 9 (0, 0)).1 = asideF l 1 1 (T.getD 9 (0, 0)).1 := by
    unfold asideF
    rw [F.cu _ (by omega), F'.cu _ (by omega)]
  rw [e1, e2]
theorem pk_mem {l : List NF} (hl : Good l) {row : List (Int × Int)} (hr : ∀ x ∈ row, InPen l 1 1 x) {i : Nat} (hi : i < row.length / 10) : pk1 l 1 1 ((row.drop (10 * i)).take 10) ∈ ((row.drop (10 * i)).take 10).map (·.2) := by
  have hT : ∀ x ∈ (row.drop (10 * i)).take 10, InPen l 1 1 x := fun x hx => hr x (List.mem_of_mem_drop (List.mem_of_mem_take hx))
  have lT : ((row.drop (10 * i)).take 10).length = 10 := by
    rw [List.length_take, List.length_drop]
    omega
  generalize (row.drop (10 * i)).take 10 = T at *
  unfold pk1
  have h9 : T.getD 9 (0, 0) ∈ T := by
    rw [List.getD_eq_getElem?_getD, List.getElem?_eq_getElem (by omega)]
    exact List.getElem_mem _
  obtain ⟨_, ck, t0, t1⟩ := hT _ h9
  generalize T.getD 9 (0, 0) = z at *
  have cok := cus_ok hl.ok 1 1 (z.1 / 100)
  have ha : asideF l 1 1 z.1 < 10 := by
    unfold asideF
    generalize customF l 1 1 (z.1 / 100) = cv at *
    cases cv <;> simp [isKind] at ck
    have := cok.2
    simp only
    omega
  have hq : (byW (T.map fun x => worthF l x.2) 10).getD (asideF l 1 1 z.1) 0 < 10 := by
    have hm : (byW (T.map fun x => worthF l x.2) 10).getD (asideF l 1 1 z.1) 0 ∈ byW (T.map fun x => worthF l x.2) 10 := by
      rw [List.getD_eq_getElem?_getD, List.getElem?_eq_getElem (by rw [byW_len]; omega)]
      exact List.getElem_mem _
    exact List.mem_range.mp ((byW_perm _ _).mem_iff.mp hm)
  generalize (byW (T.map fun x => worthF l x.2) 10).getD (asideF l 1 1 z.1) 0 = q at *
  refine List.mem_map.mpr ⟨_, ?_, rfl⟩
  rw [List.getD_eq_getElem?_getD, List.getElem?_eq_getElem (by omega)]
  exact List.getElem_mem _
/-! the walk -/
abbrev k58S (ns : List Int) (b : List PyData) (s2 s3 s4 s5 s6 s7 s8 s9 s10 : Sl) : Gm := [.pin (.scr ns), .v (.lst b), s2, s3, s4, s5, s6, s7, s8, s9, s10, .no]
theorem k58_row {ns : List Int} {b : List PyData} (hb : BagOk b) {R : List PyData} (hR : R.length ≤ 1000) {s3 : Sl} : ∃ (b' : List PyData) (d s w : Int) (s10 : Sl), BagOk b' ∧ FcOk (.born 1 1 d s w) ∧ d + s ≤ 359 ∧ b_law_1 (k58S ns b (.v (.lst R)) s3 .no .no .no .no .no .no .no) = .nx (k58S ns b' (.v (.lst (R ++ [fcD (.born 1 1 d s w)]))) s3 .no .no .no .no .no .no s10) := by
  obtain ⟨t, b3, hb3, t1, t2, e3⟩ := pull_ok hb (n := 2) (by decide) (by decide)
  obtain ⟨c, ec, c1, c2⟩ := pickI (l := [.int 4, .int 1001]) (lo := 4) (hi := 1001) rfl t1 t2
  obtain ⟨w, b4, hb4, w1, w2, e4⟩ := pull_ok hb3 (n := c) (by omega) (sm_lit (by omega) (by omega)).log
  obtain ⟨d, b5, hb5, d1, d2, e5⟩ := pull_ok hb4 (n := 300) (by decide) (by decide)
  obtain ⟨s, b6, hb6, s1, s2, e6⟩ := pull_ok hb5 (n := 60) (by decide) (by decide)
  have hz : R.length < 1000000 := by omega
  refine ⟨b6, d, 1 + s, w, .v (.dat (.int w)), hb6, ⟨⟨by decide, by decide⟩, ⟨by decide, by decide⟩, ⟨by omega, by omega⟩, ⟨by omega, by omega⟩, by omega, ⟨w1, by omega⟩⟩, by omega, ?_⟩
  simp! [b_law_1, e3, ec, e4, e5, e6, hz, fcD]
theorem k58_facts {ns : List Int} {b : List PyData} {rows : List Fc} (hz : rows.length ≤ 1000) : cmpM [11] (gN 11) tYesM e_law_2 (rng 0 rows.length) [] (k58S ns b (.v (.dat (.list (rows.map fcD)))) .no .no .no .no .no .no .no .no) = .ok ((numL rows).map nfD) (k58S ns b (.v (.dat (.list (rows.map fcD)))) .no .no .no .no .no .no .no .no) := by
  have c := cmp_fold (β := Unit) (is := [11]) (tg := gN 11) (mt := tYesM) (me := e_law_2) (enc := fun i : Nat => PyData.int (0 + (i : Int))) (out := fun i => some (nfD ((i : Int) + 1, rows.getD i (.claim 0 0)))) (g := k58S ns b (.v (.dat (.list (rows.map fcD)))) .no .no .no .no .no .no .no .no) (List.range rows.length) [] (by simp [zl]; omega) (fun i hi => by
    have hi := List.mem_range.mp hi
    have ag := at_get rows fcD (.claim 0 0) hi
    generalize rows.getD i (.claim 0 0) = x at *
    generalize rows.map fcD = RR at *
    have e0 : 0 + (i : Int) = (i : Int) := by omega
    exact ⟨[.pin (.scr ns), .v (.lst b), .v (.dat (.list RR)), .no, .no, .no, .no, .no, .no, .no, .no, .v (.dat (.int (i : Int)))], by rw [e0]; rfl, .inl ⟨_, _, _, rfl, rfl, by simp! [e_law_2, ag]; rfl, rfl⟩⟩)
  rw [List.nil_append, List.filterMap_eq_map'] at c
  have em : (List.range rows.length).map (fun i : Nat => nfD ((i : Int) + 1, rows.getD i (.claim 0 0))) = (numL rows).map nfD := by
    apply List.ext_getElem
    · simp [numL_len]
    · intro i h1 h2
      have hi : i < rows.length := by simpa using h1
      have := numL_get _ hi
      rw [List.getElem?_eq_getElem (by rw [numL_len]; exact hi)] at this
      simp only [Option.some.injEq] at this
      rw [List.getElem_map, List.getElem_map, this, List.getElem_range, List.getD_eq_getElem?_getD, List.getElem?_eq_getElem hi]
      rfl
  rw [em] at c
  exact c
theorem law_true (ns : List Int) (_ : ns.length ≤ 63) : ∃ os, m_law [.scr ns] = .ok (.dat (.bool true)) os := by
  obtain ⟨b, hb, e⟩ := bag_ok ns
  obtain ⟨a, b1, hb1, a1, a2, e1⟩ := pull_ok hb (n := 10) (by decide) (by decide)
  obtain ⟨u, b2, hb2, u1, u2, e2⟩ := pull_ok hb1 (n := 4) (by decide) (by decide)
  obtain ⟨c, ec, c1, c2⟩ := pickI (l := [.int 9, .int 19, .int 29, .int 39]) (lo := 9) (hi := 39) rfl u1 u2
  obtain ⟨g1, f1, b3, B, hb3, lB, hB, rfl⟩ := rng_inv (is := [3, 10]) (tg := gN 3) (mb := b_law_1) (lo := 0) (P := fun i g => ∃ (b : List PyData) (B : List Fc), BagOk b ∧ B.length = i ∧ (∀ x ∈ B, FcOk x ∧ ∃ d s w, x = .born 1 1 d s w ∧ d + s ≤ 359) ∧ g = k58S ns b (.v (.lst ((Fc.lies 1 1 0 :: .held 1 1 0 :: .custom 1 1 0 (.kind a) :: B).map fcD))) .no .no .no .no .no .no .no .no) c.toNat (k58S ns b2 (.v (.lst ((Fc.lies 1 1 0 :: .held 1 1 0 :: .custom 1 1 0 (.kind a) :: []).map fcD))) .no .no .no .no .no .no .no .no) (fun i hi g hP => by
    obtain ⟨b, B, hb, lB, hB, rfl⟩ := hP
    obtain ⟨b', d, s, w, s10, hb', ox, d4, t⟩ := k58_row (ns := ns) hb (R := (Fc.lies 1 1 0 :: .held 1 1 0 :: .custom 1 1 0 (.kind a) :: B).map fcD) (by rw [List.length_map]; simp only [List.length_cons]; omega) (s3 := .v (.dat (.int (0 + (i : Int)))))
    refine ⟨_, rfl, _, .inl t, b', B ++ [.born 1 1 d s w], hb', by simp [lB], fun y hy => ?_, ?_⟩
    · rcases List.mem_append.mp hy with hy | hy
      · exact hB y hy
      · have : y = .born 1 1 d s w := by simpa using hy
        subst this
        exact ⟨ox, _, _, _, rfl, d4⟩
    · have : (Fc.lies 1 1 0 :: .held 1 1 0 :: .custom 1 1 0 (.kind a) :: (B ++ [.born 1 1 d s w])).map fcD = (Fc.lies 1 1 0 :: .held 1 1 0 :: .custom 1 1 0 (.kind a) :: B).map fcD ++ [fcD (.born 1 1 d s w)] := by simp
      rw [this]
      rfl) ⟨b2, [], hb2, rfl, (fun x hx => by cases hx), rfl⟩
  obtain ⟨v, b4, hb4, v1, v2, e4⟩ := pull_ok hb3 (n := 900) (by decide) (by decide)
  have F := flat_rows (a := a) B (fun x hx => ⟨(hB x hx).1, by obtain ⟨_, d, s, w, e, _⟩ := hB x hx; exact ⟨d, s, w, e⟩⟩) ⟨a1, by omega⟩
  have oz : FcOk (.born 1 1 (400 + v) 1 1000) := ⟨⟨by decide, by decide⟩, ⟨by decide, by decide⟩, ⟨by omega, by omega⟩, ⟨by decide, by decide⟩, by omega, ⟨by decide, by decide⟩⟩
  have F' := flat_rows (a := a) (B ++ [.born 1 1 (400 + v) 1 1000]) (fun x hx => by
    rcases List.mem_append.mp hx with hx | hx
    · obtain ⟨o, d, s, w, e, _⟩ := hB x hx
      exact ⟨o, d, s, w, e⟩
    · have : x = .born 1 1 (400 + v) 1 1000 := by simpa using hx
      subst this
      exact ⟨oz, _, _, _, rfl⟩) ⟨a1, by omega⟩
  have cf := k58_facts (ns := ns) (b := b3) (rows := Fc.lies 1 1 0 :: .held 1 1 0 :: .custom 1 1 0 (.kind a) :: B) (by simp only [List.length_cons]; omega)
  have lr : (Fc.lies 1 1 0 :: .held 1 1 0 :: .custom 1 1 0 (.kind a) :: B).length = B.length + 3 := by simp
  have nb := bps_num (a := a) (B := B) fun x hx => by obtain ⟨_, d, s, w, e, _⟩ := hB x hx; exact ⟨d, s, w, e⟩
  obtain ⟨N, hN⟩ : ∃ N : Int, N = (((B.length + 4 : Nat)) : Int) := ⟨_, rfl⟩
  have eL : numL (.lies 1 1 0 :: .held 1 1 0 :: .custom 1 1 0 (.kind a) :: (B ++ [.born 1 1 (400 + v) 1 1000])) = numL (.lies 1 1 0 :: .held 1 1 0 :: .custom 1 1 0 (.kind a) :: B) ++ [(N, .born 1 1 (400 + v) 1 1000)] := by
    unfold numL
    have : (Fc.lies 1 1 0 :: .held 1 1 0 :: .custom 1 1 0 (.kind a) :: (B ++ [.born 1 1 (400 + v) 1 1000])) = (Fc.lies 1 1 0 :: .held 1 1 0 :: .custom 1 1 0 (.kind a) :: B) ++ [.born 1 1 (400 + v) 1 1000] := rfl
    rw [this, List.zipIdx_append, List.map_append, lr]
    have e0 : ((0 + (B.length + 3) : Nat) : Int) + 1 = N := by omega
    simp only [List.zipIdx_cons, List.zipIdx_nil, List.map_cons, List.map_nil, e0]
  have ln := numL_len (Fc.lies 1 1 0 :: .held 1 1 0 :: .custom 1 1 0 (.kind a) :: B)
  rw [lr] at ln
  have bl : ∀ x ∈ bps (numL (.lies 1 1 0 :: .held 1 1 0 :: .custom 1 1 0 (.kind a) :: B)), x.1 < 400 + v + 1 := fun x hx => by
    unfold bps at hx
    obtain ⟨y, hy, ey⟩ := List.mem_filterMap.mp hx
    obtain ⟨i, hi, rfl⟩ := numL_mem hy
    have hm := List.getElem_mem hi
    generalize (Fc.lies 1 1 0 :: .held 1 1 0 :: .custom 1 1 0 (.kind a) :: B)[i] = q at *
    simp only [List.mem_cons] at hm
    rcases hm with rfl | rfl | rfl | hm
    · cases ey
    · cases ey
    · cases ey
    · obtain ⟨_, d, s, w, rfl, hd⟩ := hB _ hm
      simp only [Option.some.injEq] at ey
      rw [← ey]
      show d + s < _
      omega
  rw [eL] at F'
  generalize numL (.lies 1 1 0 :: .held 1 1 0 :: .custom 1 1 0 (.kind a) :: B) = l at *
  have pn := flat_pen F
  have pn' := flat_pen F'
  have eb : bps (l ++ [(N, Fc.born 1 1 (400 + v) 1 1000)]) = bps l ++ [(400 + v + 1, N)] := by
    unfold bps
    rw [List.filterMap_append]
    rfl
  rw [eb, sortP_snoc bl, ← pn] at pn'
  have z2 := flat_none F' (hh := 2) (k := 1) (.inl (by decide))
  have z1 := flat_none F' (hh := 1) (k := 2) (.inr (by decide))
  have lz : l.length ≤ 42 := by omega
  have lz' : (l ++ [(N, Fc.born 1 1 (400 + v) 1 1000)]).length ≤ 43 := by rw [List.length_append]; simp; omega
  obtain ⟨p1, lp⟩ := pen_ok F.good (by omega) (p := 1) (k := 1) (d := 3999) (by decide) (by decide) (by decide) (h := 1) ⟨by decide, by decide⟩
  have k1 := picked_beasts_ok F.good (by omega) (p := 1) (k := 1) (d := 3999) (by decide) (by decide) (by decide) (h := 1) ⟨by decide, by decide⟩
  have hr := pen_has F.good (h := 1) (p := 1) (k := 1) (d := 3999)
  have hr' := pen_has F'.good (h := 1) (p := 1) (k := 1) (d := 3999)
  obtain ⟨p2, lp2⟩ := pen_ok F'.good (by omega) (p := 1) (k := 1) (d := 3999) (by decide) (by decide) (by decide) (h := 1) ⟨by decide, by decide⟩
  have k2 := picked_beasts_ok F'.good (by omega) (p := 1) (k := 1) (d := 3999) (by decide) (by decide) (by decide) (h := 1) ⟨by decide, by decide⟩
  obtain ⟨p3, _⟩ := pen_ok F'.good (by omega) (p := 1) (k := 1) (d := 3999) (by decide) (by decide) (by decide) (h := 2) ⟨by decide, by decide⟩
  have k3 := picked_beasts_ok F'.good (by omega) (p := 1) (k := 2) (d := 3999) (by decide) (by decide) (by decide) (h := 1) ⟨by decide, by decide⟩
  rw [z2] at p3
  rw [z1] at k3
  have k30 : pkF (l ++ [(N, Fc.born 1 1 (400 + v) 1 1000)]) 1 2 [] = [] := rfl
  rw [k30] at k3
  rw [pn'] at p2 k2 hr' lp2
  have rn : (penF l 1 1 1 3999).map (·.2) = (penF l 1 1 1 3999).map (·.2) := rfl
  have rp : ((penF l 1 1 1 3999).map (·.2)).Perm ((List.range B.length).map fun i : Nat => (4 : Int) + i) := by
    rw [pn, ← nb]
    exact (sortP_perm _).map _
  have rl : (penF l 1 1 1 3999).length = B.length := by
    have := rp.length_eq
    simpa using this
  have pa := pk_app F F' _ rfl hr (400 + v + 1, N)
  have pm := fun i hi => pk_mem F'.good hr' (i := i) hi
  generalize penF l 1 1 1 3999 = row at *
  have so : fSorted [.list (row.map fun x => PyData.int x.2)] = some (.lst (rng 4 B.length)) := by
    have e1 : (row.map fun x => PyData.int x.2) = (row.map (·.2)).map PyData.int := by rw [List.map_map]; rfl
    have e2 : rng 4 B.length = ((List.range B.length).map fun i : Nat => (4 : Int) + i).map PyData.int := by
      unfold rng
      rw [List.map_map]
      rfl
    rw [e1, fSorted_l _ (sortOk_ints _), sortD_i rp.symm (rng_up 4 B.length), e2]
  have gr : Gd 1 (.list (rng 4 B.length)) := by
    have := gd_ints0 ((List.range B.length).map fun i : Nat => (4 : Int) + i) (by rw [List.length_map, List.length_range]; unfold gz; omega)
    rw [List.map_map] at this
    exact this
  have ne1 := fNe_refl gr (by decide)
  have eRow : ((row ++ [(400 + v + 1, N)]).map fun x => PyData.int x.2) = (row.map fun x => PyData.int x.2) ++ [.int N] := by simp
  have gb : Gd 1 (.list ((row.map fun x => PyData.int x.2) ++ [.int N])) := by
    rw [← eRow]
    have := gd_ints0 ((row ++ [(400 + v + 1, N)]).map (·.2)) (by rw [List.length_map]; unfold gz; omega)
    rw [List.map_map] at this
    exact this
  have ne2 := fNe_refl gb (by decide)
  have gp : Gd 1 (.list ((pkF l 1 1 row).map PyData.int)) := gd_ints0 _ (by unfold pkF; rw [List.length_map, List.length_range]; unfold gz; omega)
  have ne3 := fNe_refl gp (by decide)
  have hP : ((pkF l 1 1 row).map PyData.int).length = B.length / 10 := by simp [pkF, rl]
  have hL : ((pkF (l ++ [(N, Fc.born 1 1 (400 + v) 1 1000)]) 1 1 (row ++ [(400 + v + 1, N)])).map PyData.int).length = (B.length + 1) / 10 := by simp [pkF, rl]
  have ct : cutD ((pkF (l ++ [(N, Fc.born 1 1 (400 + v) 1 1000)]) 1 1 (row ++ [(400 + v + 1, N)])).map PyData.int) none (some ((B.length / 10 : Nat) : Int)) = (pkF l 1 1 row).map PyData.int := by
    rw [cut_to, ← List.map_take, ← pa, rl]
  rw [eRow] at p2
  have tens : ∀ i : Nat, i < (B.length + 1) / 10 → atI ((pkF (l ++ [(N, Fc.born 1 1 (400 + v) 1 1000)]) 1 1 (row ++ [(400 + v + 1, N)])).map PyData.int) (i : Int) = some (.int (pk1 (l ++ [(N, Fc.born 1 1 (400 + v) 1 1000)]) 1 1 (((row ++ [(400 + v + 1, N)]).drop (10 * i)).take 10))) ∧ fNotInL (.int (pk1 (l ++ [(N, Fc.born 1 1 (400 + v) 1 1000)]) 1 1 (((row ++ [(400 + v + 1, N)]).drop (10 * i)).take 10))) (.list (cutD ((row.map fun x => PyData.int x.2) ++ [.int N]) (some ((10 * i : Nat) : Int)) (some ((10 * i + 10 : Nat) : Int)))) = some (.dat (.bool false)) := fun i hi => by
    have lr' : (row ++ [(400 + v + 1, N)]).length = B.length + 1 := by simp [rl]
    refine ⟨?_, ?_⟩
    · rw [atI_nat, List.getElem?_map]
      unfold pkF
      rw [List.getElem?_map, List.getElem?_range (by rw [lr']; exact hi)]
      rfl
    · have hm := pm i (by rw [lr']; exact hi)
      rw [← eRow, cut_nat _ _ _ (by rw [List.length_map]; omega) (by rw [List.length_map]; omega) (by omega), ← List.map_drop, ← List.map_take, show 10 * i + 10 - 10 * i = 10 by omega]
      have hT10 : (((row ++ [(400 + v + 1, N)]).drop (10 * i)).take 10).length ≤ 10 := List.length_take_le _ _
      generalize ((row ++ [(400 + v + 1, N)]).drop (10 * i)).take 10 = T at *
      have e3 : (T.map fun x => PyData.int x.2) = (T.map (·.2)).map PyData.int := by rw [List.map_map]; rfl
      have lT : T.length ≤ 10 := hT10
      rw [e3, notInL_int _ _ (by rw [List.length_map]; unfold gz; omega), decide_eq_true hm]
      rfl
  generalize (pkF (l ++ [(N, Fc.born 1 1 (400 + v) 1 1000)]) 1 1 (row ++ [(400 + v + 1, N)])).map PyData.int = LL at *
  have m1 : ∀ i : Nat, mulOk 10 (i : Int) = true := fun i => mul_small' (by decide) (by decide)
  have ll' : ((l ++ [(N, Fc.born 1 1 (400 + v) 1 1000)]).map nfD).length = B.length + 4 := by rw [List.length_map, List.length_append, ln]; rfl
  have ll : (l.map nfD).length = B.length + 3 := by rw [List.length_map, ln]
  have em : (l ++ [(N, Fc.born 1 1 (400 + v) 1 1000)]).map nfD = l.map nfD ++ [.tuple [.int N, .tuple [.str "born", .int 1, .int 1, .int (400 + v), .int 1, .int 1000]]] := by simp [nfD, fcD]
  obtain ⟨g2, f2, rfl⟩ := rng_inv (is := [9]) (tg := gN 9) (mb := b_law_3) (lo := 0) (P := fun i g => g = k58S ns b4 (.v (.dat (.list ((Fc.lies 1 1 0 :: .held 1 1 0 :: .custom 1 1 0 (.kind a) :: B).map fcD)))) .no (.v (.dat (.list ((l ++ [(N, Fc.born 1 1 (400 + v) 1 1000)]).map nfD)))) (.v (.dat (.list (row.map fun x => PyData.int x.2)))) (.v (.dat (.list ((pkF l 1 1 row).map PyData.int)))) (.v (.dat (.list ((row.map fun x => PyData.int x.2) ++ [.int N])))) (.v (.dat (.list LL))) .no .no) ((B.length + 1) / 10) (k58S ns b4 (.v (.dat (.list ((Fc.lies 1 1 0 :: .held 1 1 0 :: .custom 1 1 0 (.kind a) :: B).map fcD)))) .no (.v (.dat (.list ((l ++ [(N, Fc.born 1 1 (400 + v) 1 1000)]).map nfD)))) (.v (.dat (.list (row.map fun x => PyData.int x.2)))) (.v (.dat (.list ((pkF l 1 1 row).map PyData.int)))) (.v (.dat (.list ((row.map fun x => PyData.int x.2) ++ [.int N])))) (.v (.dat (.list LL))) .no .no) (fun i hi g hP => by
    subst hP
    obtain ⟨t1, t2⟩ := tens i hi
    have q1 : 10 * (i : Int) = ((10 * i : Nat) : Int) := by omega
    have q2 : ((10 * i : Nat) : Int) + 10 = ((10 * i + 10 : Nat) : Int) := by omega
    have mm := m1 i
    clear tens
    generalize ((row.map fun x => PyData.int x.2) ++ [.int N]) = A2 at *
    generalize (row.map fun x => PyData.int x.2) = A1 at *
    generalize (pkF l 1 1 row).map PyData.int = P1 at *
    generalize (l ++ [(N, Fc.born 1 1 (400 + v) 1 1000)]).map nfD = L2 at *
    generalize (Fc.lies 1 1 0 :: .held 1 1 0 :: .custom 1 1 0 (.kind a) :: B).map fcD = R1 at *
    refine ⟨k58S ns b4 (.v (.dat (.list R1))) .no (.v (.dat (.list L2))) (.v (.dat (.list A1))) (.v (.dat (.list P1))) (.v (.dat (.list A2))) (.v (.dat (.list LL))) (.v (.dat (.int (i : Int)))) .no, by rw [Int.zero_add]; rfl, ?_⟩
    exact ⟨_, .inl (by simp! [b_law_3, t1, mm, q1, q2, t2]; rfl), rfl⟩) rfl
  clear tens pm
  have lA : (row.map fun x => PyData.int x.2).length = B.length := by rw [List.length_map, rl]
  have l10 : (10 : Int).natAbs.log2 < 9000 := by decide
  have p10 : (0 : Int) < 10 := by decide
  have lR : ((Fc.lies 1 1 0 :: .held 1 1 0 :: .custom 1 1 0 (.kind a) :: B).map fcD).length = B.length + 3 := by rw [List.length_map, lr]
  rw [lr] at cf
  have f0 : ((Fc.lies 1 1 0 :: .held 1 1 0 :: .custom 1 1 0 (.kind a) :: []).map fcD) = [.tuple [.str "lies", .int 1, .int 1, .int 0], .tuple [.str "held", .int 1, .int 1, .int 0], .tuple [.str "custom", .int 1, .int 1, .int 0, .tuple [.str "kind", .int a]]] := rfl
  rw [f0] at f1
  generalize (row.map fun x => PyData.int x.2) = A1 at *
  generalize (pkF l 1 1 row).map PyData.int = P1 at *
  generalize hl2 : (l ++ [(N, Fc.born 1 1 (400 + v) 1 1000)]).map nfD = L2 at *
  generalize hl1 : l.map nfD = L1 at *
  generalize (Fc.lies 1 1 0 :: .held 1 1 0 :: .custom 1 1 0 (.kind a) :: B).map fcD = R1 at *
  simp only [fsD, hl1, hl2, k58S, List.map_nil] at *
  have n3 : ((B.length + 3 : Nat) : Int) + 1 = N := by omega
  have nz : B.length + 3 < 1000000 := by omega
  have az : A1.length + 1 ≤ 1000000 := by omega
  have c4 : (4 : Int) ≤ N ∧ N ≤ gz := by unfold gz; omega
  have e4' : (N - 4).toNat = B.length := by omega
  have q1 : ((B.length + 1 : Nat) : Int) / 10 = (((B.length + 1) / 10 : Nat) : Int) := by omega
  have q2 : ((B.length : Nat) : Int) / 10 = ((B.length / 10 : Nat) : Int) := by omega
  have gE : fEq (.list []) (.list []) = some (.dat (.bool true)) := fEq_refl (n := 1) (gd_lst (by simp [gz]) fun d hd => by cases hd) (by decide)
  refine ⟨[.scr ns], ?_⟩
  simp! [m_law, e, e1, e2, ec, forRA_1 (show 0 ≤ c by omega) (show c ≤ gz by unfold gz; omega), f1]
  simp! [r_law_8, lR, compRA_n (show B.length + 3 ≤ gz by unfold gz; omega), cf]
  simp! [r_law_7, lApp, p1, k1, ll, n3, e4, nz, ← em]
  simp! [r_law_6, lApp, p2, k2, so, ll', ← hN, c4, e4', ne1, az, ne2]
  simp! [r_law_5, hP, ct, ne3, hL, List.length_append, lA, p10, l10, q1, q2]
  simp! [r_law_4, hL, forRA_n (show (B.length + 1) / 10 ≤ gz by unfold gz; omega), f2, lApp, p3, k3, gE]

end VL
namespace VLD
open PySem PySem.Spec PyProof.Rows L2 VL
def top (i : Nat) : Stmt := PySem.Challenge.pw_tithebarn_k58_whole_pens_only_grow.main.body.getD i (.Pass ⟨0, 0, 0, 0⟩)
section
variable {P : Program} {w : World} {K : PySem.W.Frag} {mg : Str → Option Value} {base : Heap}
theorem sc_need_day : FnScope ["day"] ["day"] (defScope (top 15)) := ⟨rfl, rfl, rfl, by decide +kernel, rfl, by decide +kernel, by decide +kernel⟩
theorem ok_need_day (D : Df K mg "need_day" (top 15)) (k_LAST_DAY : Con K mg "LAST_DAY" c_LAST_DAY) (e_BadDay : EK K mg "BadDay") : FK P w K mg base 1 "need_day" ["day"] m_need_day := fk_mk D sc_need_day rfl rfl (fun _ _ _ _ _ _ us hl => match us, hl with | [_], _ => rfl) fun f cdv A outer s H E hr => by
  have hN := (sc_need_day).nd
  have tk : Takes (cxOf (L2.CX P w) P w K mg base ["day"] "need_day" (defScope (top 15)) f cdv A outer s H E) (fun cls d _ H' => E cls d H') := takes_of rfl rfl rfl rfl
  exact dss_one (ds_if (dt_not (dt_chain op_le op_le g_le g_le (DP.v dp_int) (DP.v (dp_var 0)) (DP.v (dp_con k_LAST_DAY)))) (dss_one (ds_raiseK e_BadDay tk)) dss_nil)

theorem sc_need_year : FnScope ["year"] ["year"] (defScope (top 16)) := ⟨rfl, rfl, rfl, by decide +kernel, rfl, by decide +kernel, by decide +kernel⟩
theorem ok_need_year (D : Df K mg "need_year" (top 16)) (k_LAST_YEAR : Con K mg "LAST_YEAR" c_LAST_YEAR) (e_BadYear : EK K mg "BadYear") : FK P w K mg base 1 "need_year" ["year"] m_need_year := fk_mk D sc_need_year rfl rfl (fun _ _ _ _ _ _ us hl => match us, hl with | [_], _ => rfl) fun f cdv A outer s H E hr => by
  have hN := (sc_need_year).nd
  have tk : Takes (cxOf (L2.CX P w) P w K mg base ["year"] "need_year" (defScope (top 16)) f cdv A outer s H E) (fun cls d _ H' => E cls d H') := takes_of rfl rfl rfl rfl
  exact dss_one (ds_if (dt_not (dt_chain op_le op_le g_le g_le (DP.v dp_int) (DP.v (dp_var 0)) (DP.v (dp_con k_LAST_YEAR)))) (dss_one (ds_raiseK e_BadYear tk)) dss_nil)

theorem sc_year_of : FnScope ["day"] ["day"] (defScope (top 17)) := ⟨rfl, rfl, rfl, by decide +kernel, rfl, by decide +kernel, by decide +kernel⟩
theorem ok_year_of (D : Df K mg "year_of" (top 17)) (c_need_day : FK P w K mg base 1 "need_day" ["day"] m_need_day) (k_YEAR_DAYS : Con K mg "YEAR_DAYS" c_YEAR_DAYS) : FK P w K mg base 2 "year_of" ["day"] m_year_of := fk_mk D sc_year_of rfl rfl (fun _ _ _ _ _ _ us hl => match us, hl with | [_], _ => rfl) fun f cdv A outer s H E hr => by
  have hN := (sc_year_of).nd
  have tk : Takes (cxOf (L2.CX P w) P w K mg base ["day"] "year_of" (defScope (top 17)) f cdv A outer s H E) (fun cls d _ H' => E cls d H') := takes_of rfl rfl rfl rfl
  exact dss_cons (ds_expr (do_fk c_need_day hr (by decide) tk (dl_d (DP.v (dp_var 0)) dl_nil))) (dss_one (ds_ret (DR.o (dr_bin op_fdivW g_fdiv (DP.w (dp_var 0)) (DP.w (dp_con k_YEAR_DAYS))))))

theorem sc_in_force : FnScope ["rows", "when", "best", "number", "start", "value"] ["rows", "when"] (defScope (top 18)) := ⟨rfl, rfl, rfl, by decide +kernel, rfl, by decide +kernel, by decide +kernel⟩
theorem ok_in_force (D : Df K mg "in_force" (top 18))  : FK P w K mg base 1 "in_force" ["rows", "when"] m_in_force := fk_mk D sc_in_force rfl rfl (fun _ _ _ _ _ _ us hl => match us, hl with | [_, _], _ => rfl) fun f cdv A outer s H E hr => by
  have hN := (sc_in_force).nd
  have hp : PassesOwn (model P w) (cxOf (L2.CX P w) P w K mg base ["rows", "when", "best", "number", "start", "value"] "in_force" (defScope (top 18)) f cdv A outer s H E).A (cxOf (L2.CX P w) P w K mg base ["rows", "when", "best", "number", "start", "value"] "in_force" (defScope (top 18)) f cdv A outer s H E).env (cxOf (L2.CX P w) P w K mg base ["rows", "when", "best", "number", "start", "value"] "in_force" (defScope (top 18)) f cdv A outer s H E).xe := passes_of rfl
  exact dss_cons (ds_set (i := 2) hN (DV.o (DP.v dp_non))) (dss_cons (ds_forL [3, 4, 5] hp (DP.v (dp_var 0)) (dg_tup (dgs_cons (dg_name 3 hN) (dgs_cons (dg_name 4 hN) (dgs_cons (dg_name 5 hN) dgs_nil)))) (dss_one (ds_if (DQ.t (dq_and (dt_cmpW op_le g_le (DP.w (dp_var 4)) (DP.w (dp_var 1))) (dq_and1 (DQ.t (dq_or (dt_cmpW op_isN g_isN (DP.w (dp_var 2)) (DP.w dp_non)) (dq_or1 (dt_cmp (op_gtG hr.units0) g_gt (DO.v (do_tup (da_cons (DP.v (dp_var 4)) (da_cons (DP.v (dp_var 3)) da_nil)))) (DO.v (do_sl (DP.v (dp_var 2)) dn_none (dn_some (DP.v dp_int))))))))))) (dss_one (ds_set (i := 2) hN (DV.o (DO.v (do_tup (da_cons (DP.v (dp_var 4)) (da_cons (DP.v (dp_var 3)) (da_cons (DP.v (dp_var 5)) da_nil)))))))) dss_nil))) (dss_cons (ds_if (dt_cmpW op_isN g_isN (DP.w (dp_var 2)) (DP.w dp_non)) (dss_one (ds_ret (DV.o (DP.v dp_non)))) dss_nil) (dss_one (ds_ret (DR.o (dr_ix (DP.w (dp_var 2)) (DP.w dp_int)))))))

theorem sc_need_field : FnScope ["field"] ["field"] (defScope (top 22)) := ⟨rfl, rfl, rfl, by decide +kernel, rfl, by decide +kernel, by decide +kernel⟩
theorem ok_need_field (D : Df K mg "need_field" (top 22)) (k_FIELDS : Con K mg "FIELDS" c_FIELDS) (e_BadField : EK K mg "BadField") : FK P w K mg base 1 "need_field" ["field"] m_need_field := fk_mk D sc_need_field rfl rfl (fun _ _ _ _ _ _ us hl => match us, hl with | [_], _ => rfl) fun f cdv A outer s H E hr => by
  have hN := (sc_need_field).nd
  have tk : Takes (cxOf (L2.CX P w) P w K mg base ["field"] "need_field" (defScope (top 22)) f cdv A outer s H E) (fun cls d _ H' => E cls d H') := takes_of rfl rfl rfl rfl
  exact dss_one (ds_if (dt_not (dt_chain op_le op_le g_le g_le (DP.v dp_int) (DP.v (dp_var 0)) (DP.v (dp_con k_FIELDS)))) (dss_one (ds_raiseK e_BadField tk)) dss_nil)

theorem sc_need_holder : FnScope ["holder"] ["holder"] (defScope (top 23)) := ⟨rfl, rfl, rfl, by decide +kernel, rfl, by decide +kernel, by decide +kernel⟩
theorem ok_need_holder (D : Df K mg "need_holder" (top 23)) (k_HOLDERS : Con K mg "HOLDERS" c_HOLDERS) (e_BadHolder : EK K mg "BadHolder") : FK P w K mg base 1 "need_holder" ["holder"] m_need_holder := fk_mk D sc_need_holder rfl rfl (fun _ _ _ _ _ _ us hl => match us, hl with | [_], _ => rfl) fun f cdv A outer s H E hr => by
  have hN := (sc_need_holder).nd
  have tk : Takes (cxOf (L2.CX P w) P w K mg base ["holder"] "need_holder" (defScope (top 23)) f cdv A outer s H E) (fun cls d _ H' => E cls d H') := takes_of rfl rfl rfl rfl
  exact dss_one (ds_if (dt_not (dt_chain op_le op_le g_le g_le (DP.v dp_int) (DP.v (dp_var 0)) (DP.v (dp_con k_HOLDERS)))) (dss_one (ds_raiseK e_BadHolder tk)) dss_nil)

theorem sc_rows_of : FnScope ["facts", "word", "field", "number", "fact"] ["facts", "word", "field"] (defScope (top 24)) := ⟨rfl, rfl, rfl, by decide +kernel, rfl, by decide +kernel, by decide +kernel⟩
theorem ok_rows_of (D : Df K mg "rows_of" (top 24))  : FK P w K mg base 1 "rows_of" ["facts", "word", "field"] m_rows_of := fk_mk D sc_rows_of rfl rfl (fun _ _ _ _ _ _ us hl => match us, hl with | [_, _, _], _ => rfl) fun f cdv A outer s H E hr => by
  have hN := (sc_rows_of).nd
  exact dss_one (ds_ret (DC.o (dc_compL [("number", 3), ("fact", 4)] hN (DP.v (dp_var 0)) (blkOk_by (N := ["facts", "word", "field", "number", "fact"]) (sc := defScope (top 24)) (by decide +kernel)) (fun _ _ _ _ _ => dg_tup (dgs_cons (dg_name 3 hN) (dgs_cons (dg_name 4 hN) dgs_nil))) (fun _ _ _ _ _ => dts_one (DQ.t (dq_and (dt_cmpW (op_eqD hr.units) g_eq (DP.w (DR.p (dr_ix (DP.w (dp_var 4)) (DP.w dp_int)))) (DP.w (dp_var 1))) (dq_and1 (dt_cmpW (op_eqD hr.units) g_eq (DP.w (DR.p (dr_ix (DP.w (dp_var 4)) (DP.w dp_int)))) (DP.w (dp_var 2))))))) (fun _ _ _ _ _ => DO.v (do_tup (da_cons (DP.v (dp_var 3)) (da_cons (DP.v (DR.p (dr_ix (DP.w (dp_var 4)) (DP.w dp_int)))) (da_cons (DP.v (DR.p (dr_ix (DP.w (dp_var 4)) (DP.w dp_int)))) da_nil))))))))

theorem sc_parish_on : FnScope ["facts", "field", "day"] ["facts", "field", "day"] (defScope (top 25)) := ⟨rfl, rfl, rfl, by decide +kernel, rfl, by decide +kernel, by decide +kernel⟩
theorem ok_parish_on (D : Df K mg "parish_on" (top 25)) (c_need_field : FK P w K mg base 1 "need_field" ["field"] m_need_field) (c_need_day : FK P w K mg base 1 "need_day" ["day"] m_need_day) (c_rows_of : FK P w K mg base 1 "rows_of" ["facts", "word", "field"] m_rows_of) (c_in_force : FK P w K mg base 1 "in_force" ["rows", "when"] m_in_force) : FK P w K mg base 2 "parish_on" ["facts", "field", "day"] m_parish_on := fk_mk D sc_parish_on rfl rfl (fun _ _ _ _ _ _ us hl => match us, hl with | [_, _, _], _ => rfl) fun f cdv A outer s H E hr => by
  have hN := (sc_parish_on).nd
  have tk : Takes (cxOf (L2.CX P w) P w K mg base ["facts", "field", "day"] "parish_on" (defScope (top 25)) f cdv A outer s H E) (fun cls d _ H' => E cls d H') := takes_of rfl rfl rfl rfl
  exact dss_cons (ds_expr (do_fk c_need_field hr (by decide) tk (dl_d (DP.v (dp_var 1)) dl_nil))) (dss_cons (ds_expr (do_fk c_need_day hr (by decide) tk (dl_d (DP.v (dp_var 2)) dl_nil))) (dss_one (ds_ret (do_fk c_in_force hr (by decide) tk (dl_d (DO.v (do_fk c_rows_of hr (by decide) tk (dl_d (DP.v (dp_var 0)) (dl_d (DP.v dp_str) (dl_d (DP.v (dp_var 1)) dl_nil))))) (dl_d (DP.v (dp_var 2)) dl_nil))))))

theorem sc_holder_on : FnScope ["facts", "field", "day", "found"] ["facts", "field", "day"] (defScope (top 26)) := ⟨rfl, rfl, rfl, by decide +kernel, rfl, by decide +kernel, by decide +kernel⟩
theorem ok_holder_on (D : Df K mg "holder_on" (top 26)) (c_need_field : FK P w K mg base 1 "need_field" ["field"] m_need_field) (c_need_day : FK P w K mg base 1 "need_day" ["day"] m_need_day) (c_rows_of : FK P w K mg base 1 "rows_of" ["facts", "word", "field"] m_rows_of) (c_in_force : FK P w K mg base 1 "in_force" ["rows", "when"] m_in_force) : FK P w K mg base 2 "holder_on" ["facts", "field", "day"] m_holder_on := fk_mk D sc_holder_on rfl rfl (fun _ _ _ _ _ _ us hl => match us, hl with | [_, _, _], _ => rfl) fun f cdv A outer s H E hr => by
  have hN := (sc_holder_on).nd
  have tk : Takes (cxOf (L2.CX P w) P w K mg base ["facts", "field", "day", "found"] "holder_on" (defScope (top 26)) f cdv A outer s H E) (fun cls d _ H' => E cls d H') := takes_of rfl rfl rfl rfl
  exact dss_cons (ds_expr (do_fk c_need_field hr (by decide) tk (dl_d (DP.v (dp_var 1)) dl_nil))) (dss_cons (ds_expr (do_fk c_need_day hr (by decide) tk (dl_d (DP.v (dp_var 2)) dl_nil))) (dss_cons (ds_set (i := 3) hN (DV.o (DO.v (do_fk c_in_force hr (by decide) tk (dl_d (DO.v (do_fk c_rows_of hr (by decide) tk (dl_d (DP.v (dp_var 0)) (dl_d (DP.v dp_str) (dl_d (DP.v (dp_var 1)) dl_nil))))) (dl_d (DP.v (dp_var 2)) dl_nil)))))) (dss_cons (ds_if (dt_cmpW (op_eqD hr.units) g_eq (DP.w (dp_var 3)) (DP.w dp_int)) (dss_one (ds_ret (DV.o (DP.v dp_non)))) dss_nil) (dss_one (ds_ret (DV.o (DP.v (dp_var 3))))))))

theorem sc_free_on : FnScope ["facts", "field", "day", "number", "fact"] ["facts", "field", "day"] (defScope (top 27)) := ⟨rfl, rfl, rfl, by decide +kernel, rfl, by decide +kernel, by decide +kernel⟩
theorem ok_free_on (D : Df K mg "free_on" (top 27)) (c_need_field : FK P w K mg base 1 "need_field" ["field"] m_need_field) (c_need_day : FK P w K mg base 1 "need_day" ["day"] m_need_day) : FK P w K mg base 2 "free_on" ["facts", "field", "day"] m_free_on := fk_mk D sc_free_on rfl rfl (fun _ _ _ _ _ _ us hl => match us, hl with | [_, _, _], _ => rfl) fun f cdv A outer s H E hr => by
  have hN := (sc_free_on).nd
  have tk : Takes (cxOf (L2.CX P w) P w K mg base ["facts", "field", "day", "number", "fact"] "free_on" (defScope (top 27)) f cdv A outer s H E) (fun cls d _ H' => E cls d H') := takes_of rfl rfl rfl rfl
  have hp : PassesOwn (model P w) (cxOf (L2.CX P w) P w K mg base ["facts", "field", "day", "number", "fact"] "free_on" (defScope (top 27)) f cdv A outer s H E).A (cxOf (L2.CX P w) P w K mg base ["facts", "field", "day", "number", "fact"] "free_on" (defScope (top 27)) f cdv A outer s H E).env (cxOf (L2.CX P w) P w K mg base ["facts", "field", "day", "number", "fact"] "free_on" (defScope (top 27)) f cdv A outer s H E).xe := passes_of rfl
  exact dss_cons (ds_expr (do_fk c_need_field hr (by decide) tk (dl_d (DP.v (dp_var 1)) dl_nil))) (dss_cons (ds_expr (do_fk c_need_day hr (by decide) tk (dl_d (DP.v (dp_var 2)) dl_nil))) (dss_cons (ds_forL [3, 4] hp (DP.v (dp_var 0)) (dg_tup (dgs_cons (dg_name 3 hN) (dgs_cons (dg_name 4 hN) dgs_nil))) (dss_one (ds_if (DQ.t (dq_and (dt_cmpW (op_eqD hr.units) g_eq (DP.w (DR.p (dr_ix (DP.w (dp_var 4)) (DP.w dp_int)))) (DP.w dp_str)) (dq_and (dt_cmpW (op_eqD hr.units) g_eq (DP.w (DR.p (dr_ix (DP.w (dp_var 4)) (DP.w dp_int)))) (DP.w (dp_var 1))) (dq_and1 (dt_chain op_le op_le g_le g_le (DP.v (DR.p (dr_ix (DP.w (dp_var 4)) (DP.w dp_int)))) (DP.v (dp_var 2)) (DP.v (DR.p (dr_ix (DP.w (dp_var 4)) (DP.w dp_int))))))))) (dss_one (ds_ret (DV.o (DP.v dp_bl)))) dss_nil))) (dss_one (ds_ret (DV.o (DP.v dp_bl))))))

theorem sc_line_on : FnScope ["facts", "field", "day", "holder", "parish"] ["facts", "field", "day"] (defScope (top 28)) := ⟨rfl, rfl, rfl, by decide +kernel, rfl, by decide +kernel, by decide +kernel⟩
theorem ok_line_on (D : Df K mg "line_on" (top 28)) (c_holder_on : FK P w K mg base 2 "holder_on" ["facts", "field", "day"] m_holder_on) (c_parish_on : FK P w K mg base 2 "parish_on" ["facts", "field", "day"] m_parish_on) (c_free_on : FK P w K mg base 2 "free_on" ["facts", "field", "day"] m_free_on) : FK P w K mg base 3 "line_on" ["facts", "field", "day"] m_line_on := fk_mk D sc_line_on rfl rfl (fun _ _ _ _ _ _ us hl => match us, hl with | [_, _, _], _ => rfl) fun f cdv A outer s H E hr => by
  have hN := (sc_line_on).nd
  have tk : Takes (cxOf (L2.CX P w) P w K mg base ["facts", "field", "day", "holder", "parish"] "line_on" (defScope (top 28)) f cdv A outer s H E) (fun cls d _ H' => E cls d H') := takes_of rfl rfl rfl rfl
  exact dss_cons (ds_set (i := 3) hN (DV.o (DO.v (do_fk c_holder_on hr (by decide) tk (dl_d (DP.v (dp_var 0)) (dl_d (DP.v (dp_var 1)) (dl_d (DP.v (dp_var 2)) dl_nil))))))) (dss_cons (ds_set (i := 4) hN (DV.o (DO.v (do_fk c_parish_on hr (by decide) tk (dl_d (DP.v (dp_var 0)) (dl_d (DP.v (dp_var 1)) (dl_d (DP.v (dp_var 2)) dl_nil))))))) (dss_cons (ds_if (DQ.t (dq_or (dt_cmpW op_isN g_isN (DP.w (dp_var 3)) (DP.w dp_non)) (dq_or (dt_cmpW op_isN g_isN (DP.w (dp_var 4)) (DP.w dp_non)) (dq_or1 (dt_val (DO.v (do_fk c_free_on hr (by decide) tk (dl_d (DP.v (dp_var 0)) (dl_d (DP.v (dp_var 1)) (dl_d (DP.v (dp_var 2)) dl_nil)))))))))) (dss_one (ds_ret (DV.o (DP.v dp_non)))) dss_nil) (dss_one (ds_ret (do_tupK (da_cons (DP.v (dp_var 3)) (da_cons (DP.v (dp_var 4)) da_nil)))))))

theorem sc_divisor : FnScope ["one", "other"] ["one", "other"] (defScope (top 31)) := ⟨rfl, rfl, rfl, by decide +kernel, rfl, by decide +kernel, by decide +kernel⟩
theorem ok_divisor (D : Df K mg "divisor" (top 31))  : FK P w K mg base 1 "divisor" ["one", "other"] m_divisor := fk_mk D sc_divisor rfl rfl (fun _ _ _ _ _ _ us hl => match us, hl with | [_, _], _ => rfl) fun f cdv A outer s H E hr => by
  have hN := (sc_divisor).nd
  have hp : PassesOwn (model P w) (cxOf (L2.CX P w) P w K mg base ["one", "other"] "divisor" (defScope (top 31)) f cdv A outer s H E).A (cxOf (L2.CX P w) P w K mg base ["one", "other"] "divisor" (defScope (top 31)) f cdv A outer s H E).env (cxOf (L2.CX P w) P w K mg base ["one", "other"] "divisor" (defScope (top 31)) f cdv A outer s H E).xe := passes_of rfl
  exact dss_cons (ds_while [] (fuN 0) hp (dt_cmpW (op_gtG hr.units0) g_gt (DP.w (dp_var 0)) (DP.w dp_int)) (dss_one (ds_par (i := 0) (j := 1) hN (DP.v (DR.p (dr_bin op_mod g_mod (DP.w (dp_var 1)) (DP.w (dp_var 0))))) (DP.v (dp_var 0)) (hp := fun _ h => ps_par rfl hN rfl rfl (by decide) rfl rfl h rfl)))) (dss_one (ds_ret (DV.o (DP.v (dp_var 1)))))

theorem sc_lowest : FnScope ["number", "under", "by"] ["number", "under"] (defScope (top 32)) := ⟨rfl, rfl, rfl, by decide +kernel, rfl, by decide +kernel, by decide +kernel⟩
theorem ok_lowest (D : Df K mg "lowest" (top 32)) (e_BadPart : EK K mg "BadPart") (c_divisor : FK P w K mg base 1 "divisor" ["one", "other"] m_divisor) : FK P w K mg base 2 "lowest" ["number", "under"] m_lowest := fk_mk D sc_lowest rfl rfl (fun _ _ _ _ _ _ us hl => match us, hl with | [_, _], _ => rfl) fun f cdv A outer s H E hr => by
  have hN := (sc_lowest).nd
  have tk : Takes (cxOf (L2.CX P w) P w K mg base ["number", "under", "by"] "lowest" (defScope (top 32)) f cdv A outer s H E) (fun cls d _ H' => E cls d H') := takes_of rfl rfl rfl rfl
  exact dss_cons (ds_if (DQ.t (dq_or (dt_cmpW op_lt g_lt (DP.w (dp_var 0)) (DP.w dp_int)) (dq_or1 (dt_cmpW op_lt g_lt (DP.w (dp_var 1)) (DP.w dp_int))))) (dss_one (ds_raiseK e_BadPart tk)) dss_nil) (dss_cons (ds_set (i := 2) hN (DV.o (DO.v (do_fk c_divisor hr (by decide) tk (dl_d (DP.v (dp_var 0)) (dl_d (DP.v (dp_var 1)) dl_nil)))))) (dss_one (ds_ret (do_tup (da_cons (DP.v (DR.p (dr_bin op_fdivW g_fdiv (DP.w (dp_var 0)) (DP.w (dp_var 2))))) (da_cons (DP.v (DR.p (dr_bin op_fdivW g_fdiv (DP.w (dp_var 1)) (DP.w (dp_var 2))))) da_nil))))))

theorem sc_plus : FnScope ["one", "other"] ["one", "other"] (defScope (top 33)) := ⟨rfl, rfl, rfl, by decide +kernel, rfl, by decide +kernel, by decide +kernel⟩
theorem ok_plus (D : Df K mg "plus" (top 33)) (c_lowest : FK P w K mg base 2 "lowest" ["number", "under"] m_lowest) : FK P w K mg base 3 "plus" ["one", "other"] m_plus := fk_mk D sc_plus rfl rfl (fun _ _ _ _ _ _ us hl => match us, hl with | [_, _], _ => rfl) fun f cdv A outer s H E hr => by
  have hN := (sc_plus).nd
  have tk : Takes (cxOf (L2.CX P w) P w K mg base ["one", "other"] "plus" (defScope (top 33)) f cdv A outer s H E) (fun cls d _ H' => E cls d H') := takes_of rfl rfl rfl rfl
  exact dss_one (ds_ret (do_fk c_lowest hr (by decide) tk (dl_d (DP.v (DR.p (dr_bin op_addG g_add (DP.w (DR.p (dr_bin op_mulG g_mul (DP.w (DR.p (dr_ix (DP.w (dp_var 0)) (DP.w dp_int)))) (DP.w (DR.p (dr_ix (DP.w (dp_var 1)) (DP.w dp_int))))))) (DP.w (DR.p (dr_bin op_mulG g_mul (DP.w (DR.p (dr_ix (DP.w (dp_var 1)) (DP.w dp_int)))) (DP.w (DR.p (dr_ix (DP.w (dp_var 0)) (DP.w dp_int)))))))))) (dl_d (DP.v (DR.p (dr_bin op_mulG g_mul (DP.w (DR.p (dr_ix (DP.w (dp_var 0)) (DP.w dp_int)))) (DP.w (DR.p (dr_ix (DP.w (dp_var 1)) (DP.w dp_int))))))) dl_nil))))

theorem sc_birth_of : FnScope ["facts", "beast", "number", "fact"] ["facts", "beast"] (defScope (top 35)) := ⟨rfl, rfl, rfl, by decide +kernel, rfl, by decide +kernel, by decide +kernel⟩
theorem ok_birth_of (D : Df K mg "birth_of" (top 35)) (e_NoBeast : EK K mg "NoBeast") : FK P w K mg base 1 "birth_of" ["facts", "beast"] m_birth_of := fk_mk D sc_birth_of rfl rfl (fun _ _ _ _ _ _ us hl => match us, hl with | [_, _], _ => rfl) fun f cdv A outer s H E hr => by
  have hN := (sc_birth_of).nd
  have tk : Takes (cxOf (L2.CX P w) P w K mg base ["facts", "beast", "number", "fact"] "birth_of" (defScope (top 35)) f cdv A outer s H E) (fun cls d _ H' => E cls d H') := takes_of rfl rfl rfl rfl
  have hp : PassesOwn (model P w) (cxOf (L2.CX P w) P w K mg base ["facts", "beast", "number", "fact"] "birth_of" (defScope (top 35)) f cdv A outer s H E).A (cxOf (L2.CX P w) P w K mg base ["facts", "beast", "number", "fact"] "birth_of" (defScope (top 35)) f cdv A outer s H E).env (cxOf (L2.CX P w) P w K mg base ["facts", "beast", "number", "fact"] "birth_of" (defScope (top 35)) f cdv A outer s H E).xe := passes_of rfl
  exact dss_cons (ds_forL [2, 3] hp (DP.v (dp_var 0)) (dg_tup (dgs_cons (dg_name 2 hN) (dgs_cons (dg_name 3 hN) dgs_nil))) (dss_one (ds_if (DQ.t (dq_and (dt_cmpW (op_eqD hr.units) g_eq (DP.w (dp_var 2)) (DP.w (dp_var 1))) (dq_and1 (dt_cmpW (op_eqD hr.units) g_eq (DP.w (DR.p (dr_ix (DP.w (dp_var 3)) (DP.w dp_int)))) (DP.w dp_str))))) (dss_one (ds_ret (DV.o (DP.v (dp_var 3))))) dss_nil))) (dss_one (ds_raiseK e_NoBeast tk))

theorem sc_field_on : FnScope ["facts", "beast", "day", "birth", "rows", "number", "fact"] ["facts", "beast", "day"] (defScope (top 36)) := ⟨rfl, rfl, rfl, by decide +kernel, rfl, by decide +kernel, by decide +kernel⟩
theorem ok_field_on (D : Df K mg "field_on" (top 36)) (c_birth_of : FK P w K mg base 1 "birth_of" ["facts", "beast"] m_birth_of) (c_need_day : FK P w K mg base 1 "need_day" ["day"] m_need_day) (c_in_force : FK P w K mg base 1 "in_force" ["rows", "when"] m_in_force) : FK P w K mg base 2 "field_on" ["facts", "beast", "day"] m_field_on := fk_mk D sc_field_on rfl rfl (fun _ _ _ _ _ _ us hl => match us, hl with | [_, _, _], _ => rfl) fun f cdv A outer s H E hr => by
  have hN := (sc_field_on).nd
  have tk : Takes (cxOf (L2.CX P w) P w K mg base ["facts", "beast", "day", "birth", "rows", "number", "fact"] "field_on" (defScope (top 36)) f cdv A outer s H E) (fun cls d _ H' => E cls d H') := takes_of rfl rfl rfl rfl
  have hp : PassesOwn (model P w) (cxOf (L2.CX P w) P w K mg base ["facts", "beast", "day", "birth", "rows", "number", "fact"] "field_on" (defScope (top 36)) f cdv A outer s H E).A (cxOf (L2.CX P w) P w K mg base ["facts", "beast", "day", "birth", "rows", "number", "fact"] "field_on" (defScope (top 36)) f cdv A outer s H E).env (cxOf (L2.CX P w) P w K mg base ["facts", "beast", "day", "birth", "rows", "number", "fact"] "field_on" (defScope (top 36)) f cdv A outer s H E).xe := passes_of rfl
  exact dss_cons (ds_set (i := 3) hN (DV.o (DO.v (do_fk c_birth_of hr (by decide) tk (dl_d (DP.v (dp_var 0)) (dl_d (DP.v (dp_var 1)) dl_nil)))))) (dss_cons (ds_expr (do_fk c_need_day hr (by decide) tk (dl_d (DP.v (dp_var 2)) dl_nil))) (dss_cons (ds_set (i := 4) hN (do_lst (da_cons (DO.v (do_tup (da_cons (DP.v dp_int) (da_cons (DP.v (DR.p (dr_ix (DP.w (dp_var 3)) (DP.w dp_int)))) (da_cons (DP.v (DR.p (dr_ix (DP.w (dp_var 3)) (DP.w dp_int)))) da_nil))))) da_nil))) (dss_cons (ds_forL [5, 6] hp (DP.v (dp_var 0)) (dg_tup (dgs_cons (dg_name 5 hN) (dgs_cons (dg_name 6 hN) dgs_nil))) (dss_one (ds_if (DQ.t (dq_and (dt_cmpW (op_eqD hr.units) g_eq (DP.w (DR.p (dr_ix (DP.w (dp_var 6)) (DP.w dp_int)))) (DP.w dp_str)) (dq_and (dt_cmpW (op_eqD hr.units) g_eq (DP.w (DR.p (dr_ix (DP.w (dp_var 6)) (DP.w dp_int)))) (DP.w (dp_var 1))) (dq_and1 (dt_cmpW op_ge g_ge (DP.w (DR.p (dr_ix (DP.w (dp_var 6)) (DP.w dp_int)))) (DP.w (DR.p (dr_ix (DP.w (dp_var 3)) (DP.w dp_int))))))))) (dss_one (ds_expr (DV.o (dv_mut (k := 4) PySem.F.slot_list_append rfl mt_append u_app (da_cons (DO.v (do_tup (da_cons (DP.v (dp_var 5)) (da_cons (DP.v (DR.p (dr_ix (DP.w (dp_var 6)) (DP.w dp_int)))) (da_cons (DP.v (DR.p (dr_ix (DP.w (dp_var 6)) (DP.w dp_int)))) da_nil))))) da_nil))))) dss_nil))) (dss_frz 4 (dss_one (ds_ret (do_fk c_in_force hr (by decide) tk (dl_l 4 (dl_d (DP.v (dp_var 2)) dl_nil)))))))))

theorem sc_falls_on : FnScope ["facts", "beast", "birth"] ["facts", "beast"] (defScope (top 37)) := ⟨rfl, rfl, rfl, by decide +kernel, rfl, by decide +kernel, by decide +kernel⟩
theorem ok_falls_on (D : Df K mg "falls_on" (top 37)) (c_birth_of : FK P w K mg base 1 "birth_of" ["facts", "beast"] m_birth_of) : FK P w K mg base 2 "falls_on" ["facts", "beast"] m_falls_on := fk_mk D sc_falls_on rfl rfl (fun _ _ _ _ _ _ us hl => match us, hl with | [_, _], _ => rfl) fun f cdv A outer s H E hr => by
  have hN := (sc_falls_on).nd
  have tk : Takes (cxOf (L2.CX P w) P w K mg base ["facts", "beast", "birth"] "falls_on" (defScope (top 37)) f cdv A outer s H E) (fun cls d _ H' => E cls d H') := takes_of rfl rfl rfl rfl
  exact dss_cons (ds_set (i := 2) hN (DV.o (DO.v (do_fk c_birth_of hr (by decide) tk (dl_d (DP.v (dp_var 0)) (dl_d (DP.v (dp_var 1)) dl_nil)))))) (dss_one (ds_ret (DR.o (dr_bin op_addG g_add (DP.w (DR.p (dr_ix (DP.w (dp_var 2)) (DP.w dp_int)))) (DP.w (DR.p (dr_ix (DP.w (dp_var 2)) (DP.w dp_int))))))))

theorem sc_shares : FnScope ["facts", "beast", "birth", "found", "day", "line"] ["facts", "beast"] (defScope (top 38)) := ⟨rfl, rfl, rfl, by decide +kernel, rfl, by decide +kernel, by decide +kernel⟩
theorem ok_shares (D : Df K mg "shares" (top 38)) (c_birth_of : FK P w K mg base 1 "birth_of" ["facts", "beast"] m_birth_of) (c_field_on : FK P w K mg base 2 "field_on" ["facts", "beast", "day"] m_field_on) (c_line_on : FK P w K mg base 3 "line_on" ["facts", "field", "day"] m_line_on) (c_lowest : FK P w K mg base 2 "lowest" ["number", "under"] m_lowest) (k_NOUGHT : Con K mg "NOUGHT" c_NOUGHT) (c_plus : FK P w K mg base 3 "plus" ["one", "other"] m_plus) (n_range : mg "range" = none) (n_sorted : mg "sorted" = none) : FK P w K mg base 4 "shares" ["facts", "beast"] m_shares := fk_mk D sc_shares rfl rfl (fun _ _ _ _ _ _ us hl => match us, hl with | [_, _], _ => rfl) fun f cdv A outer s H E hr => by
  have hN := (sc_shares).nd
  have tk : Takes (cxOf (L2.CX P w) P w K mg base ["facts", "beast", "birth", "found", "day", "line"] "shares" (defScope (top 38)) f cdv A outer s H E) (fun cls d _ H' => E cls d H') := takes_of rfl rfl rfl rfl
  have hp : PassesOwn (model P w) (cxOf (L2.CX P w) P w K mg base ["facts", "beast", "birth", "found", "day", "line"] "shares" (defScope (top 38)) f cdv A outer s H E).A (cxOf (L2.CX P w) P w K mg base ["facts", "beast", "birth", "found", "day", "line"] "shares" (defScope (top 38)) f cdv A outer s H E).env (cxOf (L2.CX P w) P w K mg base ["facts", "beast", "birth", "found", "day", "line"] "shares" (defScope (top 38)) f cdv A outer s H E).xe := passes_of rfl
  exact dss_cons (ds_set (i := 2) hN (DV.o (DO.v (do_fk c_birth_of hr (by decide) tk (dl_d (DP.v (dp_var 0)) (dl_d (DP.v (dp_var 1)) dl_nil)))))) (dss_cons (ds_set (i := 3) hN do_dnewT) (dss_cons (ds_forR2 [4] hp n_range (DP.v (DR.p (dr_ix (DP.w (dp_var 2)) (DP.w dp_int)))) (DP.v (DR.p (dr_bin op_addG g_add (DP.w (DR.p (dr_ix (DP.w (dp_var 2)) (DP.w dp_int)))) (DP.w (DR.p (dr_ix (DP.w (dp_var 2)) (DP.w dp_int))))))) (dg_name 4 hN) (dss_cons (ds_set (i := 5) hN (do_fk c_line_on hr (by decide) tk (dl_d (DP.v (dp_var 0)) (dl_d (DO.v (do_fk c_field_on hr (by decide) tk (dl_d (DP.v (dp_var 0)) (dl_d (DP.v (dp_var 1)) (dl_d (DP.v (dp_var 4)) dl_nil))))) (dl_d (DP.v (dp_var 4)) dl_nil))))) (dss_one (ds_if (dt_cmpW op_notN g_notN (DP.w (dp_tk 5)) (DP.w dp_non)) (dss_one (ds_dput 3 hr.units1 (do_tk 5) (DO.v (do_fk c_plus hr (by decide) tk (dl_d (dv_dget 3 hr.units1 (DP.v (dp_tk 5)) (DP.v (dp_con k_NOUGHT))) (dl_d (DO.v (do_fk c_lowest hr (by decide) tk (dl_d (DP.v dp_int) (dl_d (DP.v (DR.p (dr_ix (DP.w (dp_var 2)) (DP.w dp_int)))) dl_nil)))) dl_nil)))))) dss_nil)))) (dss_frz 3 (dss_one (ds_ret (DC.o (dc_compL [("line", 5)] hN (DO.v (do_sortDT 3 rfl hr.units1 n_sorted)) (blkOk_by (N := ["facts", "beast", "birth", "found", "day", "line"]) (sc := defScope (top 38)) (by decide +kernel)) (fun _ _ _ _ _ => dg_name 5 hN) (fun _ _ _ _ _ => dts_nil) (fun _ _ _ _ _ => DO.v (do_tup (da_cons (DP.v (dp_tk 5)) (da_cons (dv_dix 3 hr.units1 (DP.v (dp_tk 5))) da_nil)))))))))))

theorem sc_need_parish : FnScope ["parish"] ["parish"] (defScope (top 43)) := ⟨rfl, rfl, rfl, by decide +kernel, rfl, by decide +kernel, by decide +kernel⟩
theorem ok_need_parish (D : Df K mg "need_parish" (top 43)) (k_PARISHES : Con K mg "PARISHES" c_PARISHES) (e_BadParish : EK K mg "BadParish") : FK P w K mg base 1 "need_parish" ["parish"] m_need_parish := fk_mk D sc_need_parish rfl rfl (fun _ _ _ _ _ _ us hl => match us, hl with | [_], _ => rfl) fun f cdv A outer s H E hr => by
  have hN := (sc_need_parish).nd
  have tk : Takes (cxOf (L2.CX P w) P w K mg base ["parish"] "need_parish" (defScope (top 43)) f cdv A outer s H E) (fun cls d _ H' => E cls d H') := takes_of rfl rfl rfl rfl
  exact dss_one (ds_if (dt_not (dt_chain op_le op_le g_le g_le (DP.v dp_int) (DP.v (dp_var 0)) (DP.v (dp_con k_PARISHES)))) (dss_one (ds_raiseK e_BadParish tk)) dss_nil)

theorem sc_need_kind : FnScope ["kind"] ["kind"] (defScope (top 44)) := ⟨rfl, rfl, rfl, by decide +kernel, rfl, by decide +kernel, by decide +kernel⟩
theorem ok_need_kind (D : Df K mg "need_kind" (top 44)) (k_KINDS : Con K mg "KINDS" c_KINDS) (e_BadKind : EK K mg "BadKind") : FK P w K mg base 1 "need_kind" ["kind"] m_need_kind := fk_mk D sc_need_kind rfl rfl (fun _ _ _ _ _ _ us hl => match us, hl with | [_], _ => rfl) fun f cdv A outer s H E hr => by
  have hN := (sc_need_kind).nd
  have tk : Takes (cxOf (L2.CX P w) P w K mg base ["kind"] "need_kind" (defScope (top 44)) f cdv A outer s H E) (fun cls d _ H' => E cls d H') := takes_of rfl rfl rfl rfl
  exact dss_one (ds_if (dt_not (dt_chain op_le op_le g_le g_le (DP.v dp_int) (DP.v (dp_var 0)) (DP.v (dp_con k_KINDS)))) (dss_one (ds_raiseK e_BadKind tk)) dss_nil)

theorem sc_custom_of : FnScope ["facts", "parish", "kind", "year", "rows", "number", "fact", "found"] ["facts", "parish", "kind", "year"] (defScope (top 45)) := ⟨rfl, rfl, rfl, by decide +kernel, rfl, by decide +kernel, by decide +kernel⟩
theorem ok_custom_of (D : Df K mg "custom_of" (top 45)) (c_need_parish : FK P w K mg base 1 "need_parish" ["parish"] m_need_parish) (c_need_kind : FK P w K mg base 1 "need_kind" ["kind"] m_need_kind) (c_need_year : FK P w K mg base 1 "need_year" ["year"] m_need_year) (c_in_force : FK P w K mg base 1 "in_force" ["rows", "when"] m_in_force) (k_PLAIN : Con K mg "PLAIN" c_PLAIN) : FK P w K mg base 2 "custom_of" ["facts", "parish", "kind", "year"] m_custom_of := fk_mk D sc_custom_of rfl rfl (fun _ _ _ _ _ _ us hl => match us, hl with | [_, _, _, _], _ => rfl) fun f cdv A outer s H E hr => by
  have hN := (sc_custom_of).nd
  have tk : Takes (cxOf (L2.CX P w) P w K mg base ["facts", "parish", "kind", "year", "rows", "number", "fact", "found"] "custom_of" (defScope (top 45)) f cdv A outer s H E) (fun cls d _ H' => E cls d H') := takes_of rfl rfl rfl rfl
  have hp : PassesOwn (model P w) (cxOf (L2.CX P w) P w K mg base ["facts", "parish", "kind", "year", "rows", "number", "fact", "found"] "custom_of" (defScope (top 45)) f cdv A outer s H E).A (cxOf (L2.CX P w) P w K mg base ["facts", "parish", "kind", "year", "rows", "number", "fact", "found"] "custom_of" (defScope (top 45)) f cdv A outer s H E).env (cxOf (L2.CX P w) P w K mg base ["facts", "parish", "kind", "year", "rows", "number", "fact", "found"] "custom_of" (defScope (top 45)) f cdv A outer s H E).xe := passes_of rfl
  exact dss_cons (ds_expr (do_fk c_need_parish hr (by decide) tk (dl_d (DP.v (dp_var 1)) dl_nil))) (dss_cons (ds_expr (do_fk c_need_kind hr (by decide) tk (dl_d (DP.v (dp_var 2)) dl_nil))) (dss_cons (ds_expr (do_fk c_need_year hr (by decide) tk (dl_d (DP.v (dp_var 3)) dl_nil))) (dss_cons (ds_set (i := 4) hN (do_lst da_nil)) (dss_cons (ds_forL [5, 6] hp (DP.v (dp_var 0)) (dg_tup (dgs_cons (dg_name 5 hN) (dgs_cons (dg_name 6 hN) dgs_nil))) (dss_one (ds_if (DQ.t (dq_and (dt_cmpW (op_eqD hr.units) g_eq (DP.w (DR.p (dr_ix (DP.w (dp_var 6)) (DP.w dp_int)))) (DP.w dp_str)) (dq_and (dt_cmpW (op_eqD hr.units) g_eq (DP.w (DR.p (dr_ix (DP.w (dp_var 6)) (DP.w dp_int)))) (DP.w (dp_var 1))) (dq_and1 (dt_cmpW (op_eqD hr.units) g_eq (DP.w (DR.p (dr_ix (DP.w (dp_var 6)) (DP.w dp_int)))) (DP.w (dp_var 2))))))) (dss_one (ds_expr (DV.o (dv_mut (k := 4) PySem.F.slot_list_append rfl mt_append u_app (da_cons (DO.v (do_tup (da_cons (DP.v (dp_var 5)) (da_cons (DP.v (DR.p (dr_ix (DP.w (dp_var 6)) (DP.w dp_int)))) (da_cons (DP.v (DR.p (dr_ix (DP.w (dp_var 6)) (DP.w dp_int)))) da_nil))))) da_nil))))) dss_nil))) (dss_frz 4 (dss_cons (ds_set (i := 7) hN (DV.o (DO.v (do_fk c_in_force hr (by decide) tk (dl_l 4 (dl_d (DP.v (dp_var 3)) dl_nil)))))) (dss_cons (ds_if (dt_cmpW op_isN g_isN (DP.w (dp_var 7)) (DP.w dp_non)) (dss_one (ds_ret (DV.o (DP.v (dp_con k_PLAIN))))) dss_nil) (dss_one (ds_ret (DV.o (DP.v (dp_var 7))))))))))))

theorem sc_of_cut : FnScope ["facts", "number", "fact", "line"] ["facts", "number", "fact"] (defScope (top 47)) := ⟨rfl, rfl, rfl, by decide +kernel, rfl, by decide +kernel, by decide +kernel⟩
theorem ok_of_cut (D : Df K mg "of_cut" (top 47)) (c_line_on : FK P w K mg base 3 "line_on" ["facts", "field", "day"] m_line_on) : FK P w K mg base 4 "of_cut" ["facts", "number", "fact"] m_of_cut := fk_mk D sc_of_cut rfl rfl (fun _ _ _ _ _ _ us hl => match us, hl with | [_, _, _], _ => rfl) fun f cdv A outer s H E hr => by
  have hN := (sc_of_cut).nd
  have tk : Takes (cxOf (L2.CX P w) P w K mg base ["facts", "number", "fact", "line"] "of_cut" (defScope (top 47)) f cdv A outer s H E) (fun cls d _ H' => E cls d H') := takes_of rfl rfl rfl rfl
  exact dss_cons (ds_set (i := 3) hN (DV.o (DO.v (do_fk c_line_on hr (by decide) tk (dl_d (DP.v (dp_var 0)) (dl_d (DP.v (DR.p (dr_ix (DP.w (dp_var 2)) (DP.w dp_int)))) (dl_d (DP.v (DR.p (dr_ix (DP.w (dp_var 2)) (DP.w dp_int)))) dl_nil))))))) (dss_cons (ds_if (dt_cmpW op_isN g_isN (DP.w (dp_var 3)) (DP.w dp_non)) (dss_one (ds_ret (do_lst da_nil))) dss_nil) (dss_one (ds_ret (do_lst (da_cons (DO.v (do_tup (da_cons (DP.v (DR.p (dr_ix (DP.w (dp_var 2)) (DP.w dp_int)))) (da_cons (DP.v (DR.p (dr_ix (DP.w (dp_var 3)) (DP.w dp_int)))) (da_cons (DP.v (DR.p (dr_ix (DP.w (dp_var 3)) (DP.w dp_int)))) (da_cons (DO.v (do_tup (da_cons (DP.v (DR.p (dr_ix (DP.w (dp_var 2)) (DP.w dp_int)))) (da_cons (DP.v dp_int) da_nil)))) (da_cons (DP.v (dp_var 1)) da_nil))))))) da_nil)))))

theorem sc_of_birth : FnScope ["facts", "number", "day", "line", "part"] ["facts", "number"] (defScope (top 48)) := ⟨rfl, rfl, rfl, by decide +kernel, rfl, by decide +kernel, by decide +kernel⟩
theorem ok_of_birth (D : Df K mg "of_birth" (top 48)) (c_falls_on : FK P w K mg base 2 "falls_on" ["facts", "beast"] m_falls_on) (c_shares : FK P w K mg base 4 "shares" ["facts", "beast"] m_shares) : FK P w K mg base 5 "of_birth" ["facts", "number"] m_of_birth := fk_mk D sc_of_birth rfl rfl (fun _ _ _ _ _ _ us hl => match us, hl with | [_, _], _ => rfl) fun f cdv A outer s H E hr => by
  have hN := (sc_of_birth).nd
  have tk : Takes (cxOf (L2.CX P w) P w K mg base ["facts", "number", "day", "line", "part"] "of_birth" (defScope (top 48)) f cdv A outer s H E) (fun cls d _ H' => E cls d H') := takes_of rfl rfl rfl rfl
  exact dss_cons (ds_set (i := 2) hN (DV.o (DO.v (do_fk c_falls_on hr (by decide) tk (dl_d (DP.v (dp_var 0)) (dl_d (DP.v (dp_var 1)) dl_nil)))))) (dss_one (ds_ret (DC.o (dc_compL [("line", 3), ("part", 4)] hN (DO.v (do_fk c_shares hr (by decide) tk (dl_d (DP.v (dp_var 0)) (dl_d (DP.v (dp_var 1)) dl_nil)))) (blkOk_by (N := ["facts", "number", "day", "line", "part"]) (sc := defScope (top 48)) (by decide +kernel)) (fun _ _ _ _ _ => dg_tup (dgs_cons (dg_name 3 hN) (dgs_cons (dg_name 4 hN) dgs_nil))) (fun _ _ _ _ _ => dts_nil) (fun _ _ _ _ _ => DO.v (do_tup (da_cons (DP.v (dp_var 2)) (da_cons (DP.v (DR.p (dr_ix (DP.w (dp_var 3)) (DP.w dp_int)))) (da_cons (DP.v (DR.p (dr_ix (DP.w (dp_var 3)) (DP.w dp_int)))) (da_cons (DP.v (dp_var 4)) (da_cons (DP.v (dp_var 1)) da_nil)))))))))))

theorem sc_arisings : FnScope ["facts", "kind", "found", "number", "fact"] ["facts", "kind"] (defScope (top 49)) := ⟨rfl, rfl, rfl, by decide +kernel, rfl, by decide +kernel, by decide +kernel⟩
theorem ok_arisings (D : Df K mg "arisings" (top 49)) (c_need_kind : FK P w K mg base 1 "need_kind" ["kind"] m_need_kind) (c_of_cut : FK P w K mg base 4 "of_cut" ["facts", "number", "fact"] m_of_cut) (c_of_birth : FK P w K mg base 5 "of_birth" ["facts", "number"] m_of_birth) (n_sorted : mg "sorted" = none) : FK P w K mg base 6 "arisings" ["facts", "kind"] m_arisings := fk_mk D sc_arisings rfl rfl (fun _ _ _ _ _ _ us hl => match us, hl with | [_, _], _ => rfl) fun f cdv A outer s H E hr => by
  have hN := (sc_arisings).nd
  have tk : Takes (cxOf (L2.CX P w) P w K mg base ["facts", "kind", "found", "number", "fact"] "arisings" (defScope (top 49)) f cdv A outer s H E) (fun cls d _ H' => E cls d H') := takes_of rfl rfl rfl rfl
  have hp : PassesOwn (model P w) (cxOf (L2.CX P w) P w K mg base ["facts", "kind", "found", "number", "fact"] "arisings" (defScope (top 49)) f cdv A outer s H E).A (cxOf (L2.CX P w) P w K mg base ["facts", "kind", "found", "number", "fact"] "arisings" (defScope (top 49)) f cdv A outer s H E).env (cxOf (L2.CX P w) P w K mg base ["facts", "kind", "found", "number", "fact"] "arisings" (defScope (top 49)) f cdv A outer s H E).xe := passes_of rfl
  exact dss_cons (ds_expr (do_fk c_need_kind hr (by decide) tk (dl_d (DP.v (dp_var 1)) dl_nil))) (dss_cons (ds_set (i := 2) hN (DV.o (DO.v (do_lst da_nil)))) (dss_cons (ds_forL [3, 4] hp (DP.v (dp_var 0)) (dg_tup (dgs_cons (dg_name 3 hN) (dgs_cons (dg_name 4 hN) dgs_nil))) (dss_cons (ds_if (DQ.t (dq_and (dt_cmpW (op_eqD hr.units) g_eq (DP.w (DR.p (dr_ix (DP.w (dp_var 4)) (DP.w dp_int)))) (DP.w dp_str)) (dq_and1 (dt_cmpW (op_eqD hr.units) g_eq (DP.w (DR.p (dr_ix (DP.w (dp_var 4)) (DP.w dp_int)))) (DP.w (dp_var 1)))))) (dss_one (ds_set (i := 2) hN (DV.o (DO.v (do_bin op_addG g_add (DP.v (dp_var 2)) (DO.v (do_fk c_of_cut hr (by decide) tk (dl_d (DP.v (dp_var 0)) (dl_d (DP.v (dp_var 3)) (dl_d (DP.v (dp_var 4)) dl_nil)))))))))) dss_nil) (dss_one (ds_if (DQ.t (dq_and (dt_cmpW (op_eqD hr.units) g_eq (DP.w (DR.p (dr_ix (DP.w (dp_var 4)) (DP.w dp_int)))) (DP.w dp_str)) (dq_and1 (dt_cmpW (op_eqD hr.units) g_eq (DP.w (DR.p (dr_ix (DP.w (dp_var 4)) (DP.w dp_int)))) (DP.w (dp_var 1)))))) (dss_one (ds_set (i := 2) hN (DV.o (DO.v (do_bin op_addG g_add (DP.v (dp_var 2)) (DO.v (do_fk c_of_birth hr (by decide) tk (dl_d (DP.v (dp_var 0)) (dl_d (DP.v (dp_var 3)) dl_nil))))))))) dss_nil)))) (dss_one (ds_ret (DR.o (dr_callB (cr_sortD hr.units) g_sorted n_sorted (by decide +kernel) (dwa_cons (DP.w (dp_var 2)) dwa_nil)))))))

theorem sc_by_worth : FnScope ["worths", "order", "place", "at"] ["worths"] (defScope (top 52)) := ⟨rfl, rfl, rfl, by decide +kernel, rfl, by decide +kernel, by decide +kernel⟩
theorem ok_by_worth (D : Df K mg "by_worth" (top 52)) (n_len : mg "len" = none) (n_range : mg "range" = none) : FK P w K mg base 1 "by_worth" ["worths"] m_by_worth := fk_mk D sc_by_worth rfl rfl (fun _ _ _ _ _ _ us hl => match us, hl with | [_], _ => rfl) fun f cdv A outer s H E hr => by
  have hN := (sc_by_worth).nd
  have hp : PassesOwn (model P w) (cxOf (L2.CX P w) P w K mg base ["worths", "order", "place", "at"] "by_worth" (defScope (top 52)) f cdv A outer s H E).A (cxOf (L2.CX P w) P w K mg base ["worths", "order", "place", "at"] "by_worth" (defScope (top 52)) f cdv A outer s H E).env (cxOf (L2.CX P w) P w K mg base ["worths", "order", "place", "at"] "by_worth" (defScope (top 52)) f cdv A outer s H E).xe := passes_of rfl
  exact dss_cons (ds_set (i := 1) hN (do_lst da_nil)) (dss_cons (ds_forR1 [2, 3] hp n_range (DP.v (DR.p (dr_callB call_len g_len n_len (by decide +kernel) (dwa_cons (DP.w (dp_var 0)) dwa_nil)))) (dg_name 2 hN) (dss_cons (ds_set (i := 3) hN (DV.o (DP.v dp_int))) (dss_cons (ds_while [] (fuL 1) hp (DQ.t (dq_and (dt_cmpW op_lt g_lt (DP.w (dp_var 3)) (DP.w (DR.p (dr_callB call_len g_len n_len (by decide +kernel) (dwa_cons (dw_var 1) dwa_nil))))) (dq_and1 (dt_cmpW op_ge g_ge (DP.w (DR.p (dr_ix (DP.w (dp_var 0)) (DP.w (DR.p (dr_ix (dw_var 1) (DP.w (dp_var 3)))))))) (DP.w (DR.p (dr_ix (DP.w (dp_var 0)) (DP.w (dp_var 2))))))))) (dss_one (ds_aug (i := 3) hN ip_add (DP.v dp_int)))) (dss_one (ds_expr (DV.o (dv_mut (k := 1) PySem.F.slot_list_insert rfl mt_ins u_ins (da_cons (DP.v (dp_var 3)) (da_cons (DP.v (dp_var 2)) da_nil))))))))) (dss_one (ds_ret (do_mov 1))))

theorem sc_picked : FnScope ["worths", "aside"] ["worths", "aside"] (defScope (top 53)) := ⟨rfl, rfl, rfl, by decide +kernel, rfl, by decide +kernel, by decide +kernel⟩
theorem ok_picked (D : Df K mg "picked" (top 53)) (n_len : mg "len" = none) (e_BadAside : EK K mg "BadAside") (c_by_worth : FK P w K mg base 1 "by_worth" ["worths"] m_by_worth) : FK P w K mg base 2 "picked" ["worths", "aside"] m_picked := fk_mk D sc_picked rfl rfl (fun _ _ _ _ _ _ us hl => match us, hl with | [_, _], _ => rfl) fun f cdv A outer s H E hr => by
  have hN := (sc_picked).nd
  have tk : Takes (cxOf (L2.CX P w) P w K mg base ["worths", "aside"] "picked" (defScope (top 53)) f cdv A outer s H E) (fun cls d _ H' => E cls d H') := takes_of rfl rfl rfl rfl
  exact dss_cons (ds_if (dt_not (dt_chain op_le op_lt g_le g_lt (DP.v dp_int) (DP.v (dp_var 1)) (DP.v (DR.p (dr_callB call_len g_len n_len (by decide +kernel) (dwa_cons (DP.w (dp_var 0)) dwa_nil)))))) (dss_one (ds_raiseK e_BadAside tk)) dss_nil) (dss_one (ds_ret (do_ix (DO.v (do_fk c_by_worth hr (by decide) tk (dl_d (DP.v (dp_var 0)) dl_nil))) (DP.v (dp_var 1)))))

theorem sc_reasons : FnScope ["facts", "holder", "parish", "kind", "day", "found", "when", "who", "place", "part", "number"] ["facts", "holder", "parish", "kind", "day"] (defScope (top 56)) := ⟨rfl, rfl, rfl, by decide +kernel, rfl, by decide +kernel, by decide +kernel⟩
theorem ok_reasons (D : DfD K mg "reasons" (top 56) [.int 3999]) (c_need_holder : FK P w K mg base 1 "need_holder" ["holder"] m_need_holder) (c_need_parish : FK P w K mg base 1 "need_parish" ["parish"] m_need_parish) (c_need_kind : FK P w K mg base 1 "need_kind" ["kind"] m_need_kind) (c_need_day : FK P w K mg base 1 "need_day" ["day"] m_need_day) (c_arisings : FK P w K mg base 6 "arisings" ["facts", "kind"] m_arisings) (k_NOUGHT : Con K mg "NOUGHT" c_NOUGHT) (n_sorted : mg "sorted" = none) : FKD P w K mg base 7 "reasons" ["facts", "holder", "parish", "kind", "day"] [.int 3999] m_reasons := fkd_mk D sc_reasons rfl rfl (by decide) (by decide) (fun _ _ _ _ _ _ _ us its h1 h2 => match us, its, h1, h2 with | [_, _, _, _], [_], _, _ => ⟨_, rfl, rfl⟩) (fun _ _ _ _ _ _ _ us its h1 h2 => match us, its, h1, h2 with | [_, _, _, _, _], [_], _, _ => ⟨_, rfl, rfl⟩) fun f cdv A outer s H E hr => by
  have hN := (sc_reasons).nd
  have tk : Takes (cxOf (L2.CX P w) P w K mg base ["facts", "holder", "parish", "kind", "day", "found", "when", "who", "place", "part", "number"] "reasons" (defScope (top 56)) f cdv A outer s H E) (fun cls d _ H' => E cls d H') := takes_of rfl rfl rfl rfl
  have hp : PassesOwn (model P w) (cxOf (L2.CX P w) P w K mg base ["facts", "holder", "parish", "kind", "day", "found", "when", "who", "place", "part", "number"] "reasons" (defScope (top 56)) f cdv A outer s H E).A (cxOf (L2.CX P w) P w K mg base ["facts", "holder", "parish", "kind", "day", "found", "when", "who", "place", "part", "number"] "reasons" (defScope (top 56)) f cdv A outer s H E).env (cxOf (L2.CX P w) P w K mg base ["facts", "holder", "parish", "kind", "day", "found", "when", "who", "place", "part", "number"] "reasons" (defScope (top 56)) f cdv A outer s H E).xe := passes_of rfl
  exact dss_cons (ds_expr (do_fk c_need_holder hr (by decide) tk (dl_d (DP.v (dp_var 1)) dl_nil))) (dss_cons (ds_expr (do_fk c_need_parish hr (by decide) tk (dl_d (DP.v (dp_var 2)) dl_nil))) (dss_cons (ds_expr (do_fk c_need_kind hr (by decide) tk (dl_d (DP.v (dp_var 3)) dl_nil))) (dss_cons (ds_expr (do_fk c_need_day hr (by decide) tk (dl_d (DP.v (dp_var 4)) dl_nil))) (dss_cons (ds_set (i := 5) hN do_dnewK) (dss_cons (ds_forL [6, 7, 8, 9, 10] hp (DO.v (do_fk c_arisings hr (by decide) tk (dl_d (DP.v (dp_var 0)) (dl_d (DP.v (dp_var 3)) dl_nil)))) (dg_tup (dgs_cons (dg_name 6 hN) (dgs_cons (dg_name 7 hN) (dgs_cons (dg_name 8 hN) (dgs_cons (dg_name 9 hN) (dgs_cons (dg_name 10 hN) dgs_nil)))))) (dss_one (ds_if (DQ.t (dq_and (dt_cmp (op_eqD hr.units) g_eq (DO.v (do_tup (da_cons (DP.v (dp_var 7)) (da_cons (DP.v (dp_var 8)) da_nil)))) (DO.v (do_tup (da_cons (DP.v (dp_var 1)) (da_cons (DP.v (dp_var 2)) da_nil))))) (dq_and (dt_cmpW op_le g_le (DP.w (dp_var 6)) (DP.w (dp_var 4))) (dq_and1 (dt_cmpW (op_neD hr.units) g_ne (DP.w (dp_var 9)) (DP.w (dp_con k_NOUGHT))))))) (dss_one (ds_dputK 5 hr.units1 (DP.v (dp_var 10)) (DP.v dp_bl))) dss_nil))) (dss_frz 5 (dss_one (ds_ret (do_sortDK 5 rfl n_sorted)))))))))

theorem sc_of_wholes : FnScope ["facts", "number", "own", "fact", "row"] ["facts", "number"] (defScope (top 58)) := ⟨rfl, rfl, rfl, by decide +kernel, rfl, by decide +kernel, by decide +kernel⟩
theorem ok_of_wholes (D : Df K mg "of_wholes" (top 58)) (k_WHOLE : Con K mg "WHOLE" c_WHOLE) (c_of_birth : FK P w K mg base 5 "of_birth" ["facts", "number"] m_of_birth) : FK P w K mg base 6 "of_wholes" ["facts", "number"] m_of_wholes := fk_mk D sc_of_wholes rfl rfl (fun _ _ _ _ _ _ us hl => match us, hl with | [_, _], _ => rfl) fun f cdv A outer s H E hr => by
  have hN := (sc_of_wholes).nd
  have tk : Takes (cxOf (L2.CX P w) P w K mg base ["facts", "number", "own", "fact", "row"] "of_wholes" (defScope (top 58)) f cdv A outer s H E) (fun cls d _ H' => E cls d H') := takes_of rfl rfl rfl rfl
  have hp : PassesOwn (model P w) (cxOf (L2.CX P w) P w K mg base ["facts", "number", "own", "fact", "row"] "of_wholes" (defScope (top 58)) f cdv A outer s H E).A (cxOf (L2.CX P w) P w K mg base ["facts", "number", "own", "fact", "row"] "of_wholes" (defScope (top 58)) f cdv A outer s H E).env (cxOf (L2.CX P w) P w K mg base ["facts", "number", "own", "fact", "row"] "of_wholes" (defScope (top 58)) f cdv A outer s H E).xe := passes_of rfl
  exact dss_cons (ds_forL [2, 3] hp (DP.v (dp_var 0)) (dg_tup (dgs_cons (dg_name 2 hN) (dgs_cons (dg_name 3 hN) dgs_nil))) (dss_one (ds_if (DQ.t (dq_and (dt_cmpW (op_eqD hr.units) g_eq (DP.w (dp_var 2)) (DP.w (dp_var 1))) (dq_and1 (dt_cmpW (op_eqD hr.units) g_eq (DP.w (DR.p (dr_ix (DP.w (dp_var 3)) (DP.w dp_int)))) (DP.w dp_str))))) (dss_one (ds_ret (DC.o (dc_compL [("row", 4)] hN (DO.v (do_fk c_of_birth hr (by decide) tk (dl_d (DP.v (dp_var 0)) (dl_d (DP.v (dp_var 1)) dl_nil)))) (blkOk_by (N := ["facts", "number", "own", "fact", "row"]) (sc := defScope (top 58)) (by decide +kernel)) (fun _ _ _ _ _ => dg_name 4 hN) (fun _ _ _ _ _ => dts_one (dt_cmpW (op_eqD hr.units) g_eq (DP.w (DR.p (dr_ix (DP.w (dp_var 4)) (DP.w dp_int)))) (DP.w (dp_con k_WHOLE)))) (fun _ _ _ _ _ => DP.v (dp_var 4)))))) dss_nil))) (dss_one (ds_ret (do_lst da_nil)))

theorem sc_pen : FnScope ["facts", "holder", "parish", "kind", "day", "found", "number", "when", "who", "place", "part", "own"] ["facts", "holder", "parish", "kind", "day"] (defScope (top 57)) := ⟨rfl, rfl, rfl, by decide +kernel, rfl, by decide +kernel, by decide +kernel⟩
theorem ok_pen (D : DfD K mg "pen" (top 57) [.int 3999]) (fd_reasons : FKD P w K mg base 7 "reasons" ["facts", "holder", "parish", "kind", "day"] [.int 3999] m_reasons) (c_of_wholes : FK P w K mg base 6 "of_wholes" ["facts", "number"] m_of_wholes) (c_year_of : FK P w K mg base 2 "year_of" ["day"] m_year_of) (c_custom_of : FK P w K mg base 2 "custom_of" ["facts", "parish", "kind", "year"] m_custom_of) (n_sorted : mg "sorted" = none) : FKD P w K mg base 8 "pen" ["facts", "holder", "parish", "kind", "day"] [.int 3999] m_pen := fkd_mk D sc_pen rfl rfl (by decide) (by decide) (fun _ _ _ _ _ _ _ us its h1 h2 => match us, its, h1, h2 with | [_, _, _, _], [_], _, _ => ⟨_, rfl, rfl⟩) (fun _ _ _ _ _ _ _ us its h1 h2 => match us, its, h1, h2 with | [_, _, _, _, _], [_], _, _ => ⟨_, rfl, rfl⟩) fun f cdv A outer s H E hr => by
  have hN := (sc_pen).nd
  have tk : Takes (cxOf (L2.CX P w) P w K mg base ["facts", "holder", "parish", "kind", "day", "found", "number", "when", "who", "place", "part", "own"] "pen" (defScope (top 57)) f cdv A outer s H E) (fun cls d _ H' => E cls d H') := takes_of rfl rfl rfl rfl
  have hp : PassesOwn (model P w) (cxOf (L2.CX P w) P w K mg base ["facts", "holder", "parish", "kind", "day", "found", "number", "when", "who", "place", "part", "own"] "pen" (defScope (top 57)) f cdv A outer s H E).A (cxOf (L2.CX P w) P w K mg base ["facts", "holder", "parish", "kind", "day", "found", "number", "when", "who", "place", "part", "own"] "pen" (defScope (top 57)) f cdv A outer s H E).env (cxOf (L2.CX P w) P w K mg base ["facts", "holder", "parish", "kind", "day", "found", "number", "when", "who", "place", "part", "own"] "pen" (defScope (top 57)) f cdv A outer s H E).xe := passes_of rfl
  exact dss_cons (ds_set (i := 5) hN (do_lst da_nil)) (dss_cons (ds_forL [7, 8, 9, 10, 11] hp (DO.v (do_fk (fd_reasons.all) hr (by decide) tk (dl_d (DP.v (dp_var 0)) (dl_d (DP.v (dp_var 1)) (dl_d (DP.v (dp_var 2)) (dl_d (DP.v (dp_var 3)) (dl_d (DP.v (dp_var 4)) dl_nil))))))) (dg_name 6 hN) (dss_one (ds_forL [7, 8, 9, 10, 11] hp (DO.v (do_fk c_of_wholes hr (by decide) tk (dl_d (DP.v (dp_var 0)) (dl_d (DP.v (dp_var 6)) dl_nil)))) (dg_tup (dgs_cons (dg_name 7 hN) (dgs_cons (dg_name 8 hN) (dgs_cons (dg_name 9 hN) (dgs_cons (dg_name 10 hN) (dgs_cons (dg_name 11 hN) dgs_nil)))))) (dss_one (ds_if (DQ.t (dq_and (dt_cmp (op_eqD hr.units) g_eq (DO.v (do_tup (da_cons (DP.v (dp_var 8)) (da_cons (DP.v (dp_var 9)) da_nil)))) (DO.v (do_tup (da_cons (DP.v (dp_var 1)) (da_cons (DP.v (dp_var 2)) da_nil))))) (dq_and1 (dt_cmp (op_eqD hr.units) g_eq (DO.v (do_ix (DO.v (do_fk c_custom_of hr (by decide) tk (dl_d (DP.v (dp_var 0)) (dl_d (DP.v (dp_var 2)) (dl_d (DP.v (dp_var 3)) (dl_d (DO.v (do_fk c_year_of hr (by decide) tk (dl_d (DP.v (dp_var 7)) dl_nil))) dl_nil)))))) (DP.v dp_int))) (DP.v dp_str))))) (dss_one (ds_expr (DV.o (dv_mut (k := 5) PySem.F.slot_list_append rfl mt_append u_app (da_cons (DO.v (do_tup (da_cons (DP.v (dp_var 7)) (da_cons (DP.v (dp_var 6)) da_nil)))) da_nil))))) dss_nil))))) (dss_frz 5 (dss_one (ds_ret (DC.o (dc_compL [("number", 6), ("when", 7)] hN (DP.v (DR.p (dr_callB (cr_sortD hr.units) g_sorted n_sorted (by decide +kernel) (dwa_cons (dw_var 5) dwa_nil)))) (blkOk_by (N := ["facts", "holder", "parish", "kind", "day", "found", "number", "when", "who", "place", "part", "own"]) (sc := defScope (top 57)) (by decide +kernel)) (fun _ _ _ _ _ => dg_tup (dgs_cons (dg_name 7 hN) (dgs_cons (dg_name 6 hN) dgs_nil))) (fun _ _ _ _ _ => dts_nil) (fun _ _ _ _ _ => DP.v (dp_var 6))))))))

theorem sc_worth_of : FnScope ["facts", "beast", "number", "fact"] ["facts", "beast"] (defScope (top 59)) := ⟨rfl, rfl, rfl, by decide +kernel, rfl, by decide +kernel, by decide +kernel⟩
theorem ok_worth_of (D : Df K mg "worth_of" (top 59))  : FK P w K mg base 1 "worth_of" ["facts", "beast"] m_worth_of := fk_mk D sc_worth_of rfl rfl (fun _ _ _ _ _ _ us hl => match us, hl with | [_, _], _ => rfl) fun f cdv A outer s H E hr => by
  have hN := (sc_worth_of).nd
  exact dss_one (ds_ret (do_ix (DO.v (DC.o (dc_compL [("number", 2), ("fact", 3)] hN (DP.v (dp_var 0)) (blkOk_by (N := ["facts", "beast", "number", "fact"]) (sc := defScope (top 59)) (by decide +kernel)) (fun _ _ _ _ _ => dg_tup (dgs_cons (dg_name 2 hN) (dgs_cons (dg_name 3 hN) dgs_nil))) (fun _ _ _ _ _ => dts_one (dt_cmpW (op_eqD hr.units) g_eq (DP.w (dp_var 2)) (DP.w (dp_var 1)))) (fun _ _ _ _ _ => DP.v (DR.p (dr_ix (DP.w (dp_var 3)) (DP.w dp_int))))))) (DP.v dp_int)))

theorem sc_picked_beasts : FnScope ["facts", "holder", "parish", "kind", "day", "row", "found", "first", "ten", "custom", "beast"] ["facts", "holder", "parish", "kind", "day"] (defScope (top 60)) := ⟨rfl, rfl, rfl, by decide +kernel, rfl, by decide +kernel, by decide +kernel⟩
theorem ok_picked_beasts (D : DfD K mg "picked_beasts" (top 60) [.int 3999]) (fd_pen : FKD P w K mg base 8 "pen" ["facts", "holder", "parish", "kind", "day"] [.int 3999] m_pen) (n_len : mg "len" = none) (k_TEN : Con K mg "TEN" c_TEN) (c_falls_on : FK P w K mg base 2 "falls_on" ["facts", "beast"] m_falls_on) (c_year_of : FK P w K mg base 2 "year_of" ["day"] m_year_of) (c_custom_of : FK P w K mg base 2 "custom_of" ["facts", "parish", "kind", "year"] m_custom_of) (c_worth_of : FK P w K mg base 1 "worth_of" ["facts", "beast"] m_worth_of) (c_picked : FK P w K mg base 2 "picked" ["worths", "aside"] m_picked) (n_range : mg "range" = none) : FKD P w K mg base 9 "picked_beasts" ["facts", "holder", "parish", "kind", "day"] [.int 3999] m_picked_beasts := fkd_mk D sc_picked_beasts rfl rfl (by decide) (by decide) (fun _ _ _ _ _ _ _ us its h1 h2 => match us, its, h1, h2 with | [_, _, _, _], [_], _, _ => ⟨_, rfl, rfl⟩) (fun _ _ _ _ _ _ _ us its h1 h2 => match us, its, h1, h2 with | [_, _, _, _, _], [_], _, _ => ⟨_, rfl, rfl⟩) fun f cdv A outer s H E hr => by
  have hN := (sc_picked_beasts).nd
  have tk : Takes (cxOf (L2.CX P w) P w K mg base ["facts", "holder", "parish", "kind", "day", "row", "found", "first", "ten", "custom", "beast"] "picked_beasts" (defScope (top 60)) f cdv A outer s H E) (fun cls d _ H' => E cls d H') := takes_of rfl rfl rfl rfl
  have hp : PassesOwn (model P w) (cxOf (L2.CX P w) P w K mg base ["facts", "holder", "parish", "kind", "day", "row", "found", "first", "ten", "custom", "beast"] "picked_beasts" (defScope (top 60)) f cdv A outer s H E).A (cxOf (L2.CX P w) P w K mg base ["facts", "holder", "parish", "kind", "day", "row", "found", "first", "ten", "custom", "beast"] "picked_beasts" (defScope (top 60)) f cdv A outer s H E).env (cxOf (L2.CX P w) P w K mg base ["facts", "holder", "parish", "kind", "day", "row", "found", "first", "ten", "custom", "beast"] "picked_beasts" (defScope (top 60)) f cdv A outer s H E).xe := passes_of rfl
  exact dss_cons (ds_set (i := 5) hN (DV.o (DO.v (do_fk (fd_pen.all) hr (by decide) tk (dl_d (DP.v (dp_var 0)) (dl_d (DP.v (dp_var 1)) (dl_d (DP.v (dp_var 2)) (dl_d (DP.v (dp_var 3)) (dl_d (DP.v (dp_var 4)) dl_nil))))))))) (dss_cons (ds_set (i := 6) hN (do_lst da_nil)) (dss_cons (ds_forR3 [7, 8, 9] hp n_range (DP.v dp_int) (DP.v (DR.p (dr_bin op_addG g_add (DP.w (DR.p (dr_bin op_sub g_sub (DP.w (DR.p (dr_callB call_len g_len n_len (by decide +kernel) (dwa_cons (DP.w (dp_var 5)) dwa_nil)))) (DP.w (dp_con k_TEN))))) (DP.w dp_int)))) (DP.v (dp_con k_TEN)) (dg_name 7 hN) (dss_cons (ds_set (i := 8) hN (DV.o (DO.v (do_sl (DP.v (dp_var 5)) (dn_some (DP.v (dp_var 7))) (dn_some (DP.v (DR.p (dr_bin op_addG g_add (DP.w (dp_var 7)) (DP.w (dp_con k_TEN)))))))))) (dss_cons (ds_set (i := 9) hN (DV.o (DO.v (do_fk c_custom_of hr (by decide) tk (dl_d (DP.v (dp_var 0)) (dl_d (DP.v (dp_var 2)) (dl_d (DP.v (dp_var 3)) (dl_d (DO.v (do_fk c_year_of hr (by decide) tk (dl_d (DO.v (do_fk c_falls_on hr (by decide) tk (dl_d (DP.v (dp_var 0)) (dl_d (DP.v (DR.p (dr_ix (DP.w (dp_var 8)) (DP.w (DR.p (dr_neg (DP.w dp_int))))))) dl_nil)))) dl_nil))) dl_nil)))))))) (dss_one (ds_expr (DV.o (dv_mut (k := 6) PySem.F.slot_list_append rfl mt_append u_app (da_cons (DO.v (do_ix (DP.v (dp_var 8)) (DO.v (do_fk c_picked hr (by decide) tk (dl_d (DO.v (DC.o (dc_compL [("beast", 10)] hN (DP.v (dp_var 8)) (blkOk_by (N := ["facts", "holder", "parish", "kind", "day", "row", "found", "first", "ten", "custom", "beast"]) (sc := defScope (top 60)) (by decide +kernel)) (fun _ _ _ _ _ => dg_name 10 hN) (fun _ _ _ _ _ => dts_nil) (fun _ _ _ _ _ => DO.v (do_fk c_worth_of hr (by decide) takes0 (dl_d (DP.v (dp_var 0)) (dl_d (DP.v (dp_var 10)) dl_nil))))))) (dl_d (DP.v (DR.p (dr_ix (DP.w (dp_var 9)) (DP.w dp_int)))) dl_nil)))))) da_nil)))))))) (dss_one (ds_ret (do_mov 6)))))

theorem sc__law_bag : FnScope ["_law_script", "_law_cells", "_law_mark", "_law_cell"] ["_law_script"] (defScope (top 62)) := ⟨rfl, rfl, rfl, by decide +kernel, rfl, by decide +kernel, by decide +kernel⟩
theorem ok__law_bag (D : Df K mg "_law_bag" (top 62)) (n_list : mg "list" = none) (n_len : mg "len" = none) : FK P w K mg base 1 "_law_bag" ["_law_script"] m__law_bag := fk_mk D sc__law_bag rfl rfl (fun _ _ _ _ _ _ us hl => match us, hl with | [_], _ => rfl) fun f cdv A outer s H E hr => by
  have hN := (sc__law_bag).nd
  have hp : PassesOwn (model P w) (cxOf (L2.CX P w) P w K mg base ["_law_script", "_law_cells", "_law_mark", "_law_cell"] "_law_bag" (defScope (top 62)) f cdv A outer s H E).A (cxOf (L2.CX P w) P w K mg base ["_law_script", "_law_cells", "_law_mark", "_law_cell"] "_law_bag" (defScope (top 62)) f cdv A outer s H E).env (cxOf (L2.CX P w) P w K mg base ["_law_script", "_law_cells", "_law_mark", "_law_cell"] "_law_bag" (defScope (top 62)) f cdv A outer s H E).xe := passes_of rfl
  exact dss_cons (ds_set (i := 1) hN (DV.o (DO.v (do_callTy call_list_of g_list n_list (by decide +kernel) (da_cons (DO.v do_slS) da_nil))))) (dss_cons (ds_set (i := 2) hN (DV.o (DP.v (DR.p (dr_bin op_addG g_add (DP.w dp_int) (DP.w (DR.p (dr_callB call_len g_len n_len (by decide +kernel) (dwa_cons (DP.w (dp_var 1)) dwa_nil))))))))) (dss_cons (ds_forL [3] hp (DP.v (dp_var 1)) (dg_name 3 hN) (dss_one (ds_set (i := 2) hN (DV.o (DP.v (DR.p (dr_bin op_mod g_mod (DP.w (DR.p (dr_bin op_addG g_add (DP.w (DR.p (dr_bin op_mulG g_mul (DP.w (dp_var 2)) (DP.w dp_int)))) (DP.w (dp_var 3))))) (DP.w dp_int)))))))) (dss_one (ds_ret (do_lst (da_cons (DP.v (dp_var 1)) (da_cons (DP.v dp_int) (da_cons (DP.v dp_int) (da_cons (DP.v (dp_var 2)) da_nil)))))))))

theorem sc__law_pull : FnScope ["_law_bag_here", "_law_many", "_law_drawn", "_law_seed", "_law_one", "_law_two"] ["_law_bag_here", "_law_many"] (defScope (top 63)) := ⟨rfl, rfl, rfl, by decide +kernel, rfl, by decide +kernel, by decide +kernel⟩
theorem ok__law_pull (D : Df K mg "_law_pull" (top 63)) (n_len : mg "len" = none) : FK P w K mg base 1 "_law_pull" ["_law_bag_here", "_law_many"] m__law_pull := fk_mk D sc__law_pull rfl rfl (fun _ _ _ _ _ _ us hl => match us, hl with | [_, _], _ => rfl) fun f cdv A outer s H E hr => by
  have hN := (sc__law_pull).nd
  exact dss_cons (ds_if (dt_cmpW op_lt g_lt (DP.w (DR.p (dr_ix (dw_var 0) (DP.w dp_int)))) (DP.w dp_int)) (dss_cons (ds_setIx (k := 0) (DP.v (DR.p (dr_bin op_addG g_add (DP.w (DR.p (dr_ix (dw_var 0) (DP.w dp_int)))) (DP.w dp_int)))) (DP.v dp_int)) (dss_cons (ds_set (i := 3) hN (DV.o (DP.v (DR.p (dr_bin op_addG g_add (DP.w (DR.p (dr_ix (dw_var 0) (DP.w dp_int)))) (DP.w (DR.p (dr_bin op_mulG g_mul (DP.w (DR.p (dr_ix (dw_var 0) (DP.w dp_int)))) (DP.w dp_int))))))))) (dss_cons (ds_if (dt_cmpW op_le g_le (DP.w (DR.p (dr_ix (dw_var 0) (DP.w dp_int)))) (DP.w (DR.p (dr_callB call_len g_len n_len (by decide +kernel) (dwa_cons (DP.w (DR.p (dr_ix (dw_var 0) (DP.w dp_int)))) dwa_nil))))) (dss_one (ds_set (i := 3) hN (DV.o (DP.v (DR.p (dr_ix (DP.w (DR.p (dr_ix (dw_var 0) (DP.w dp_int)))) (DP.w (DR.p (dr_bin op_sub g_sub (DP.w (DR.p (dr_ix (dw_var 0) (DP.w dp_int)))) (DP.w dp_int)))))))))) dss_nil) (dss_cons (ds_if (DQ.t (dq_or (dt_cmpW (op_gtG hr.units0) g_gt (DP.w (DR.p (dr_ix (dw_var 0) (DP.w dp_int)))) (DP.w (DR.p (dr_callB call_len g_len n_len (by decide +kernel) (dwa_cons (DP.w (DR.p (dr_ix (dw_var 0) (DP.w dp_int)))) dwa_nil))))) (dq_or1 (dt_cmpW op_lt g_lt (DP.w (dp_var 3)) (DP.w (DR.p (dr_bin op_pow g_pow (DP.w dp_int) (DP.w dp_int)))))))) (dss_cons (ds_set (i := 4) hN (DV.o (DP.v (DR.p (dr_bin op_mod g_mod (DP.w (DR.p (dr_bin op_addG g_add (DP.w (DR.p (dr_bin op_addG g_add (DP.w (DR.p (dr_bin op_mulG g_mul (DP.w (dp_var 3)) (DP.w dp_int)))) (DP.w (DR.p (dr_bin op_mulG g_mul (DP.w (DR.p (dr_ix (dw_var 0) (DP.w dp_int)))) (DP.w dp_int))))))) (DP.w (DR.p (dr_ix (dw_var 0) (DP.w dp_int))))))) (DP.w dp_int)))))) (dss_cons (ds_set (i := 5) hN (DV.o (DP.v (DR.p (dr_bin op_mod g_mod (DP.w (DR.p (dr_bin op_addG g_add (DP.w (DR.p (dr_bin op_mulG g_mul (DP.w (dp_var 4)) (DP.w (dp_var 4))))) (DP.w (DR.p (dr_ix (dw_var 0) (DP.w dp_int))))))) (DP.w dp_int)))))) (dss_one (ds_ret (DR.o (dr_bin op_mod g_mod (DP.w (DR.p (dr_bin op_fdivW g_fdiv (DP.w (DR.p (dr_bin op_mod g_mod (DP.w (DR.p (dr_bin op_addG g_add (DP.w (DR.p (dr_bin op_mulG g_mul (DP.w (dp_var 5)) (DP.w dp_int)))) (DP.w (dp_var 4))))) (DP.w dp_int)))) (DP.w dp_int)))) (DP.w (dp_var 1)))))))) dss_nil) (dss_one (ds_setIx (k := 0) (DP.v (dp_var 3)) (DP.v dp_int))))))) dss_nil) (dss_cons (ds_set (i := 2) hN (DV.o (DP.v (DR.p (dr_bin op_mod g_mod (DP.w (DR.p (dr_ix (dw_var 0) (DP.w dp_int)))) (DP.w (dp_var 1))))))) (dss_cons (ds_setIx (k := 0) (DP.v (DR.p (dr_bin op_fdivW g_fdiv (DP.w (DR.p (dr_ix (dw_var 0) (DP.w dp_int)))) (DP.w (dp_var 1))))) (DP.v dp_int)) (dss_one (ds_ret (DV.o (DP.v (dp_var 2)))))))

theorem sc_law : FnScope ["_law_script", "_law_bag_here", "_law_rows", "_law_k", "_law_facts", "_law_ahead", "_law_picks", "_law_behind", "_law_later", "_law_ten", "_law_worth", "_law_at"] ["_law_script"] (defScope (top 64)) := ⟨rfl, rfl, rfl, by decide +kernel, rfl, by decide +kernel, by decide +kernel⟩
theorem ok_law {f : Addr} {fd : FuncData} (F : FunD K "law" "law" (defArgs (top 64)) (defBody (top 64)) (defScope (top 64)) [] [] f fd) (c__law_bag : FK P w K mg base 1 "_law_bag" ["_law_script"] m__law_bag) (c__law_pull : FK P w K mg base 1 "_law_pull" ["_law_bag_here", "_law_many"] m__law_pull) (n_range : mg "range" = none) (n_len : mg "len" = none) (n_list : mg "list" = none) (fd_pen : FKD P w K mg base 8 "pen" ["facts", "holder", "parish", "kind", "day"] [.int 3999] m_pen) (fd_picked_beasts : FKD P w K mg base 9 "picked_beasts" ["facts", "holder", "parish", "kind", "day"] [.int 3999] m_picked_beasts) (n_sorted : mg "sorted" = none) : FnOk P w K mg base (L2.CX P w) 10 f fd ["_law_script"] (spL K mg 1 m_law) := fl_mk F sc_law rfl rfl fun cdv A outer s H E hr => by
  have hN := (sc_law).nd
  have tk : Takes (cxOf (L2.CX P w) P w K mg base ["_law_script", "_law_bag_here", "_law_rows", "_law_k", "_law_facts", "_law_ahead", "_law_picks", "_law_behind", "_law_later", "_law_ten", "_law_worth", "_law_at"] "law" (defScope (top 64)) f cdv A outer s H E) (fun cls d _ H' => E cls d H') := takes_of rfl rfl rfl rfl
  have hp : PassesOwn (model P w) (cxOf (L2.CX P w) P w K mg base ["_law_script", "_law_bag_here", "_law_rows", "_law_k", "_law_facts", "_law_ahead", "_law_picks", "_law_behind", "_law_later", "_law_ten", "_law_worth", "_law_at"] "law" (defScope (top 64)) f cdv A outer s H E).A (cxOf (L2.CX P w) P w K mg base ["_law_script", "_law_bag_here", "_law_rows", "_law_k", "_law_facts", "_law_ahead", "_law_picks", "_law_behind", "_law_later", "_law_ten", "_law_worth", "_law_at"] "law" (defScope (top 64)) f cdv A outer s H E).env (cxOf (L2.CX P w) P w K mg base ["_law_script", "_law_bag_here", "_law_rows", "_law_k", "_law_facts", "_law_ahead", "_law_picks", "_law_behind", "_law_later", "_law_ten", "_law_worth", "_law_at"] "law" (defScope (top 64)) f cdv A outer s H E).xe := passes_of rfl
  exact dss_cons (ds_set (i := 1) hN (do_fk c__law_bag hr (by decide) tk (dl_l 0 dl_nil))) (dss_cons (ds_set (i := 2) hN (do_lst (da_cons (DO.v (do_tup (da_cons (DP.v dp_str) (da_cons (DP.v dp_int) (da_cons (DP.v dp_int) (da_cons (DP.v dp_int) da_nil)))))) (da_cons (DO.v (do_tup (da_cons (DP.v dp_str) (da_cons (DP.v dp_int) (da_cons (DP.v dp_int) (da_cons (DP.v dp_int) da_nil)))))) (da_cons (DO.v (do_tup (da_cons (DP.v dp_str) (da_cons (DP.v dp_int) (da_cons (DP.v dp_int) (da_cons (DP.v dp_int) (da_cons (DO.v (do_tup (da_cons (DP.v dp_str) (da_cons (DO.v (do_fk c__law_pull hr (by decide) tk (dl_l 1 (dl_d (DP.v dp_int) dl_nil)))) da_nil)))) da_nil))))))) da_nil))))) (dss_cons (ds_forR1 [3, 10] hp n_range (DO.v (do_ix (DO.v (do_lst (da_cons (DP.v dp_int) (da_cons (DP.v dp_int) (da_cons (DP.v dp_int) (da_cons (DP.v dp_int) da_nil)))))) (DO.v (do_fk c__law_pull hr (by decide) tk (dl_l 1 (dl_d (DP.v dp_int) dl_nil)))))) (dg_name 3 hN) (dss_cons (ds_set (i := 10) hN (DV.o (DO.v (do_fk c__law_pull hr (by decide) tk (dl_l 1 (dl_d (DO.v (do_ix (DO.v (do_lst (da_cons (DP.v dp_int) (da_cons (DP.v dp_int) da_nil)))) (DO.v (do_fk c__law_pull hr (by decide) tk (dl_l 1 (dl_d (DP.v dp_int) dl_nil)))))) dl_nil)))))) (dss_one (ds_expr (DV.o (dv_mut (k := 2) PySem.F.slot_list_append rfl mt_append u_app (da_cons (DO.v (do_tup (da_cons (DP.v dp_str) (da_cons (DP.v dp_int) (da_cons (DP.v dp_int) (da_cons (DO.v (do_fk c__law_pull hr (by decide) tk (dl_l 1 (dl_d (DP.v dp_int) dl_nil)))) (da_cons (DO.v (do_bin op_addG g_add (DP.v dp_int) (DO.v (do_fk c__law_pull hr (by decide) tk (dl_l 1 (dl_d (DP.v dp_int) dl_nil)))))) (da_cons (DP.v (dp_var 10)) da_nil)))))))) da_nil))))))) (dss_frz 2 (dss_bar (dss_cons (ds_setC (i := 4) (dc_compR1 [("_law_at", 11)] hN n_range (DP.v (DR.p (dr_callB call_len g_len n_len (by decide +kernel) (dwa_cons (dw_var 2) dwa_nil)))) (blkOk_by (N := ["_law_script", "_law_bag_here", "_law_rows", "_law_k", "_law_facts", "_law_ahead", "_law_picks", "_law_behind", "_law_later", "_law_ten", "_law_worth", "_law_at"]) (sc := defScope (top 64)) (by decide +kernel)) (fun _ _ _ _ _ => dg_name 11 hN) (fun _ _ _ _ _ => dts_nil) (fun _ _ _ _ _ => DO.v (do_tup (da_cons (DP.v (DR.p (dr_bin op_addG g_add (DP.w (dp_var 11)) (DP.w dp_int)))) (da_cons (DP.v (DR.p (dr_ix (dw_var 2) (DP.w (dp_var 11))))) da_nil)))))) (dss_bar (dss_cons (ds_set (i := 5) hN (DV.o (DO.v (do_fkd [.int 3999] fd_pen dq_3999 hr (by decide) tk (dl_d (DP.v (DR.p (dr_callTy call_list_of g_list n_list (by decide +kernel) (dwa_cons (dw_var 4) dwa_nil)))) (dl_d (DP.v dp_int) (dl_d (DP.v dp_int) (dl_d (DP.v dp_int) dl_nil)))))))) (dss_cons (ds_set (i := 6) hN (DV.o (DO.v (do_fkd [.int 3999] fd_picked_beasts dq_3999 hr (by decide) tk (dl_d (DP.v (DR.p (dr_callTy call_list_of g_list n_list (by decide +kernel) (dwa_cons (dw_var 4) dwa_nil)))) (dl_d (DP.v dp_int) (dl_d (DP.v dp_int) (dl_d (DP.v dp_int) dl_nil)))))))) (dss_cons (ds_expr (DV.o (dv_mut (k := 4) PySem.F.slot_list_append rfl mt_append u_app (da_cons (DO.v (do_tup (da_cons (DP.v (DR.p (dr_bin op_addG g_add (DP.w (DR.p (dr_callB call_len g_len n_len (by decide +kernel) (dwa_cons (dw_var 4) dwa_nil)))) (DP.w dp_int)))) (da_cons (DO.v (do_tup (da_cons (DP.v dp_str) (da_cons (DP.v dp_int) (da_cons (DP.v dp_int) (da_cons (DO.v (do_bin op_addG g_add (DP.v dp_int) (DO.v (do_fk c__law_pull hr (by decide) tk (dl_l 1 (dl_d (DP.v dp_int) dl_nil)))))) (da_cons (DP.v dp_int) (da_cons (DP.v dp_int) da_nil)))))))) da_nil)))) da_nil)))) (dss_frz 4 (dss_bar (dss_cons (ds_set (i := 7) hN (DV.o (DO.v (do_fkd [.int 3999] fd_pen dq_3999 hr (by decide) tk (dl_d (DP.v (DR.p (dr_callTy call_list_of g_list n_list (by decide +kernel) (dwa_cons (dw_var 4) dwa_nil)))) (dl_d (DP.v dp_int) (dl_d (DP.v dp_int) (dl_d (DP.v dp_int) dl_nil)))))))) (dss_cons (ds_set (i := 8) hN (DV.o (DO.v (do_fkd [.int 3999] fd_picked_beasts dq_3999 hr (by decide) tk (dl_d (DP.v (DR.p (dr_callTy call_list_of g_list n_list (by decide +kernel) (dwa_cons (dw_var 4) dwa_nil)))) (dl_d (DP.v dp_int) (dl_d (DP.v dp_int) (dl_d (DP.v dp_int) dl_nil)))))))) (dss_cons (ds_if (DQ.t (dq_or (dt_cmp (op_neD hr.units) g_ne (DP.v (DR.p (dr_callB (cr_sortD hr.units) g_sorted n_sorted (by decide +kernel) (dwa_cons (DP.w (dp_var 5)) dwa_nil)))) (DO.v (do_listRg2 n_list n_range (DP.v dp_int) (DP.v (DR.p (dr_callB call_len g_len n_len (by decide +kernel) (dwa_cons (dw_var 4) dwa_nil))))))) (dq_or1 (dt_cmp (op_neD hr.units) g_ne (DP.v (dp_var 7)) (DO.v (do_bin op_addG g_add (DP.v (dp_var 5)) (DO.v (do_lst (da_cons (DP.v (DR.p (dr_callB call_len g_len n_len (by decide +kernel) (dwa_cons (dw_var 4) dwa_nil)))) da_nil))))))))) (dss_one (ds_ret (DV.o (DP.v dp_bl)))) dss_nil) (dss_bar (dss_cons (ds_if (DQ.t (dq_or (dt_cmp (op_neD hr.units) g_ne (DO.v (do_sl (DP.v (dp_var 8)) dn_none (dn_some (DP.v (DR.p (dr_callB call_len g_len n_len (by decide +kernel) (dwa_cons (DP.w (dp_var 6)) dwa_nil))))))) (DP.v (dp_var 6))) (dq_or (dt_cmpW (op_neD hr.units) g_ne (DP.w (DR.p (dr_callB call_len g_len n_len (by decide +kernel) (dwa_cons (DP.w (dp_var 8)) dwa_nil)))) (DP.w (DR.p (dr_bin op_fdivW g_fdiv (DP.w (DR.p (dr_callB call_len g_len n_len (by decide +kernel) (dwa_cons (DP.w (dp_var 7)) dwa_nil)))) (DP.w dp_int))))) (dq_or1 (dt_cmpW (op_neD hr.units) g_ne (DP.w (DR.p (dr_callB call_len g_len n_len (by decide +kernel) (dwa_cons (DP.w (dp_var 6)) dwa_nil)))) (DP.w (DR.p (dr_bin op_fdivW g_fdiv (DP.w (DR.p (dr_callB call_len g_len n_len (by decide +kernel) (dwa_cons (DP.w (dp_var 5)) dwa_nil)))) (DP.w dp_int))))))))) (dss_one (ds_ret (DV.o (DP.v dp_bl)))) dss_nil) (dss_bar (dss_cons (ds_forR1 [9] hp n_range (DP.v (DR.p (dr_callB call_len g_len n_len (by decide +kernel) (dwa_cons (DP.w (dp_var 8)) dwa_nil)))) (dg_name 9 hN) (dss_one (ds_if (dt_cmp (op_notInD hr.units1) g_notInL (DP.v (DR.p (dr_ix (DP.w (dp_var 8)) (DP.w (dp_var 9))))) (DO.v (do_sl (DP.v (dp_var 7)) (dn_some (DP.v (DR.p (dr_bin op_mulG g_mul (DP.w dp_int) (DP.w (dp_var 9)))))) (dn_some (DP.v (DR.p (dr_bin op_addG g_add (DP.w (DR.p (dr_bin op_mulG g_mul (DP.w dp_int) (DP.w (dp_var 9))))) (DP.w dp_int)))))))) (dss_one (ds_ret (DV.o (DP.v dp_bl)))) dss_nil))) (dss_one (ds_ret (DV.o (dv_and (DO.v (do_cmp (op_eqD hr.units) g_eq (DO.v (do_fkd [.int 3999] fd_pen dq_3999 hr (by decide) tk (dl_d (DP.v (DR.p (dr_callTy call_list_of g_list n_list (by decide +kernel) (dwa_cons (dw_var 4) dwa_nil)))) (dl_d (DP.v dp_int) (dl_d (DP.v dp_int) (dl_d (DP.v dp_int) dl_nil)))))) (DO.v (do_lst da_nil)))) (dv_one (DO.v (do_cmp (op_eqD hr.units) g_eq (DO.v (do_fkd [.int 3999] fd_picked_beasts dq_3999 hr (by decide) tk (dl_d (DP.v (DR.p (dr_callTy call_list_of g_list n_list (by decide +kernel) (dwa_cons (dw_var 4) dwa_nil)))) (dl_d (DP.v dp_int) (dl_d (DP.v dp_int) (dl_d (DP.v dp_int) dl_nil)))))) (DO.v (do_lst da_nil)))))))))))))))))))))))))))

end
def d_need_day : He.DefD := ⟨("need_day", none), "need_day", "need_day", defArgs (top 15), defBody (top 15), defScope (top 15), [], []⟩
def d_need_year : He.DefD := ⟨("need_year", none), "need_year", "need_year", defArgs (top 16), defBody (top 16), defScope (top 16), [], []⟩
def d_year_of : He.DefD := ⟨("year_of", none), "year_of", "year_of", defArgs (top 17), defBody (top 17), defScope (top 17), [], []⟩
def d_in_force : He.DefD := ⟨("in_force", none), "in_force", "in_force", defArgs (top 18), defBody (top 18), defScope (top 18), [], []⟩
def d_need_field : He.DefD := ⟨("need_field", none), "need_field", "need_field", defArgs (top 22), defBody (top 22), defScope (top 22), [], []⟩
def d_need_holder : He.DefD := ⟨("need_holder", none), "need_holder", "need_holder", defArgs (top 23), defBody (top 23), defScope (top 23), [], []⟩
def d_rows_of : He.DefD := ⟨("rows_of", none), "rows_of", "rows_of", defArgs (top 24), defBody (top 24), defScope (top 24), [], []⟩
def d_parish_on : He.DefD := ⟨("parish_on", none), "parish_on", "parish_on", defArgs (top 25), defBody (top 25), defScope (top 25), [], []⟩
def d_holder_on : He.DefD := ⟨("holder_on", none), "holder_on", "holder_on", defArgs (top 26), defBody (top 26), defScope (top 26), [], []⟩
def d_free_on : He.DefD := ⟨("free_on", none), "free_on", "free_on", defArgs (top 27), defBody (top 27), defScope (top 27), [], []⟩
def d_line_on : He.DefD := ⟨("line_on", none), "line_on", "line_on", defArgs (top 28), defBody (top 28), defScope (top 28), [], []⟩
def d_divisor : He.DefD := ⟨("divisor", none), "divisor", "divisor", defArgs (top 31), defBody (top 31), defScope (top 31), [], []⟩
def d_lowest : He.DefD := ⟨("lowest", none), "lowest", "lowest", defArgs (top 32), defBody (top 32), defScope (top 32), [], []⟩
def d_plus : He.DefD := ⟨("plus", none), "plus", "plus", defArgs (top 33), defBody (top 33), defScope (top 33), [], []⟩
def d_birth_of : He.DefD := ⟨("birth_of", none), "birth_of", "birth_of", defArgs (top 35), defBody (top 35), defScope (top 35), [], []⟩
def d_field_on : He.DefD := ⟨("field_on", none), "field_on", "field_on", defArgs (top 36), defBody (top 36), defScope (top 36), [], []⟩
def d_falls_on : He.DefD := ⟨("falls_on", none), "falls_on", "falls_on", defArgs (top 37), defBody (top 37), defScope (top 37), [], []⟩
def d_shares : He.DefD := ⟨("shares", none), "shares", "shares", defArgs (top 38), defBody (top 38), defScope (top 38), [], []⟩
def d_need_parish : He.DefD := ⟨("need_parish", none), "need_parish", "need_parish", defArgs (top 43), defBody (top 43), defScope (top 43), [], []⟩
def d_need_kind : He.DefD := ⟨("need_kind", none), "need_kind", "need_kind", defArgs (top 44), defBody (top 44), defScope (top 44), [], []⟩
def d_custom_of : He.DefD := ⟨("custom_of", none), "custom_of", "custom_of", defArgs (top 45), defBody (top 45), defScope (top 45), [], []⟩
def d_of_cut : He.DefD := ⟨("of_cut", none), "of_cut", "of_cut", defArgs (top 47), defBody (top 47), defScope (top 47), [], []⟩
def d_of_birth : He.DefD := ⟨("of_birth", none), "of_birth", "of_birth", defArgs (top 48), defBody (top 48), defScope (top 48), [], []⟩
def d_arisings : He.DefD := ⟨("arisings", none), "arisings", "arisings", defArgs (top 49), defBody (top 49), defScope (top 49), [], []⟩
def d_by_worth : He.DefD := ⟨("by_worth", none), "by_worth", "by_worth", defArgs (top 52), defBody (top 52), defScope (top 52), [], []⟩
def d_picked : He.DefD := ⟨("picked", none), "picked", "picked", defArgs (top 53), defBody (top 53), defScope (top 53), [], []⟩
def d_reasons : He.DefD := ⟨("reasons", none), "reasons", "reasons", defArgs (top 56), defBody (top 56), defScope (top 56), [.int 3999], []⟩
def d_of_wholes : He.DefD := ⟨("of_wholes", none), "of_wholes", "of_wholes", defArgs (top 58), defBody (top 58), defScope (top 58), [], []⟩
def d_pen : He.DefD := ⟨("pen", none), "pen", "pen", defArgs (top 57), defBody (top 57), defScope (top 57), [.int 3999], []⟩
def d_worth_of : He.DefD := ⟨("worth_of", none), "worth_of", "worth_of", defArgs (top 59), defBody (top 59), defScope (top 59), [], []⟩
def d_picked_beasts : He.DefD := ⟨("picked_beasts", none), "picked_beasts", "picked_beasts", defArgs (top 60), defBody (top 60), defScope (top 60), [.int 3999], []⟩
def d__law_bag : He.DefD := ⟨("_law_bag", none), "_law_bag", "_law_bag", defArgs (top 62), defBody (top 62), defScope (top 62), [], []⟩
def d__law_pull : He.DefD := ⟨("_law_pull", none), "_law_pull", "_law_pull", defArgs (top 63), defBody (top 63), defScope (top 63), [], []⟩
def d_law : He.DefD := ⟨("law", none), "law", "law", defArgs (top 64), defBody (top 64), defScope (top 64), [], []⟩
def fa0 : List He.Fa := [.glo "need_day", .glo "need_year", .glo "year_of", .glo "in_force", .glo "need_field", .glo "need_holder", .glo "rows_of", .glo "parish_on", .glo "holder_on", .glo "free_on", .glo "line_on", .glo "divisor", .glo "lowest", .glo "plus", .glo "birth_of", .glo "field_on", .glo "falls_on", .glo "shares", .glo "need_parish", .glo "need_kind", .glo "custom_of", .glo "of_cut", .glo "of_birth", .glo "arisings", .glo "by_worth", .glo "picked", .glo "reasons", .glo "of_wholes", .glo "pen", .glo "worth_of", .glo "picked_beasts", .glo "_law_bag", .glo "_law_pull", .glo "law", .glo "BadDay", .exc "BadDay", .glo "BadYear", .exc "BadYear", .glo "BadField", .exc "BadField", .glo "BadHolder", .exc "BadHolder", .glo "BadPart", .exc "BadPart", .glo "NoBeast", .exc "NoBeast", .free "range", .free "sorted", .glo "BadParish", .exc "BadParish", .glo "BadKind", .exc "BadKind", .free "len", .glo "BadAside", .exc "BadAside", .free "list"]
def fn0 : List He.DefD := [d_need_day, d_need_year, d_year_of, d_in_force, d_need_field, d_need_holder, d_rows_of, d_parish_on, d_holder_on, d_free_on, d_line_on, d_divisor, d_lowest, d_plus, d_birth_of, d_field_on, d_falls_on, d_shares, d_need_parish, d_need_kind, d_custom_of, d_of_cut, d_of_birth, d_arisings, d_by_worth, d_picked, d_reasons, d_of_wholes, d_pen, d_worth_of, d_picked_beasts, d__law_bag, d__law_pull, d_law]
def ex0 (K : PySem.W.Frag) : Bool := (kcon K "LAST_DAY" c_LAST_DAY && (kcon K "LAST_YEAR" c_LAST_YEAR && (kcon K "YEAR_DAYS" c_YEAR_DAYS && (kcon K "FIELDS" c_FIELDS && (kcon K "HOLDERS" c_HOLDERS && (kcon K "NOUGHT" c_NOUGHT && (kcon K "PARISHES" c_PARISHES && (kcon K "KINDS" c_KINDS && (kcon K "PLAIN" c_PLAIN && (kcon K "WHOLE" c_WHOLE && (kcon K "TEN" c_TEN && true)))))))))))
def fa : List He.Fa := fa0
def fn : List He.DefD := fn0
def ex (K : PySem.W.Frag) : Bool := ex0 K
abbrev R : PySem.W.OpenRow := PySem.W.OpenLaw.row PySem.Challenge.rw_tithebarn_k58_whole_pens_only_grow
abbrev hk : PySem.W.Hook := hookM 4 fa fn ex
def ob (s : PySem.W.SharedT) : He.AlD × Bool := obsM 4 fa fn ex (HandSHeadRun.getT s)
theorem ob_eq (s : PySem.W.SharedT) : ob s = hk.obs s.abs := obsM_eq (HandSHeadRun.getT_eq s)
def loose : List Str := (["TitheError", "BadPart", "BadField", "BadParish", "BadHolder", "BadKind", "BadDay", "BadYear", "BadAside", "NoBeast", "LAST_DAY", "YEAR_DAYS", "LAST_YEAR", "need_day", "need_year", "year_of"] : List Str) ++ (["in_force", "FIELDS", "HOLDERS", "need_field", "need_holder", "rows_of", "parish_on", "holder_on", "free_on", "line_on", "NOUGHT", "divisor", "lowest", "plus", "birth_of", "field_on"] : List Str) ++ (["falls_on", "shares", "PARISHES", "KINDS", "PLAIN", "need_parish", "need_kind", "custom_of", "of_cut", "of_birth", "arisings", "TEN", "by_worth", "picked", "WHOLE", "reasons"] : List Str) ++ (["pen", "of_wholes", "worth_of", "picked_beasts", "_law_bag", "_law_pull"] : List Str)
theorem runB (w : World) : RunB R (PySem.W.view R.prog [64]) 4000 loose w := by
  intro os
  kernel_rfl
theorem runC0 (w : World) : RunC R 4 4000 fa0 fn0 ex0 w := by
  intro os
  kernel_rfl
theorem run (w : World) : HandSHeadRun.RunEq R (PySem.W.view R.prog [64]) hk ob 4000 loose w := run_of (runB w) (runC0 w)
theorem chain {P : Program} {w : World} {K : PySem.W.Frag} {h : Heap} {mg : Str → Option Value} {f : Addr} (X : K.In h) (G : h.Ns mainGlobals mg) (hfa : mg ("law" : Str) = some (.ref f)) (c : SaysM fa fn ex K) :
    ∃ fd : FuncData, (∀ (s : Shared) (v : Value), BindsTo s fd ⟨[v], []⟩ [("_law_script", v)]) ∧ ∀ base : Heap, K.In base → base.Ns mainGlobals mg → FnOk P w K mg base (L2.CX P w) 10 f fd ["_law_script"] (spL K mg 1 m_law) := by
  obtain ⟨c, cx⟩ := c
  obtain ⟨fd, F⟩ := c.def_ 33 (d := d_law) rfl
  have e := hfa.symm.trans (He.glo_ok X G (c.fact 33 (f := .glo "law") rfl))
  cases e
  have b := FunD.bindsA (ps := ["_law_script"]) F fun _ _ _ _ _ _ us hl => match us, hl with | [_], _ => rfl
  refine ⟨fd, fun s v => b s [v] rfl, fun base hB hG => ?_⟩
  have e_BadDay : EK K mg "BadDay" := ek_of X G (c.fact 34 (f := .glo "BadDay") rfl) (c.fact 35 (f := .exc "BadDay") rfl)
  have e_BadYear : EK K mg "BadYear" := ek_of X G (c.fact 36 (f := .glo "BadYear") rfl) (c.fact 37 (f := .exc "BadYear") rfl)
  have e_BadField : EK K mg "BadField" := ek_of X G (c.fact 38 (f := .glo "BadField") rfl) (c.fact 39 (f := .exc "BadField") rfl)
  have e_BadHolder : EK K mg "BadHolder" := ek_of X G (c.fact 40 (f := .glo "BadHolder") rfl) (c.fact 41 (f := .exc "BadHolder") rfl)
  have e_BadPart : EK K mg "BadPart" := ek_of X G (c.fact 42 (f := .glo "BadPart") rfl) (c.fact 43 (f := .exc "BadPart") rfl)
  have e_NoBeast : EK K mg "NoBeast" := ek_of X G (c.fact 44 (f := .glo "NoBeast") rfl) (c.fact 45 (f := .exc "NoBeast") rfl)
  have n_range : mg "range" = none := He.free_ok X G (c.fact 46 (f := .free "range") rfl)
  have n_sorted : mg "sorted" = none := He.free_ok X G (c.fact 47 (f := .free "sorted") rfl)
  have e_BadParish : EK K mg "BadParish" := ek_of X G (c.fact 48 (f := .glo "BadParish") rfl) (c.fact 49 (f := .exc "BadParish") rfl)
  have e_BadKind : EK K mg "BadKind" := ek_of X G (c.fact 50 (f := .glo "BadKind") rfl) (c.fact 51 (f := .exc "BadKind") rfl)
  have n_len : mg "len" = none := He.free_ok X G (c.fact 52 (f := .free "len") rfl)
  have e_BadAside : EK K mg "BadAside" := ek_of X G (c.fact 53 (f := .glo "BadAside") rfl) (c.fact 54 (f := .exc "BadAside") rfl)
  have n_list : mg "list" = none := He.free_ok X G (c.fact 55 (f := .free "list") rfl)
  have k_LAST_DAY : Con K mg "LAST_DAY" c_LAST_DAY := kcon_ok X G (He.ba cx).1
  have k_LAST_YEAR : Con K mg "LAST_YEAR" c_LAST_YEAR := kcon_ok X G (He.ba (He.ba cx).2).1
  have k_YEAR_DAYS : Con K mg "YEAR_DAYS" c_YEAR_DAYS := kcon_ok X G (He.ba (He.ba (He.ba cx).2).2).1
  have k_FIELDS : Con K mg "FIELDS" c_FIELDS := kcon_ok X G (He.ba (He.ba (He.ba (He.ba cx).2).2).2).1
  have k_HOLDERS : Con K mg "HOLDERS" c_HOLDERS := kcon_ok X G (He.ba (He.ba (He.ba (He.ba (He.ba cx).2).2).2).2).1
  have k_NOUGHT : Con K mg "NOUGHT" c_NOUGHT := kcon_ok X G (He.ba (He.ba (He.ba (He.ba (He.ba (He.ba cx).2).2).2).2).2).1
  have k_PARISHES : Con K mg "PARISHES" c_PARISHES := kcon_ok X G (He.ba (He.ba (He.ba (He.ba (He.ba (He.ba (He.ba cx).2).2).2).2).2).2).1
  have k_KINDS : Con K mg "KINDS" c_KINDS := kcon_ok X G (He.ba (He.ba (He.ba (He.ba (He.ba (He.ba (He.ba (He.ba cx).2).2).2).2).2).2).2).1
  have k_PLAIN : Con K mg "PLAIN" c_PLAIN := kcon_ok X G (He.ba (He.ba (He.ba (He.ba (He.ba (He.ba (He.ba (He.ba (He.ba cx).2).2).2).2).2).2).2).2).1
  have k_WHOLE : Con K mg "WHOLE" c_WHOLE := kcon_ok X G (He.ba (He.ba (He.ba (He.ba (He.ba (He.ba (He.ba (He.ba (He.ba (He.ba cx).2).2).2).2).2).2).2).2).2).1
  have k_TEN : Con K mg "TEN" c_TEN := kcon_ok X G (He.ba (He.ba (He.ba (He.ba (He.ba (He.ba (He.ba (He.ba (He.ba (He.ba (He.ba cx).2).2).2).2).2).2).2).2).2).2).1
  have c_need_day : FK P w K mg base 1 "need_day" ["day"] m_need_day := ok_need_day (by
    obtain ⟨fd, F⟩ := c.def_ 0 (d := d_need_day) rfl
    exact ⟨_, fd, F, He.glo_ok X G (c.fact 0 (f := .glo "need_day") rfl)⟩) k_LAST_DAY e_BadDay
  have c_need_year : FK P w K mg base 1 "need_year" ["year"] m_need_year := ok_need_year (by
    obtain ⟨fd, F⟩ := c.def_ 1 (d := d_need_year) rfl
    exact ⟨_, fd, F, He.glo_ok X G (c.fact 1 (f := .glo "need_year") rfl)⟩) k_LAST_YEAR e_BadYear
  have c_year_of : FK P w K mg base 2 "year_of" ["day"] m_year_of := ok_year_of (by
    obtain ⟨fd, F⟩ := c.def_ 2 (d := d_year_of) rfl
    exact ⟨_, fd, F, He.glo_ok X G (c.fact 2 (f := .glo "year_of") rfl)⟩) c_need_day k_YEAR_DAYS
  have c_in_force : FK P w K mg base 1 "in_force" ["rows", "when"] m_in_force := ok_in_force (by
    obtain ⟨fd, F⟩ := c.def_ 3 (d := d_in_force) rfl
    exact ⟨_, fd, F, He.glo_ok X G (c.fact 3 (f := .glo "in_force") rfl)⟩) 
  have c_need_field : FK P w K mg base 1 "need_field" ["field"] m_need_field := ok_need_field (by
    obtain ⟨fd, F⟩ := c.def_ 4 (d := d_need_field) rfl
    exact ⟨_, fd, F, He.glo_ok X G (c.fact 4 (f := .glo "need_field") rfl)⟩) k_FIELDS e_BadField
  have c_need_holder : FK P w K mg base 1 "need_holder" ["holder"] m_need_holder := ok_need_holder (by
    obtain ⟨fd, F⟩ := c.def_ 5 (d := d_need_holder) rfl
    exact ⟨_, fd, F, He.glo_ok X G (c.fact 5 (f := .glo "need_holder") rfl)⟩) k_HOLDERS e_BadHolder
  have c_rows_of : FK P w K mg base 1 "rows_of" ["facts", "word", "field"] m_rows_of := ok_rows_of (by
    obtain ⟨fd, F⟩ := c.def_ 6 (d := d_rows_of) rfl
    exact ⟨_, fd, F, He.glo_ok X G (c.fact 6 (f := .glo "rows_of") rfl)⟩) 
  have c_parish_on : FK P w K mg base 2 "parish_on" ["facts", "field", "day"] m_parish_on := ok_parish_on (by
    obtain ⟨fd, F⟩ := c.def_ 7 (d := d_parish_on) rfl
    exact ⟨_, fd, F, He.glo_ok X G (c.fact 7 (f := .glo "parish_on") rfl)⟩) c_need_field c_need_day c_rows_of c_in_force
  have c_holder_on : FK P w K mg base 2 "holder_on" ["facts", "field", "day"] m_holder_on := ok_holder_on (by
    obtain ⟨fd, F⟩ := c.def_ 8 (d := d_holder_on) rfl
    exact ⟨_, fd, F, He.glo_ok X G (c.fact 8 (f := .glo "holder_on") rfl)⟩) c_need_field c_need_day c_rows_of c_in_force
  have c_free_on : FK P w K mg base 2 "free_on" ["facts", "field", "day"] m_free_on := ok_free_on (by
    obtain ⟨fd, F⟩ := c.def_ 9 (d := d_free_on) rfl
    exact ⟨_, fd, F, He.glo_ok X G (c.fact 9 (f := .glo "free_on") rfl)⟩) c_need_field c_need_day
  have c_line_on : FK P w K mg base 3 "line_on" ["facts", "field", "day"] m_line_on := ok_line_on (by
    obtain ⟨fd, F⟩ := c.def_ 10 (d := d_line_on) rfl
    exact ⟨_, fd, F, He.glo_ok X G (c.fact 10 (f := .glo "line_on") rfl)⟩) c_holder_on c_parish_on c_free_on
  have c_divisor : FK P w K mg base 1 "divisor" ["one", "other"] m_divisor := ok_divisor (by
    obtain ⟨fd, F⟩ := c.def_ 11 (d := d_divisor) rfl
    exact ⟨_, fd, F, He.glo_ok X G (c.fact 11 (f := .glo "divisor") rfl)⟩) 
  have c_lowest : FK P w K mg base 2 "lowest" ["number", "under"] m_lowest := ok_lowest (by
    obtain ⟨fd, F⟩ := c.def_ 12 (d := d_lowest) rfl
    exact ⟨_, fd, F, He.glo_ok X G (c.fact 12 (f := .glo "lowest") rfl)⟩) e_BadPart c_divisor
  have c_plus : FK P w K mg base 3 "plus" ["one", "other"] m_plus := ok_plus (by
    obtain ⟨fd, F⟩ := c.def_ 13 (d := d_plus) rfl
    exact ⟨_, fd, F, He.glo_ok X G (c.fact 13 (f := .glo "plus") rfl)⟩) c_lowest
  have c_birth_of : FK P w K mg base 1 "birth_of" ["facts", "beast"] m_birth_of := ok_birth_of (by
    obtain ⟨fd, F⟩ := c.def_ 14 (d := d_birth_of) rfl
    exact ⟨_, fd, F, He.glo_ok X G (c.fact 14 (f := .glo "birth_of") rfl)⟩) e_NoBeast
  have c_field_on : FK P w K mg base 2 "field_on" ["facts", "beast", "day"] m_field_on := ok_field_on (by
    obtain ⟨fd, F⟩ := c.def_ 15 (d := d_field_on) rfl
    exact ⟨_, fd, F, He.glo_ok X G (c.fact 15 (f := .glo "field_on") rfl)⟩) c_birth_of c_need_day c_in_force
  have c_falls_on : FK P w K mg base 2 "falls_on" ["facts", "beast"] m_falls_on := ok_falls_on (by
    obtain ⟨fd, F⟩ := c.def_ 16 (d := d_falls_on) rfl
    exact ⟨_, fd, F, He.glo_ok X G (c.fact 16 (f := .glo "falls_on") rfl)⟩) c_birth_of
  have c_shares : FK P w K mg base 4 "shares" ["facts", "beast"] m_shares := ok_shares (by
    obtain ⟨fd, F⟩ := c.def_ 17 (d := d_shares) rfl
    exact ⟨_, fd, F, He.glo_ok X G (c.fact 17 (f := .glo "shares") rfl)⟩) c_birth_of c_field_on c_line_on c_lowest k_NOUGHT c_plus n_range n_sorted
  have c_need_parish : FK P w K mg base 1 "need_parish" ["parish"] m_need_parish := ok_need_parish (by
    obtain ⟨fd, F⟩ := c.def_ 18 (d := d_need_parish) rfl
    exact ⟨_, fd, F, He.glo_ok X G (c.fact 18 (f := .glo "need_parish") rfl)⟩) k_PARISHES e_BadParish
  have c_need_kind : FK P w K mg base 1 "need_kind" ["kind"] m_need_kind := ok_need_kind (by
    obtain ⟨fd, F⟩ := c.def_ 19 (d := d_need_kind) rfl
    exact ⟨_, fd, F, He.glo_ok X G (c.fact 19 (f := .glo "need_kind") rfl)⟩) k_KINDS e_BadKind
  have c_custom_of : FK P w K mg base 2 "custom_of" ["facts", "parish", "kind", "year"] m_custom_of := ok_custom_of (by
    obtain ⟨fd, F⟩ := c.def_ 20 (d := d_custom_of) rfl
    exact ⟨_, fd, F, He.glo_ok X G (c.fact 20 (f := .glo "custom_of") rfl)⟩) c_need_parish c_need_kind c_need_year c_in_force k_PLAIN
  have c_of_cut : FK P w K mg base 4 "of_cut" ["facts", "number", "fact"] m_of_cut := ok_of_cut (by
    obtain ⟨fd, F⟩ := c.def_ 21 (d := d_of_cut) rfl
    exact ⟨_, fd, F, He.glo_ok X G (c.fact 21 (f := .glo "of_cut") rfl)⟩) c_line_on
  have c_of_birth : FK P w K mg base 5 "of_birth" ["facts", "number"] m_of_birth := ok_of_birth (by
    obtain ⟨fd, F⟩ := c.def_ 22 (d := d_of_birth) rfl
    exact ⟨_, fd, F, He.glo_ok X G (c.fact 22 (f := .glo "of_birth") rfl)⟩) c_falls_on c_shares
  have c_arisings : FK P w K mg base 6 "arisings" ["facts", "kind"] m_arisings := ok_arisings (by
    obtain ⟨fd, F⟩ := c.def_ 23 (d := d_arisings) rfl
    exact ⟨_, fd, F, He.glo_ok X G (c.fact 23 (f := .glo "arisings") rfl)⟩) c_need_kind c_of_cut c_of_birth n_sorted
  have c_by_worth : FK P w K mg base 1 "by_worth" ["worths"] m_by_worth := ok_by_worth (by
    obtain ⟨fd, F⟩ := c.def_ 24 (d := d_by_worth) rfl
    exact ⟨_, fd, F, He.glo_ok X G (c.fact 24 (f := .glo "by_worth") rfl)⟩) n_len n_range
  have c_picked : FK P w K mg base 2 "picked" ["worths", "aside"] m_picked := ok_picked (by
    obtain ⟨fd, F⟩ := c.def_ 25 (d := d_picked) rfl
    exact ⟨_, fd, F, He.glo_ok X G (c.fact 25 (f := .glo "picked") rfl)⟩) n_len e_BadAside c_by_worth
  have fd_reasons : FKD P w K mg base 7 "reasons" ["facts", "holder", "parish", "kind", "day"] [.int 3999] m_reasons := ok_reasons (by
    obtain ⟨fd, F⟩ := c.def_ 26 (d := d_reasons) rfl
    exact ⟨_, fd, F, He.glo_ok X G (c.fact 26 (f := .glo "reasons") rfl)⟩) c_need_holder c_need_parish c_need_kind c_need_day c_arisings k_NOUGHT n_sorted
  have c_of_wholes : FK P w K mg base 6 "of_wholes" ["facts", "number"] m_of_wholes := ok_of_wholes (by
    obtain ⟨fd, F⟩ := c.def_ 27 (d := d_of_wholes) rfl
    exact ⟨_, fd, F, He.glo_ok X G (c.fact 27 (f := .glo "of_wholes") rfl)⟩) k_WHOLE c_of_birth
  have fd_pen : FKD P w K mg base 8 "pen" ["facts", "holder", "parish", "kind", "day"] [.int 3999] m_pen := ok_pen (by
    obtain ⟨fd, F⟩ := c.def_ 28 (d := d_pen) rfl
    exact ⟨_, fd, F, He.glo_ok X G (c.fact 28 (f := .glo "pen") rfl)⟩) fd_reasons c_of_wholes c_year_of c_custom_of n_sorted
  have c_worth_of : FK P w K mg base 1 "worth_of" ["facts", "beast"] m_worth_of := ok_worth_of (by
    obtain ⟨fd, F⟩ := c.def_ 29 (d := d_worth_of) rfl
    exact ⟨_, fd, F, He.glo_ok X G (c.fact 29 (f := .glo "worth_of") rfl)⟩) 
  have fd_picked_beasts : FKD P w K mg base 9 "picked_beasts" ["facts", "holder", "parish", "kind", "day"] [.int 3999] m_picked_beasts := ok_picked_beasts (by
    obtain ⟨fd, F⟩ := c.def_ 30 (d := d_picked_beasts) rfl
    exact ⟨_, fd, F, He.glo_ok X G (c.fact 30 (f := .glo "picked_beasts") rfl)⟩) fd_pen n_len k_TEN c_falls_on c_year_of c_custom_of c_worth_of c_picked n_range
  have c__law_bag : FK P w K mg base 1 "_law_bag" ["_law_script"] m__law_bag := ok__law_bag (by
    obtain ⟨fd, F⟩ := c.def_ 31 (d := d__law_bag) rfl
    exact ⟨_, fd, F, He.glo_ok X G (c.fact 31 (f := .glo "_law_bag") rfl)⟩) n_list n_len
  have c__law_pull : FK P w K mg base 1 "_law_pull" ["_law_bag_here", "_law_many"] m__law_pull := ok__law_pull (by
    obtain ⟨fd, F⟩ := c.def_ 32 (d := d__law_pull) rfl
    exact ⟨_, fd, F, He.glo_ok X G (c.fact 32 (f := .glo "_law_pull") rfl)⟩) n_len
  exact ok_law F c__law_bag c__law_pull n_range n_len n_list fd_pen fd_picked_beasts n_sorted
end VLD
open PySem PySem.W PySem.Calls PyProof.Rows VL in
theorem VLD.holds_of_mirror (hm : ∀ ns : List Int, ns.length ≤ 63 → ∃ os, VL.m_law [.scr ns] = .ok (.dat (.bool true)) os) : PySem.Challenge.rw_tithebarn_k58_whole_pens_only_grow.Holds := by
  w_on; o_law
  refine HandSHeadRun.head_any (r := VLD.R) (q := view VLD.R.prog [64]) (H := VLD.hk) (ob := VLD.ob) (M := 4000) (loose := VLD.loose) (d := HandSHeadRun.topDef VLD.R.prog 64) (kwd := []) VLD.ob_eq
    (by kernel_rfl) (fun s => by kernel_rfl) VLD.run (by kernel_rfl) (by kernel_rfl) (by kernel_rfl) (by rfl) (by first | assumption | decide +kernel) (by decide +kernel) ⟨rfl, rfl, rfl, rfl, rfl, by decide +kernel⟩ ?hw ?hc
  case hw => w_witness2
  case hc =>
    refine VL.walk_m (l := PySem.Challenge.rw_tithebarn_k58_whole_pens_only_grow) (n := 63) (k := 10) (x := "_law_script") (m := VL.m_law) rfl (by decide) (by kernel_rfl) ⟨rfl, by decide, by decide⟩ ?F hm
    intro w mg fa h Y G hmg0
    obtain ⟨K, KX, c⟩ := Y
    have hmg : mg ("law" : PySem.Str) = some (.ref fa) := by
      have e : (HandSHeadRun.topDef VLD.R.prog 64).name = ("law" : PySem.Str) := by kernel_rfl
      rw [← e]
      exact hmg0
    obtain ⟨fd, hb, hF⟩ := VLD.chain (P := (PySem.Challenge.rw_tithebarn_k58_whole_pens_only_grow).prog) (w := w) KX G hmg c
    exact ⟨K, fd, KX, hb, hF⟩
theorem PySem.Challenge.cw_tithebarn_k58_whole_pens_only_grow_holds : PySem.Challenge.rw_tithebarn_k58_whole_pens_only_grow.Holds :=
  VLD.holds_of_mirror VL.law_true
