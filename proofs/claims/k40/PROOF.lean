import PyProof.Rows.All
import Wide.All
import OpenK.AllK
import Wide.FinOn
import KE.KStateDown
import HandS.ForMost
import HandS.ForExc
import HandS.More
import HandS.Conv
import HandS.Defaults
import KE.KDictKeyed
import HandS.TupAny
import HandS.DeepEq
import HandS.Deep
import HandS.WordsDict
import HandS.TryOnly
import HandS.ExcIs
import HandS.ExcValue
import HandS.IsInst
import HandS.HeadHook2
import KE.KDictPairs
import HandS.Strs
import KE.KEqDict
import KE.DataMinMax
import KE.SortData
import KE.DataCmp
import KE.KDictCopyH
import HandS.Style
import HandS.HeadEnd
import HandS.Head0
import HandS.Head1
import HandS.Head2
import HandS.SetFor
import HandS.Set
import HandS.Keys
import HandS.Iter
import PyProof.Rows.SortShellAny
import PySem.Challenge.RW_answerhall_k40_whole_covering
set_option Elab.async false
set_option linter.all false
set_option maxRecDepth 100000
set_option maxHeartbeats 4000000
namespace M
open PySem L2
/-! ### data -/
inductive D where
  | non | bl (b : Bool) | int (i : Int) | str (s : PySem.Str)
  | lst (ds : List D) | sq (ds : List D) | tup (ds : List D)
  | dic (kvs : List (Key × D))
  | obj (C : Addr) (fs : List (PySem.Str × D))
  | exc (cls : Value)
  | raw (v : V)
/-- an error that was caught and is kept -/
def ExH (cls : Value) (a : Addr) : HO := .ext fun h => ∃ (oe : Obj) (vs : Array Value), h.get? a = some oe ∧ oe.cls = cls ∧ oe.dict = none ∧ oe.data = .fields vs
mutual
inductive Rp (K : PySem.W.Frag) (F : Hp) : V → D → Prop
  | non : Rp K F .non .non
  | bl (b : Bool) : Rp K F (.bl b) (.bl b)
  | int (i : Int) : Rp K F (.int i) (.int i)
  | str (x : PySem.Str) : Rp K F (.str x) (.str x)
  | lst {a : Addr} {vs : List V} {ds : List D} : F a = some (.lst vs) → RpL K F vs ds → Rp K F (.ref a) (.lst ds)
  | sq {a : Addr} {vs : List V} {ds : List D} : SqL K F a vs → RpL K F vs ds → Rp K F (.ref a) (.sq ds)
  | tup {a : Addr} {vs : List V} {ds : List D} : SqT K F a vs → RpL K F vs ds → Rp K F (.ref a) (.tup ds)
  | dic {a : Addr} {kvs : List (Key × V)} {kds : List (Key × D)} : Rd F a (.dK kvs) → RpK K F kvs kds → Rp K F (.ref a) (.dic kds)
  | obj {a dx C : Addr} {fvs : List (PySem.Str × V)} {fs : List (PySem.Str × D)} : F a = some (.ins C dx fvs) → F dx = some (.own a) → RpF K F fvs fs → Rp K F (.ref a) (.obj C fs)
  | exc {a : Addr} {cls : Value} : F a = some (ExH cls a) → Rp K F (.ref a) (.exc cls)
  | raw (v : V) : Rp K F v (.raw v)
inductive RpL (K : PySem.W.Frag) (F : Hp) : List V → List D → Prop
  | nil : RpL K F [] []
  | cons {v : V} {d : D} {vs : List V} {ds : List D} : Rp K F v d → RpL K F vs ds → RpL K F (v :: vs) (d :: ds)
inductive RpK (K : PySem.W.Frag) (F : Hp) : List (Key × V) → List (Key × D) → Prop
  | nil : RpK K F [] []
  | cons {k : Key} {v : V} {d : D} {vs : List (Key × V)} {ds : List (Key × D)} : Rp K F v d → RpK K F vs ds → RpK K F ((k, v) :: vs) ((k, d) :: ds)
inductive RpF (K : PySem.W.Frag) (F : Hp) : List (PySem.Str × V) → List (PySem.Str × D) → Prop
  | nil : RpF K F [] []
  | cons {k : PySem.Str} {v : V} {d : D} {vs : List (PySem.Str × V)} {ds : List (PySem.Str × D)} : Rp K F v d → RpF K F vs ds → RpF K F ((k, v) :: vs) ((k, d) :: ds)
end
/-! ### heaps -/
def emp : Hp := fun _ => none
def Dj (a b : Hp) : Prop := ∀ x, a x = none ∨ b x = none
def jn (a b : Hp) : Hp := fun x => match a x with | some o => some o | none => b x
theorem jn_none {a b : Hp} {x : Addr} : jn a b x = none ↔ a x = none ∧ b x = none := by
  unfold jn
  cases h : a x <;> simp
theorem jn_l {a b : Hp} {x : Addr} {o : HO} (h : a x = some o) : jn a b x = some o := by unfold jn; rw [h]
theorem jn_r {a b : Hp} {x : Addr} (h : a x = none) : jn a b x = b x := by unfold jn; rw [h]
theorem jn_some {a b : Hp} {x : Addr} {o : HO} (h : jn a b x = some o) : a x = some o ∨ (a x = none ∧ b x = some o) := by
  unfold jn at h
  cases q : a x with
  | none => rw [q] at h; exact .inr ⟨rfl, h⟩
  | some u => rw [q] at h; exact .inl h
theorem Dj.symm {a b : Hp} (h : Dj a b) : Dj b a := fun x => (h x).symm
theorem Dj.emp_l {a : Hp} : Dj emp a := fun _ => .inl rfl
theorem Dj.emp_r {a : Hp} : Dj a emp := fun _ => .inr rfl
theorem Dj.jn_l {a b c : Hp} (h1 : Dj a c) (h2 : Dj b c) : Dj (jn a b) c := fun x => by
  rcases h1 x with h | h
  · rcases h2 x with q | q
    · exact .inl (jn_none.mpr ⟨h, q⟩)
    · exact .inr q
  · exact .inr h
theorem Dj.jn_r {a b c : Hp} (h1 : Dj c a) (h2 : Dj c b) : Dj c (jn a b) := (Dj.jn_l h1.symm h2.symm).symm
theorem Dj.of_jn_l {a b c : Hp} (h : Dj (jn a b) c) : Dj a c := fun x => by
  rcases h x with q | q
  · exact .inl (jn_none.mp q).1
  · exact .inr q
theorem Dj.of_jn_r {a b c : Hp} (h : Dj (jn a b) c) : Dj b c := fun x => by
  rcases h x with q | q
  · exact .inl (jn_none.mp q).2
  · exact .inr q
theorem Dj.sub {a b a' : Hp} (h : Dj a b) (s : Same a' a) : Dj a' b := fun x => by
  cases q : a' x with
  | none => exact .inl rfl
  | some o =>
    rcases h x with z | z
    · rw [s _ _ q] at z; cases z
    · exact .inr z
theorem Dj.none {a b : Hp} (h : Dj a b) {x : Addr} {o : HO} (e : a x = some o) : b x = Option.none := by
  rcases h x with q | q
  · rw [e] at q; cases q
  · exact q
theorem Same.jn_l {a b : Hp} : Same a (jn a b) := fun _ _ e => M.jn_l e
theorem Same.jn_r {a b : Hp} (h : Dj a b) : Same b (jn a b) := fun x o e => by
  rw [M.jn_r (h.symm.none e)]; exact e
theorem Same.jn {a b H : Hp} (h1 : Same a H) (h2 : Same b H) : Same (jn a b) H := fun x o e => by
  rcases jn_some e with q | ⟨_, q⟩
  · exact h1 _ _ q
  · exact h2 _ _ q
theorem Same.emp {H : Hp} : Same emp H := fun _ _ e => nomatch (show (Option.none : Option HO) = some _ from e)
theorem same_new {H : Hp} {p : Addr} {o : HO} (h : H p = none) : Same H (upd H p o) := fun b x e => by
  rw [upd_ne (ne_of_none e h)]; exact e
theorem jn_comm {a b : Hp} (h : Dj a b) : jn a b = jn b a := by
  funext x
  unfold jn
  rcases h x with q | q
  · rw [q]; cases b x <;> rfl
  · rw [q]; cases a x <;> rfl
theorem jn_assoc {a b c : Hp} : jn (jn a b) c = jn a (jn b c) := by
  funext x
  unfold jn
  cases a x <;> rfl
theorem jn_emp {a : Hp} : jn a emp = a := by
  funext x
  unfold jn emp
  cases a x <;> rfl
theorem emp_jn {a : Hp} : jn emp a = a := by
  funext x
  rfl
theorem jn_upd_l {a b : Hp} {p : Addr} {o : HO} : upd (jn a b) p o = jn (upd a p o) b := by
  funext x
  unfold upd jn
  by_cases h : x = p
  · simp [h]
  · simp [h]
theorem jn_upd_r {a b : Hp} {p : Addr} {o : HO} (h : a p = none) : upd (jn a b) p o = jn a (upd b p o) := by
  funext x
  unfold upd jn
  by_cases hx : x = p
  · subst hx; simp [h]
  · simp [hx]
theorem Dj.upd {a b : Hp} {p : Addr} {o : HO} (h : Dj a b) (hb : b p = Option.none) : Dj (L2.upd a p o) b := fun x => by
  by_cases hx : x = p
  · subst hx; exact .inr hb
  · rw [upd_ne hx]; exact h x
theorem Dj.of_upd {a b : Hp} {p : Addr} {o : HO} (h : Dj (L2.upd a p o) b) : b p = Option.none := h.none upd_same
theorem Dj.un_upd {a b : Hp} {p : Addr} {o : HO} (h : Dj (L2.upd a p o) b) (ha : a p = Option.none) : Dj a b := h.sub (same_new ha)
/-- known of a is known of b, but for a lock -/
def Le (F F' : Hp) : Prop := ∀ a o, F a = some o → F' a = some o ∨ (∃ ob kvs, o = .dK kvs ∧ F' a = some (.frz ob (.dK kvs))) ∨ ∃ ob kvs, o = .frz ob (.dK kvs) ∧ F' a = some (.dK kvs)
theorem Le.of {F F' : Hp} (h : Same F F') : Le F F' := fun a o e => .inl (h a o e)
theorem Le.rdL {F F' : Hp} (e : Le F F') {a : Addr} {xs : List V} (h : Rd F a (.lst xs)) : Rd F' a (.lst xs) := by
  rcases h with h | ⟨o, h⟩
  · rcases e _ _ h with q | ⟨_, _, q, _⟩ | ⟨_, _, q, _⟩
    · exact .inl q
    · cases q
    · cases q
  · rcases e _ _ h with q | ⟨_, _, q, _⟩ | ⟨_, _, q, _⟩
    · exact .inr ⟨o, q⟩
    · cases q
    · cases q
theorem Le.rdT {F F' : Hp} (e : Le F F') {a : Addr} {xs : List V} (h : Rd F a (.tup xs)) : Rd F' a (.tup xs) := by
  rcases h with h | ⟨o, h⟩
  · rcases e _ _ h with q | ⟨_, _, q, _⟩ | ⟨_, _, q, _⟩
    · exact .inl q
    · cases q
    · cases q
  · rcases e _ _ h with q | ⟨_, _, q, _⟩ | ⟨_, _, q, _⟩
    · exact .inr ⟨o, q⟩
    · cases q
    · cases q
theorem Le.rdD {F F' : Hp} (e : Le F F') {a : Addr} {kvs : List (Key × V)} (h : Rd F a (.dK kvs)) : Rd F' a (.dK kvs) := by
  rcases h with h | ⟨o, h⟩
  · rcases e _ _ h with q | ⟨ob, _, q, z⟩ | ⟨_, _, q, _⟩
    · exact .inl q
    · cases q; exact .inr ⟨ob, z⟩
    · cases q
  · rcases e _ _ h with q | ⟨_, _, q, _⟩ | ⟨_, _, q, z⟩
    · exact .inr ⟨o, q⟩
    · cases q
    · cases q; exact .inl z
theorem Le.sqL {K : PySem.W.Frag} {F F' : Hp} (e : Le F F') {a : Addr} {xs : List V} (h : SqL K F a xs) : SqL K F' a xs := by
  rcases h with h | h
  · exact .inl (e.rdL h)
  · exact .inr h
theorem Le.sqT {K : PySem.W.Frag} {F F' : Hp} (e : Le F F') {a : Addr} {xs : List V} (h : SqT K F a xs) : SqT K F' a xs := by
  rcases h with h | h
  · exact .inl (e.rdT h)
  · exact .inr h
theorem Le.ins {F F' : Hp} (e : Le F F') {a C dx : Addr} {fs : List (PySem.Str × V)} (h : F a = some (.ins C dx fs)) : F' a = some (.ins C dx fs) := by
  rcases e _ _ h with q | ⟨_, _, q, _⟩ | ⟨_, _, q, _⟩
  · exact q
  · cases q
  · cases q
theorem Le.lst {F F' : Hp} (e : Le F F') {a : Addr} {vs : List V} (h : F a = some (.lst vs)) : F' a = some (.lst vs) := by
  rcases e _ _ h with q | ⟨_, _, q, _⟩ | ⟨_, _, q, _⟩
  · exact q
  · cases q
  · cases q
theorem Le.own {F F' : Hp} (e : Le F F') {a x : Addr} (h : F a = some (.own x)) : F' a = some (.own x) := by
  rcases e _ _ h with q | ⟨_, _, q, _⟩ | ⟨_, _, q, _⟩
  · exact q
  · cases q
  · cases q
theorem Le.exh {F F' : Hp} (e : Le F F') {a x : Addr} {c : Value} (h : F a = some (ExH c x)) : F' a = some (ExH c x) := by
  rcases e _ _ h with q | ⟨_, _, q, _⟩ | ⟨_, _, q, _⟩
  · exact q
  · cases q
  · cases q
mutual
theorem Rp.le {K : PySem.W.Frag} {F F' : Hp} (e : Le F F') : ∀ {v : V} {d : D}, Rp K F v d → Rp K F' v d
  | _, _, .non => .non
  | _, _, .bl b => .bl b
  | _, _, .int i => .int i
  | _, _, .str x => .str x
  | _, _, .lst h r => .lst (e.lst h) (RpL.le e r)
  | _, _, .sq h r => .sq (e.sqL h) (RpL.le e r)
  | _, _, .tup h r => .tup (e.sqT h) (RpL.le e r)
  | _, _, .dic h r => .dic (e.rdD h) (RpK.le e r)
  | _, _, .obj h g r => .obj (e.ins h) (e.own g) (RpF.le e r)
  | _, _, .exc h => .exc (e.exh h)
  | _, _, .raw v => .raw v
theorem RpL.le {K : PySem.W.Frag} {F F' : Hp} (e : Le F F') : ∀ {v : List V} {d : List D}, RpL K F v d → RpL K F' v d
  | _, _, .nil => .nil
  | _, _, .cons h r => .cons (Rp.le e h) (RpL.le e r)
theorem RpK.le {K : PySem.W.Frag} {F F' : Hp} (e : Le F F') : ∀ {v : List (Key × V)} {d : List (Key × D)}, RpK K F v d → RpK K F' v d
  | _, _, .nil => .nil
  | _, _, .cons h r => .cons (Rp.le e h) (RpK.le e r)
theorem RpF.le {K : PySem.W.Frag} {F F' : Hp} (e : Le F F') : ∀ {v : List (PySem.Str × V)} {d : List (PySem.Str × D)}, RpF K F v d → RpF K F' v d
  | _, _, .nil => .nil
  | _, _, .cons h r => .cons (Rp.le e h) (RpF.le e r)
end
theorem Rp.up {K : PySem.W.Frag} {F F' : Hp} {v : V} {d : D} (h : Rp K F v d) (e : Same F F') : Rp K F' v d := Rp.le (Le.of e) h
theorem RpL.up {K : PySem.W.Frag} {F F' : Hp} {v : List V} {d : List D} (h : RpL K F v d) (e : Same F F') : RpL K F' v d := RpL.le (Le.of e) h
theorem RpK.up {K : PySem.W.Frag} {F F' : Hp} {v : List (Key × V)} {d : List (Key × D)} (h : RpK K F v d) (e : Same F F') : RpK K F' v d := RpK.le (Le.of e) h
theorem RpF.up {K : PySem.W.Frag} {F F' : Hp} {v : List (PySem.Str × V)} {d : List (PySem.Str × D)} (h : RpF K F v d) (e : Same F F') : RpF K F' v d := RpF.le (Le.of e) h
/-! ### dicts whose keys are pairs of rows of numbers -/
def nrow (a : List Nat) : NestedKey := .tup (a.map fun i : Nat => NestedKey.num (i : Int))
def nkey (k : List Nat × List Nat) : NestedKey := .tup [nrow k.1, nrow k.2]
def rowT (a : List Nat) : D := .tup (a.map fun i : Nat => D.int (i : Int))
def keyT (k : List Nat × List Nat) : D := .tup [rowT k.1, rowT k.2]
def NdO (p : Addr) (xs : List (NestedKey × Addr × Value)) : HO := .ext fun h => xs.length ≤ sizeLine ∧ (p == sysModules) = false ∧
  ∃ o es ep, h.get? p = some o ∧ o.ExactDict ∧ o.data = .dict es ep ∧ (∀ (P : Program) (w : World), es.toList = xs.map (entryOfKey (nestedKind P w))) ∧ (xs.map (·.1)).Nodup
inductive NdK (K : PySem.W.Frag) (F : Hp) : List (NestedKey × Addr × Value) → List (List Nat × List Nat) → Prop
  | nil : NdK K F [] []
  | cons {a : Addr} {k : List Nat × List Nat} {xs : List (NestedKey × Addr × Value)} {ks : List (List Nat × List Nat)} : Rp K F (.ref a) (keyT k) → NdK K F xs ks → NdK K F ((nkey k, a, .bool true) :: xs) (k :: ks)
theorem NdK.le {K : PySem.W.Frag} {F F' : Hp} (e : Le F F') {xs : List (NestedKey × Addr × Value)} {ks : List (List Nat × List Nat)} (h : NdK K F xs ks) : NdK K F' xs ks := by
  induction h with
  | nil => exact .nil
  | cons r _ ih => exact .cons (r.le e) ih
/-! ### owned trees -/
inductive T where
  | nd (p : Addr) (ks : List (List Nat × List Nat))
  | lf (d : D)
  | lst (ts : List T)
  | tup (ts : List T)
  | dic (kvs : List (Key × T))
  | obj (C : Addr) (fs : List (PySem.Str × T))
mutual
inductive OwT (K : PySem.W.Frag) (F : Hp) : V → Hp → T → Prop
  | nd {p : Addr} {xs : List (NestedKey × Addr × Value)} {ks : List (List Nat × List Nat)} : NdK K F xs ks → OwT K F (.ref p) (upd emp p (NdO p xs)) (.nd p ks)
  | lf {v : V} {d : D} : Rp K F v d → OwT K F v emp (.lf d)
  | lst {p : Addr} {vs : List V} {h : Hp} {ts : List T} : OwL K F vs h ts → h p = none → OwT K F (.ref p) (upd h p (.lst vs)) (.lst ts)
  | tup {p : Addr} {vs : List V} {h : Hp} {ts : List T} : OwL K F vs h ts → h p = none → OwT K F (.ref p) (upd h p (.tup vs)) (.tup ts)
  | dic {p : Addr} {kvs : List (Key × V)} {h : Hp} {kts : List (Key × T)} : OwK K F kvs h kts → h p = none → OwT K F (.ref p) (upd h p (.dK kvs)) (.dic kts)
  | obj {p dx C : Addr} {fvs : List (PySem.Str × V)} {h : Hp} {fts : List (PySem.Str × T)} : OwF K F fvs h fts → h p = none → h dx = none → dx ≠ p → OwT K F (.ref p) (upd (upd h dx (.own p)) p (.ins C dx fvs)) (.obj C fts)
inductive OwL (K : PySem.W.Frag) (F : Hp) : List V → Hp → List T → Prop
  | nil : OwL K F [] emp []
  | cons {v : V} {vs : List V} {h1 h2 : Hp} {t : T} {ts : List T} : OwT K F v h1 t → OwL K F vs h2 ts → Dj h1 h2 → OwL K F (v :: vs) (jn h1 h2) (t :: ts)
inductive OwK (K : PySem.W.Frag) (F : Hp) : List (Key × V) → Hp → List (Key × T) → Prop
  | nil : OwK K F [] emp []
  | cons {k : Key} {v : V} {vs : List (Key × V)} {h1 h2 : Hp} {t : T} {ts : List (Key × T)} : OwT K F v h1 t → OwK K F vs h2 ts → Dj h1 h2 → OwK K F ((k, v) :: vs) (jn h1 h2) ((k, t) :: ts)
inductive OwF (K : PySem.W.Frag) (F : Hp) : List (PySem.Str × V) → Hp → List (PySem.Str × T) → Prop
  | nil : OwF K F [] emp []
  | cons {k : PySem.Str} {v : V} {vs : List (PySem.Str × V)} {h1 h2 : Hp} {t : T} {ts : List (PySem.Str × T)} : OwT K F v h1 t → OwF K F vs h2 ts → Dj h1 h2 → OwF K F ((k, v) :: vs) (jn h1 h2) ((k, t) :: ts)
end
mutual
theorem OwT.le {K : PySem.W.Frag} {F F' : Hp} (e : Le F F') : ∀ {v : V} {h : Hp} {t : T}, OwT K F v h t → OwT K F' v h t
  | _, _, _, .nd r => .nd (r.le e)
  | _, _, _, .lf r => .lf (r.le e)
  | _, _, _, .lst r n => .lst (OwL.le e r) n
  | _, _, _, .tup r n => .tup (OwL.le e r) n
  | _, _, _, .dic r n => .dic (OwK.le e r) n
  | _, _, _, .obj r n m q => .obj (OwF.le e r) n m q
theorem OwL.le {K : PySem.W.Frag} {F F' : Hp} (e : Le F F') : ∀ {v : List V} {h : Hp} {t : List T}, OwL K F v h t → OwL K F' v h t
  | _, _, _, .nil => .nil
  | _, _, _, .cons r s d => .cons (OwT.le e r) (OwL.le e s) d
theorem OwK.le {K : PySem.W.Frag} {F F' : Hp} (e : Le F F') : ∀ {v : List (Key × V)} {h : Hp} {t : List (Key × T)}, OwK K F v h t → OwK K F' v h t
  | _, _, _, .nil => .nil
  | _, _, _, .cons r s d => .cons (OwT.le e r) (OwK.le e s) d
theorem OwF.le {K : PySem.W.Frag} {F F' : Hp} (e : Le F F') : ∀ {v : List (PySem.Str × V)} {h : Hp} {t : List (PySem.Str × T)}, OwF K F v h t → OwF K F' v h t
  | _, _, _, .nil => .nil
  | _, _, _, .cons r s d => .cons (OwT.le e r) (OwF.le e s) d
end
/-! ### what the slots hold -/
inductive MV where
  | un
  | fz (d : D)
  | ot (p : Addr) (t : T)
inductive OwS (K : PySem.W.Frag) (F : Hp) : List MV → List (Option V) → Hp → Prop
  | nil : OwS K F [] [] emp
  | un {ms : List MV} {o : Option V} {σ : List (Option V)} {h : Hp} : OwS K F ms σ h → OwS K F (.un :: ms) (o :: σ) h
  | fz {ms : List MV} {v : V} {d : D} {σ : List (Option V)} {h : Hp} : Rp K F v d → OwS K F ms σ h → OwS K F (.fz d :: ms) (some v :: σ) h
  | ot {ms : List MV} {p : Addr} {t : T} {σ : List (Option V)} {h1 h2 : Hp} : OwT K F (.ref p) h1 t → OwS K F ms σ h2 → Dj h1 h2 → OwS K F (.ot p t :: ms) (some (.ref p) :: σ) (jn h1 h2)
theorem OwS.le {K : PySem.W.Frag} {F F' : Hp} (e : Le F F') {ms : List MV} {σ : List (Option V)} {h : Hp} (x : OwS K F ms σ h) : OwS K F' ms σ h := by
  induction x with
  | nil => exact .nil
  | un _ ih => exact .un ih
  | fz r _ ih => exact .fz (r.le e) ih
  | ot r _ d ih => exact .ot (r.le e) ih d
theorem OwS.up {K : PySem.W.Frag} {F F' : Hp} {ms : List MV} {σ : List (Option V)} {h : Hp} (x : OwS K F ms σ h) (e : Same F F') : OwS K F' ms σ h := x.le (Le.of e)
theorem OwS.length {K : PySem.W.Frag} {F : Hp} {ms : List MV} {σ : List (Option V)} {h : Hp} (x : OwS K F ms σ h) : ms.length = σ.length := by
  induction x with
  | nil => rfl
  | un _ ih => simp [ih]
  | fz _ _ ih => simp [ih]
  | ot _ _ _ ih => simp [ih]
theorem OwS.join {K : PySem.W.Frag} {F : Hp} {a b : List MV} {s t : List (Option V)} {h1 h2 : Hp} (x : OwS K F a s h1) (y : OwS K F b t h2) (d : Dj h1 h2) : OwS K F (a ++ b) (s ++ t) (jn h1 h2) := by
  induction x with
  | nil => rw [emp_jn]; exact y
  | un _ ih => exact .un (ih d)
  | fz r _ ih => exact .fz r (ih d)
  | ot r _ e ih =>
    rw [jn_assoc]
    exact .ot r (ih d.of_jn_r) (e.jn_r d.of_jn_l)
theorem OwS.split {K : PySem.W.Frag} {F : Hp} : ∀ {a b : List MV} {s t : List (Option V)} {h : Hp}, a.length = s.length → OwS K F (a ++ b) (s ++ t) h → ∃ h1 h2, OwS K F a s h1 ∧ OwS K F b t h2 ∧ Dj h1 h2 ∧ h = jn h1 h2
  | [], b, [], t, h, _, x => ⟨emp, h, .nil, x, Dj.emp_l, emp_jn.symm⟩
  | [], _, _ :: _, _, _, e, _ => by simp at e
  | _ :: _, _, [], _, _, e, _ => by simp at e
  | m :: a, b, o :: s, t, h, e, x => by
    have e' : a.length = s.length := by simpa using e
    cases x with
    | un y =>
      obtain ⟨h1, h2, p, q, d, r⟩ := OwS.split e' y
      exact ⟨h1, h2, .un p, q, d, r⟩
    | fz w y =>
      obtain ⟨h1, h2, p, q, d, r⟩ := OwS.split e' y
      exact ⟨h1, h2, .fz w p, q, d, r⟩
    | ot w y dd =>
      obtain ⟨h1, h2, p, q, d, r⟩ := OwS.split e' y
      rename_i g1 g2
      subst r
      refine ⟨jn g1 h1, h2, .ot w p (dd.symm.of_jn_l).symm, q, ?_, jn_assoc.symm⟩
      exact Dj.jn_l (dd.symm.of_jn_r).symm d
end M
namespace M
open PySem L2
/-! ### the state: G is kept, F is known for good, the slots own the rest -/
structure St (K : PySem.W.Frag) (G F H : Hp) (ms : List MV) (σ : List (Option V)) : Prop where
  g : Same G H
  f : Same F H
  fg : Dj F G
  own : ∃ h, OwS K F ms σ h ∧ Same h H ∧ Dj h F ∧ Dj h G
/-- new things only -/
inductive Gr (F H : Hp) : Hp → Hp → Prop
  | refl : Gr F H F H
  | new {F1 H1 : Hp} {p : Addr} {o : HO} : Gr F H F1 H1 → H1 p = none → Gr F H (upd F1 p o) (upd H1 p o)
section
variable {K : PySem.W.Frag} {G F H F' H' : Hp} {ms : List MV} {σ : List (Option V)}
theorem St.len (S : St K G F H ms σ) : ms.length = σ.length := by
  obtain ⟨h, x, _⟩ := S.own
  exact x.length
theorem St.new {p : Addr} {o : HO} (S : St K G F H ms σ) (hp : H p = none) : St K G (upd F p o) (upd H p o) ms σ := by
  have hF : F p = none := S.f.free hp
  have hG : G p = none := S.g.free hp
  obtain ⟨h, x, sh, d1, d2⟩ := S.own
  have hh : h p = none := sh.free hp
  refine ⟨S.g.trans (same_new hp), ?_, S.fg.upd hG, h, x.up (same_new hF), sh.trans (same_new hp), (d1.symm.upd hh).symm, d2⟩
  intro b u e
  by_cases hb : b = p
  · subst hb; rw [upd_same] at e ⊢; exact e
  · rw [upd_ne hb] at e ⊢; exact S.f _ _ e
theorem Gr.same (g : Gr F H F' H') (s : Same F H) : Same F F' ∧ Same H H' ∧ Same F' H' := by
  induction g with
  | refl => exact ⟨Same.refl _, Same.refl _, s⟩
  | new g hp ih =>
    rename_i F1 H1 p o
    obtain ⟨a, b, c⟩ := ih
    have hF : F1 p = none := c.free hp
    refine ⟨a.trans (same_new hF), b.trans (same_new hp), fun q u e => ?_⟩
    by_cases hq : q = p
    · subst hq; rw [upd_same] at e ⊢; exact e
    · rw [upd_ne hq] at e ⊢; exact c _ _ e
theorem St.gr (S : St K G F H ms σ) (g : Gr F H F' H') : St K G F' H' ms σ := by
  induction g with
  | refl => exact S
  | new g hp ih => exact ih.new hp
/-- an object that no one knows is owned by a new slot -/
theorem St.newOwn {p : Addr} {o : HO} {t : T} (S : St K G F H ms σ) (hp : H p = none) (ht : OwT K F (.ref p) (upd emp p o) t) : St K G F (upd H p o) (.ot p t :: ms) (some (.ref p) :: σ) := by
  have hF : F p = none := S.f.free hp
  have hG : G p = none := S.g.free hp
  obtain ⟨h, x, sh, d1, d2⟩ := S.own
  have hh : h p = none := sh.free hp
  have dj : Dj (upd emp p o) h := Dj.emp_l.upd hh
  refine ⟨S.g.trans (same_new hp), S.f.trans (same_new hp), S.fg, jn (upd emp p o) h, .ot ht x dj, ?_, Dj.jn_l (Dj.emp_l.upd hF) d1, Dj.jn_l (Dj.emp_l.upd hG) d2⟩
  refine Same.jn (fun b u e => ?_) (sh.trans (same_new hp))
  by_cases hb : b = p
  · subst hb; rw [upd_same] at e ⊢; exact e
  · rw [upd_ne hb] at e; cases e
theorem OwS.get {h : Hp} {i : Nat} {d : D} (x : OwS K F ms σ h) (e : ms[i]? = some (.fz d)) : ∃ v, σ[i]? = some (some v) ∧ Rp K F v d := by
  induction x generalizing i with
  | nil => simp at e
  | un _ ih =>
    cases i with
    | zero => simp at e
    | succ i => simpa using ih (by simpa using e)
  | fz r _ ih =>
    cases i with
    | zero => simp at e; subst e; exact ⟨_, rfl, r⟩
    | succ i => simpa using ih (by simpa using e)
  | ot _ _ _ ih =>
    cases i with
    | zero => simp at e
    | succ i => simpa using ih (by simpa using e)
theorem OwS.getO {h : Hp} {i : Nat} {p : Addr} {t : T} (x : OwS K F ms σ h) (e : ms[i]? = some (.ot p t)) : σ[i]? = some (some (.ref p)) := by
  induction x generalizing i with
  | nil => simp at e
  | un _ ih =>
    cases i with
    | zero => simp at e
    | succ i => simpa using ih (by simpa using e)
  | fz r _ ih =>
    cases i with
    | zero => simp at e
    | succ i => simpa using ih (by simpa using e)
  | ot _ _ _ ih =>
    cases i with
    | zero => simp at e; obtain ⟨rfl, rfl⟩ := e; rfl
    | succ i => simpa using ih (by simpa using e)
theorem St.get {i : Nat} {d : D} (S : St K G F H ms σ) (e : ms[i]? = some (.fz d)) : ∃ v, σ[i]? = some (some v) ∧ Rp K F v d := by
  obtain ⟨h, x, _⟩ := S.own
  exact x.get e
theorem St.getO {i : Nat} {p : Addr} {t : T} (S : St K G F H ms σ) (e : ms[i]? = some (.ot p t)) : σ[i]? = some (some (.ref p)) := by
  obtain ⟨h, x, _⟩ := S.own
  exact x.getO e
/-- one slot apart from the others -/
theorem OwS.focus {h : Hp} {i : Nat} {p : Addr} {t : T} (x : OwS K F ms σ h) (e : ms[i]? = some (.ot p t)) : ∃ h1 h2, h = jn h1 h2 ∧ Dj h1 h2 ∧ OwT K F (.ref p) h1 t ∧
    (∀ F' h1' t', Le F F' → OwT K F' (.ref p) h1' t' → Dj h1' h2 → OwS K F' (ms.set i (.ot p t')) σ (jn h1' h2)) ∧ (∀ F' d, Le F F' → Rp K F' (.ref p) d → OwS K F' (ms.set i (.fz d)) σ h2) := by
  induction x generalizing i with
  | nil => simp at e
  | un x ih =>
    cases i with
    | zero => simp at e
    | succ i =>
      obtain ⟨h1, h2, a, b, c, d, f⟩ := ih (i := i) (by simpa using e)
      exact ⟨h1, h2, a, b, c, fun F' h1' t' l o q => .un (d F' h1' t' l o q), fun F' dd l o => .un (f F' dd l o)⟩
  | fz r x ih =>
    cases i with
    | zero => simp at e
    | succ i =>
      obtain ⟨h1, h2, a, b, c, d, f⟩ := ih (i := i) (by simpa using e)
      exact ⟨h1, h2, a, b, c, fun F' h1' t' l o q => .fz (r.le l) (d F' h1' t' l o q), fun F' dd l o => .fz (r.le l) (f F' dd l o)⟩
  | ot w x dj ih =>
    rename_i ms0 p0 t0 σ0 g1 g2
    cases i with
    | zero =>
      simp at e
      obtain ⟨rfl, rfl⟩ := e
      exact ⟨g1, g2, rfl, dj, w, fun F' h1' t' l o q => .ot o (x.le l) q, fun F' dd l o => .fz o (x.le l)⟩
    | succ i =>
      obtain ⟨h1, h2, a, b, c, d, f⟩ := ih (i := i) (by simpa using e)
      subst a
      have d1 : Dj g1 h1 := (dj.symm.of_jn_l).symm
      have d2 : Dj g1 h2 := (dj.symm.of_jn_r).symm
      refine ⟨h1, jn g1 h2, ?_, Dj.jn_r d1.symm b, c, fun F' h1' t' l o q => ?_, fun F' dd l o => ?_⟩
      · rw [← jn_assoc, jn_comm d1, jn_assoc]
      · have q1 : Dj g1 h1' := q.symm.of_jn_l
        have q2 : Dj h1' h2 := (q.symm.of_jn_r).symm
        have z := OwS.ot (w.le l) (d F' h1' t' l o q2) (Dj.jn_r q1 d2)
        rw [← jn_assoc, jn_comm q1, jn_assoc] at z
        exact z
      · exact .ot (w.le l) (f F' dd l o) d2
theorem OwS.drop {h : Hp} {m : MV} {o : Option V} (x : OwS K F (m :: ms) (o :: σ) h) : ∃ h', OwS K F ms σ h' ∧ Same h' h := by
  cases x with
  | un x => exact ⟨_, x, Same.refl _⟩
  | fz _ x => exact ⟨_, x, Same.refl _⟩
  | ot _ x d => exact ⟨_, x, Same.jn_r d⟩
theorem St.sub {ms' : List MV} {σ' : List (Option V)} (S : St K G F H ms σ) (k : ∀ h, OwS K F ms σ h → ∃ h', OwS K F ms' σ' h' ∧ Same h' h) : St K G F H ms' σ' := by
  obtain ⟨h, x, sh, d1, d2⟩ := S.own
  obtain ⟨h', x', s'⟩ := k h x
  exact ⟨S.g, S.f, S.fg, h', x', s'.trans sh, d1.sub s', d2.sub s'⟩
theorem St.tail {m : MV} {o : Option V} (S : St K G F H (m :: ms) (o :: σ)) : St K G F H ms σ := S.sub fun _ x => x.drop
theorem St.pushF {v : V} {d : D} (S : St K G F H ms σ) (r : Rp K F v d) : St K G F H (.fz d :: ms) (some v :: σ) := S.sub fun h x => ⟨h, .fz r x, Same.refl _⟩
theorem St.headF {v : V} {d : D} (S : St K G F H (.fz d :: ms) (some v :: σ)) : Rp K F v d := by
  obtain ⟨h, x, _⟩ := S.own
  cases x with
  | fz r _ => exact r
theorem St.headO {v : V} {p : Addr} {t : T} (S : St K G F H (.ot p t :: ms) (some v :: σ)) : v = .ref p := by
  obtain ⟨h, x, _⟩ := S.own
  cases x with
  | ot _ _ _ => rfl
/-- the first goes to the place i -/
theorem OwS.move {m : MV} {o : Option V} : ∀ {ms : List MV} {σ : List (Option V)} {h : Hp} (i : Nat), OwS K F (m :: ms) (o :: σ) h → ∃ h', OwS K F (ms.set i m) (σ.set i o) h' ∧ Same h' h
  | [], σ, h, i, x => by
    obtain ⟨h', y, s⟩ := x.drop
    cases y
    exact ⟨emp, .nil, s⟩
  | m0 :: ms, σ, h, 0, x => by
    cases x with
    | un y =>
      cases σ with
      | nil => exact absurd y.length (by simp)
      | cons o0 σ =>
        obtain ⟨h', z, s⟩ := y.drop
        exact ⟨h', .un z, s⟩
    | fz r y =>
      cases σ with
      | nil => exact absurd y.length (by simp)
      | cons o0 σ =>
        obtain ⟨h', z, s⟩ := y.drop
        exact ⟨h', .fz r z, s⟩
    | ot r y d =>
      cases σ with
      | nil => exact absurd y.length (by simp)
      | cons o0 σ =>
        obtain ⟨h', z, s⟩ := y.drop
        refine ⟨_, .ot r z (d.symm.sub s).symm, ?_⟩
        exact Same.jn Same.jn_l (s.trans (Same.jn_r d))
  | m0 :: ms, σ, h, i + 1, x => by
    -- the pair m, m0 is turned
    have sw : ∃ o0 σ0 g, σ = o0 :: σ0 ∧ OwS K F (m0 :: m :: ms) (o0 :: o :: σ0) g ∧ Same g h := by
      cases x with
      | un y =>
        cases y with
        | un z => exact ⟨_, _, _, rfl, .un (.un z), Same.refl _⟩
        | fz r z => exact ⟨_, _, _, rfl, .fz r (.un z), Same.refl _⟩
        | ot r z d => exact ⟨_, _, _, rfl, .ot r (.un z) d, Same.refl _⟩
      | fz r' y =>
        cases y with
        | un z => exact ⟨_, _, _, rfl, .un (.fz r' z), Same.refl _⟩
        | fz r z => exact ⟨_, _, _, rfl, .fz r (.fz r' z), Same.refl _⟩
        | ot r z d => exact ⟨_, _, _, rfl, .ot r (.fz r' z) d, Same.refl _⟩
      | ot r' y d' =>
        cases y with
        | un z => exact ⟨_, _, _, rfl, .un (.ot r' z d'), Same.refl _⟩
        | fz r z => exact ⟨_, _, _, rfl, .fz r (.ot r' z d'), Same.refl _⟩
        | ot r z d =>
          have e1 := (d'.symm.of_jn_l).symm
          have e2 := (d'.symm.of_jn_r).symm
          refine ⟨_, _, _, rfl, .ot r (.ot r' z e2) (Dj.jn_r e1.symm d), ?_⟩
          rw [← jn_assoc, jn_comm e1.symm, jn_assoc]
          exact Same.refl _
    obtain ⟨o0, σ0, g, rfl, y, s⟩ := sw
    cases y with
    | un z =>
      obtain ⟨h', w, s'⟩ := OwS.move i z
      exact ⟨h', .un w, s'.trans s⟩
    | fz r z =>
      obtain ⟨h', w, s'⟩ := OwS.move i z
      exact ⟨h', .fz r w, s'.trans s⟩
    | ot r z d =>
      obtain ⟨h', w, s'⟩ := OwS.move i z
      exact ⟨_, .ot r w (d.symm.sub s').symm, (Same.jn Same.jn_l (s'.trans (Same.jn_r d))).trans s⟩
theorem St.move {m : MV} {o : Option V} (S : St K G F H (m :: ms) (o :: σ)) (i : Nat) : St K G F H (ms.set i m) (σ.set i o) := S.sub fun _ x => x.move i
theorem St.setF {v : V} {d : D} (S : St K G F H ms σ) (r : Rp K F v d) (i : Nat) : St K G F H (ms.set i (.fz d)) (σ.set i (some v)) := (S.pushF r).move i
theorem St.setU {o : Option V} (S : St K G F H ms σ) (i : Nat) : St K G F H (ms.set i .un) (σ.set i o) := (S.sub (ms' := .un :: ms) (σ' := o :: σ) fun h x => ⟨h, .un x, Same.refl _⟩).move i
/-- some of it is lent: the rest is kept -/
theorem St.lend {a b : List MV} {s t : List (Option V)} (hl : a.length = s.length) (S : St K G F H (a ++ b) (s ++ t)) :
    ∃ G', St K G' F H a s ∧ ∀ F1 H1 a' s', Same F F1 → St K G' F1 H1 a' s' → St K G F1 H1 (a' ++ b) (s' ++ t) := by
  obtain ⟨h, x, sh, d1, d2⟩ := S.own
  obtain ⟨h1, h2, x1, x2, dj, rfl⟩ := x.split hl
  have s1 : Same h1 H := Same.jn_l.trans sh
  have s2 : Same h2 H := (Same.jn_r dj).trans sh
  refine ⟨jn G h2, ⟨Same.jn S.g s2, S.f, Dj.jn_r S.fg d1.of_jn_r.symm, h1, x1, s1, d1.of_jn_l, Dj.jn_r d2.of_jn_l dj⟩, fun F1 H1 a' s' e S1 => ?_⟩
  obtain ⟨h1', y, sy, e1, e2⟩ := S1.own
  have gh : Dj G h2 := d2.of_jn_r.symm
  have c1 : Dj F1 G := (S1.fg.symm.of_jn_l).symm
  have c2 : Dj F1 h2 := (S1.fg.symm.of_jn_r).symm
  have c3 : Dj h1' h2 := (e2.symm.of_jn_r).symm
  have c4 : Dj h1' G := (e2.symm.of_jn_l).symm
  exact ⟨Same.jn_l.trans S1.g, S1.f, c1, jn h1' h2, y.join (x2.up e) c3, Same.jn sy ((Same.jn_r gh).trans S1.g), Dj.jn_l e1 c2.symm, Dj.jn_l c4 gh.symm⟩
end
end M
namespace M
open PySem L2
abbrev XP := Value → List MV → Prop
abbrev noX : XP := fun _ _ => False
section
variable (K : PySem.W.Frag) (n : Nat)
/-- an expression gives data d and leaves the slots ms': P d ms' -/
def wpD (te : WX → TE) (ms : List MV) (P : D → List MV → Prop) (X : XP) : Prop :=
  ∀ (W : WX) (G F H : Hp) (σ gv : List (Option V)) (Q : VK), σ.length = n → St K G F H ms (σ ++ gv) →
    (∀ d v ms' gv' F' H', P d ms' → St K G F' H' ms' (σ ++ gv') → Rp K F' v d → Same F F' → Q v H') →
    (∀ c ms' gv' F' H', X c ms' → St K G F' H' ms' (σ ++ gv') → Same F F' → W c none σ H') → te W σ H Q
/-- an expression gives a new owned thing -/
def wpN (te : WX → TE) (ms : List MV) (P : Addr → T → List MV → Prop) (X : XP) : Prop :=
  ∀ (W : WX) (G F H : Hp) (σ gv : List (Option V)) (Q : VK), σ.length = n → St K G F H ms (σ ++ gv) →
    (∀ p t ms' gv' F' H', P p t ms' → St K G F' H' (.ot p t :: ms') (some (.ref p) :: (σ ++ gv')) → Same F F' → Q (.ref p) H') →
    (∀ c ms' gv' F' H', X c ms' → St K G F' H' ms' (σ ++ gv') → Same F F' → W c none σ H') → te W σ H Q
def wpT (tt : WX → TT) (ms : List MV) (P : Bool → List MV → Prop) (X : XP) : Prop :=
  ∀ (W : WX) (G F H : Hp) (σ gv : List (Option V)) (Q : Bool → Hp → Prop), σ.length = n → St K G F H ms (σ ++ gv) →
    (∀ b ms' gv' F' H', P b ms' → St K G F' H' ms' (σ ++ gv') → Same F F' → Q b H') →
    (∀ c ms' gv' F' H', X c ms' → St K G F' H' ms' (σ ++ gv') → Same F F' → W c none σ H') → tt W σ H Q
def wpA (ta : WX → TA) (ms : List MV) (P : List D → List MV → Prop) (X : XP) : Prop :=
  ∀ (W : WX) (G F H : Hp) (σ gv : List (Option V)) (Q : List V → Hp → Prop), σ.length = n → St K G F H ms (σ ++ gv) →
    (∀ ds vs ms' gv' F' H', P ds ms' → St K G F' H' ms' (σ ++ gv') → RpL K F' vs ds → Same F F' → Q vs H') →
    (∀ c ms' gv' F' H', X c ms' → St K G F' H' ms' (σ ++ gv') → Same F F' → W c none σ H') → ta W σ H Q
def wpS (ts : WX → TS) (ms : List MV) (N : List MV → Prop) (R : MV → List MV → Prop) (X : XP) : Prop :=
  ∀ (W : WX) (G F H : Hp) (σ gv : List (Option V)) (E : Ends), σ.length = n → St K G F H ms (σ ++ gv) →
    (∀ ms' σ' gv' F' H', N ms' → σ'.length = n → St K G F' H' ms' (σ' ++ gv') → Same F F' → E.nx σ' H') →
    (∀ m v ms' σ' gv' F' H', R m ms' → σ'.length = n → St K G F' H' (m :: ms') (some v :: (σ' ++ gv')) → Same F F' → E.rt v H') →
    (∀ c ms' σ' gv' F' H', X c ms' → σ'.length = n → St K G F' H' ms' (σ' ++ gv') → Same F F' → W c none σ' H') → ts W E σ H
end
section
variable {K : PySem.W.Frag} {n : Nat} {ms : List MV} {X : XP}
/-! ### consequence -/
theorem wpD.mono {te : WX → TE} {P P' : D → List MV → Prop} {X' : XP} (h : wpD K n te ms P X) (hp : ∀ d ms', P d ms' → P' d ms') (hx : ∀ c ms', X c ms' → X' c ms') : wpD K n te ms P' X' :=
  fun W G F H σ gv Q hn S k x => h W G F H σ gv Q hn S (fun d v ms' gv' F' H' p => k d v ms' gv' F' H' (hp _ _ p)) fun c ms' gv' F' H' p => x c ms' gv' F' H' (hx _ _ p)
theorem wpT.mono {te : WX → TT} {P P' : Bool → List MV → Prop} {X' : XP} (h : wpT K n te ms P X) (hp : ∀ d ms', P d ms' → P' d ms') (hx : ∀ c ms', X c ms' → X' c ms') : wpT K n te ms P' X' :=
  fun W G F H σ gv Q hn S k x => h W G F H σ gv Q hn S (fun d ms' gv' F' H' p => k d ms' gv' F' H' (hp _ _ p)) fun c ms' gv' F' H' p => x c ms' gv' F' H' (hx _ _ p)
theorem wpS.mono {ts : WX → TS} {N N' : List MV → Prop} {R R' : MV → List MV → Prop} {X' : XP} (h : wpS K n ts ms N R X) (hn : ∀ ms', N ms' → N' ms') (hr : ∀ m ms', R m ms' → R' m ms') (hx : ∀ c ms', X c ms' → X' c ms') : wpS K n ts ms N' R' X' :=
  fun W G F H σ gv E hl S k r x => h W G F H σ gv E hl S (fun ms' σ' gv' F' H' p => k ms' σ' gv' F' H' (hn _ p)) (fun m v ms' σ' gv' F' H' p => r m v ms' σ' gv' F' H' (hr _ _ p)) fun c ms' σ' gv' F' H' p => x c ms' σ' gv' F' H' (hx _ _ p)
/-! ### names, constants -/
theorem get_app {σ gv : List (Option V)} {i : Nat} {o : Option V} (hi : i < σ.length) (h : (σ ++ gv)[i]? = some o) : σ[i]? = some o := by
  rwa [List.getElem?_append_left hi] at h
theorem wd_var {i : Nat} {d : D} {P : D → List MV → Prop} (e : ms[i]? = some (.fz d)) (hi : i < n) (h : P d ms) : wpD K n (fun _ => tVar i) ms P X := by
  intro W G F H σ gv Q hn S k _
  obtain ⟨v, hv, r⟩ := S.get e
  exact ⟨v, get_app (by omega) hv, k d v ms gv F H h S r (Same.refl _)⟩
/-- the name of an owned thing -/
theorem wd_varO {i : Nat} {p : Addr} {t : T} {P : D → List MV → Prop} (e : ms[i]? = some (.ot p t)) (hi : i < n) (h : P (.raw (.ref p)) ms) : wpD K n (fun _ => tVar i) ms P X := by
  intro W G F H σ gv Q hn S k _
  have hv := S.getO e
  exact ⟨.ref p, get_app (by omega) hv, k _ _ ms gv F H h S (.raw _) (Same.refl _)⟩
theorem wd_c {v : V} {d : D} {P : D → List MV → Prop} (r : ∀ F, Rp K F v d) (h : P d ms) : wpD K n (fun _ => tC v) ms P X := by
  intro W G F H σ gv Q hn S k _
  exact k d v ms gv F H h S (r F) (Same.refl _)
theorem wd_int {i : Int} {P : D → List MV → Prop} (h : P (.int i) ms) : wpD K n (fun _ => tC (.int i)) ms P X := wd_c (fun _ => .int i) h
theorem wd_str {i : PySem.Str} {P : D → List MV → Prop} (h : P (.str i) ms) : wpD K n (fun _ => tC (.str i)) ms P X := wd_c (fun _ => .str i) h
theorem wd_bl {i : Bool} {P : D → List MV → Prop} (h : P (.bl i) ms) : wpD K n (fun _ => tC (.bl i)) ms P X := wd_c (fun _ => .bl i) h
theorem wd_non {P : D → List MV → Prop} (h : P .non ms) : wpD K n (fun _ => tC .non) ms P X := wd_c (fun _ => .non) h
/-! ### operations by values -/
def opD (K : PySem.W.Frag) (r : R2) (a b : D) (P : D → Prop) : Prop :=
  ∀ (x y : V) (F H : Hp) (Q : VK), Rp K F x a → Rp K F y b → Same F H → (∀ d v F' H', P d → Gr F H F' H' → Rp K F' v d → Q v H') → r x y H Q
def unD (K : PySem.W.Frag) (r : V → Hp → VK → Prop) (a : D) (P : D → Prop) : Prop :=
  ∀ (x : V) (F H : Hp) (Q : VK), Rp K F x a → Same F H → (∀ d v F' H', P d → Gr F H F' H' → Rp K F' v d → Q v H') → r x H Q
def cbD (K : PySem.W.Frag) (r : List V → Hp → VK → Prop) (as : List D) (P : D → Prop) : Prop :=
  ∀ (xs : List V) (F H : Hp) (Q : VK), RpL K F xs as → Same F H → (∀ d v F' H', P d → Gr F H F' H' → Rp K F' v d → Q v H') → r xs H Q
def bmD (K : PySem.W.Frag) (r : V → List V → Hp → VK → Prop) (a : D) (as : List D) (P : D → Prop) : Prop :=
  ∀ (x : V) (xs : List V) (F H : Hp) (Q : VK), Rp K F x a → RpL K F xs as → Same F H → (∀ d v F' H', P d → Gr F H F' H' → Rp K F' v d → Q v H') → r x xs H Q
theorem wd_op {r : R2} {ta tb : WX → TE} {P : D → List MV → Prop} (h : wpD K n ta ms (fun a m1 => wpD K n tb m1 (fun b m2 => opD K r a b fun d => P d m2) X) X) : wpD K n (fun W => tOp r (ta W) (tb W)) ms P X := by
  intro W G F H σ gv Q hn S k x
  refine h W G F H σ gv _ hn S (fun a v1 m1 g1 F1 H1 hb S1 r1 e1 => ?_) x
  refine hb W G F1 H1 σ g1 _ hn S1 (fun b v2 m2 g2 F2 H2 ho S2 r2 e2 => ?_) (fun c m g F' H' p S' e => x c m g F' H' p S' (e1.trans e))
  exact ho v1 v2 F2 H2 Q (r1.up e2) r2 S2.f fun d v F' H' p gr rd => k d v m2 g2 F' H' p (S2.gr gr) rd ((e1.trans e2).trans (gr.same S2.f).1)
theorem wd_un {r : V → Hp → VK → Prop} {ta : WX → TE} {P : D → List MV → Prop} (h : wpD K n ta ms (fun a m1 => unD K r a fun d => P d m1) X) : wpD K n (fun W => tUn r (ta W)) ms P X := by
  intro W G F H σ gv Q hn S k x
  refine h W G F H σ gv _ hn S (fun a v1 m1 g1 F1 H1 ho S1 r1 e1 => ?_) x
  exact ho v1 F1 H1 Q r1 S1.f fun d v F' H' p gr rd => k d v m1 g1 F' H' p (S1.gr gr) rd (e1.trans (gr.same S1.f).1)
theorem wd_chain {r r' : R2} {ta tb tc : WX → TE} {P : D → List MV → Prop}
    (h : wpD K n ta ms (fun a m1 => wpD K n tb m1 (fun b m2 => opD K r a b fun z => ∃ k, z = .bl k ∧ if k = true then wpD K n tc m2 (fun c m3 => opD K r' b c fun d => P d m3) X else P (.bl false) m2) X) X) :
    wpD K n (fun W => tChain r r' (ta W) (tb W) (tc W)) ms P X := by
  intro W G F H σ gv Q hn S k x
  refine h W G F H σ gv _ hn S (fun a v1 m1 g1 F1 H1 hb S1 r1 e1 => ?_) x
  refine hb W G F1 H1 σ g1 _ hn S1 (fun b v2 m2 g2 F2 H2 ho S2 r2 e2 => ?_) (fun c m g F' H' p S' e => x c m g F' H' p S' (e1.trans e))
  refine ho v1 v2 F2 H2 _ (r1.up e2) r2 S2.f fun z v F3 H3 p gr rd => ?_
  obtain ⟨b', rfl, hk⟩ := p
  cases rd
  have e3 := (gr.same S2.f).1
  refine ⟨b', rfl, ?_⟩
  cases b' with
  | false => 
    rw [if_neg Bool.false_ne_true] at hk ⊢
    exact k _ _ m2 g2 F3 H3 hk (S2.gr gr) (.bl _) ((e1.trans e2).trans e3)
  | true =>
    rw [if_pos rfl] at hk ⊢
    refine hk W G F3 H3 σ g2 _ hn (S2.gr gr) (fun c v3 m3 g3 F4 H4 ho' S4 r4 e4 => ?_) (fun c m g F' H' p S' e => x c m g F' H' p S' (((e1.trans e2).trans e3).trans e))
    exact ho' v2 v3 F4 H4 Q ((r2.up e3).up e4) r4 S4.f fun d v F' H' p gr' rd => k d v m3 g3 F' H' p (S4.gr gr') rd ((((e1.trans e2).trans e3).trans e4).trans (gr'.same S4.f).1)
/-! ### arguments -/
theorem wa_nil {P : List D → List MV → Prop} (h : P [] ms) : wpA K n (fun _ => tNil) ms P X := by
  intro W G F H σ gv Q hn S k _
  exact k [] [] ms gv F H h S .nil (Same.refl _)
theorem wa_cons {ta : WX → TE} {tr : WX → TA} {P : List D → List MV → Prop} (h : wpD K n ta ms (fun a m1 => wpA K n tr m1 (fun r m2 => P (a :: r) m2) X) X) : wpA K n (fun W => tCons (ta W) (tr W)) ms P X := by
  intro W G F H σ gv Q hn S k x
  refine h W G F H σ gv _ hn S (fun a v1 m1 g1 F1 H1 hb S1 r1 e1 => ?_) x
  refine hb W G F1 H1 σ g1 _ hn S1 (fun r vs m2 g2 F2 H2 p S2 r2 e2 => ?_) (fun c m g F' H' p S' e => x c m g F' H' p S' (e1.trans e))
  exact k (a :: r) (v1 :: vs) m2 g2 F2 H2 p S2 (.cons (r1.up e2) r2) (e1.trans e2)
theorem wd_cb {r : List V → Hp → VK → Prop} {ta : WX → TA} {P : D → List MV → Prop} (h : wpA K n ta ms (fun as m1 => cbD K r as fun d => P d m1) X) : wpD K n (fun W => tCB r (ta W)) ms P X := by
  intro W G F H σ gv Q hn S k x
  refine h W G F H σ gv _ hn S (fun as vs m1 g1 F1 H1 ho S1 r1 e1 => ?_) x
  exact ho vs F1 H1 Q r1 S1.f fun d v F' H' p gr rd => k d v m1 g1 F' H' p (S1.gr gr) rd (e1.trans (gr.same S1.f).1)
/-- a new tuple, a new list, known for good -/
theorem RpL.length {F : Hp} {vs : List V} {ds : List D} (h : RpL K F vs ds) : vs.length = ds.length := by
  induction vs generalizing ds with
  | nil => cases h; rfl
  | cons v vs ih =>
    cases h with
    | cons _ r => simp [ih r]
theorem wd_tup {ta : WX → TA} {P : D → List MV → Prop} (h : wpA K n ta ms (fun as m1 => as.length ≤ 1000000 ∧ P (.tup as) m1) X) : wpD K n (fun W => tTup (ta W)) ms P X := by
  intro W G F H σ gv Q hn S k x
  refine h W G F H σ gv _ hn S (fun as vs m1 g1 F1 H1 ho S1 r1 e1 => ?_) x
  refine ⟨?_, fun p hp => ?_⟩
  · rw [r1.length]
    have := ho.1
    rw [sizeLine_eq]; omega
  · have nF := S1.f.free hp
    exact k _ _ m1 g1 _ _ ho.2 (S1.new hp) (.tup (SqT.of upd_same) (r1.up (same_new nF))) (e1.trans (same_new nF))
theorem wd_lst {ta : WX → TA} {P : D → List MV → Prop} (h : wpA K n ta ms (fun as m1 => as.length ≤ 1000000 ∧ P (.lst as) m1) X) : wpD K n (fun W => tLst (ta W)) ms P X := by
  intro W G F H σ gv Q hn S k x
  refine h W G F H σ gv _ hn S (fun as vs m1 g1 F1 H1 ho S1 r1 e1 => ?_) x
  refine ⟨?_, fun p hp => ?_⟩
  · rw [r1.length]
    have := ho.1
    rw [sizeLine_eq]; omega
  · have nF := S1.f.free hp
    exact k _ _ m1 g1 _ _ ho.2 (S1.new hp) (.lst upd_same (r1.up (same_new nF))) (e1.trans (same_new nF))
/-- a new list, owned -/
theorem owL_of {F : Hp} {vs : List V} {ds : List D} (h : RpL K F vs ds) : OwL K F vs emp (ds.map .lf) := by
  induction vs generalizing ds with
  | nil => cases h; exact .nil
  | cons v vs ih =>
    cases h with
    | cons r t =>
      have z := OwL.cons (OwT.lf r) (ih t) Dj.emp_l
      rw [emp_jn] at z
      exact z
theorem wn_lst {ta : WX → TA} {P : Addr → T → List MV → Prop} (h : wpA K n ta ms (fun as m1 => as.length ≤ 1000000 ∧ ∀ p, P p (.lst (as.map .lf)) m1) X) : wpN K n (fun W => tLst (ta W)) ms P X := by
  intro W G F H σ gv Q hn S k x
  refine h W G F H σ gv _ hn S (fun as vs m1 g1 F1 H1 ho S1 r1 e1 => ?_) x
  refine ⟨?_, fun p hp => ?_⟩
  · rw [r1.length]
    have := ho.1
    rw [sizeLine_eq]; omega
  · exact k _ _ m1 g1 _ _ (ho.2 p) (S1.newOwn hp (.lst (owL_of r1) rfl)) e1
/-! ### tests -/
theorem wt_test {te : WX → TE} {P : Bool → List MV → Prop} (h : wpD K n te ms (fun d m1 => ∃ b, d = .bl b ∧ P b m1) X) : wpT K n (fun W => tTest (te W)) ms P X := by
  intro W G F H σ gv Q hn S k x
  refine h W G F H σ gv _ hn S (fun d v m1 g1 F1 H1 ho S1 r1 e1 => ?_) x
  obtain ⟨b, rfl, p⟩ := ho
  cases r1
  exact ⟨b, rfl, k b m1 g1 F1 H1 p S1 e1⟩
theorem wt_B {te : WX → TE} {P : Bool → List MV → Prop} (h : wpD K n te ms (fun d m1 => ∃ b, d = .bl b ∧ P b m1) X) : wpT K n (fun W => tB (te W)) ms P X := by
  intro W G F H σ gv Q hn S k x
  refine h W G F H σ gv _ hn S (fun d v m1 g1 F1 H1 ho S1 r1 e1 => ?_) x
  obtain ⟨b, rfl, p⟩ := ho
  cases r1
  exact ⟨b, rfl, k b m1 g1 F1 H1 p S1 e1⟩
/-- the truth of data -/
def tru : D → Option Bool
  | .non => some false
  | .bl b => some b
  | .int i => some (i != 0)
  | .lst ds => some (!ds.isEmpty)
  | .sq ds => some (!ds.isEmpty)
  | .tup ds => some (!ds.isEmpty)
  | _ => none
abbrev tTru (K : PySem.W.Frag) (ta : TE) : TT := fun σ H Q => ta σ H fun x H' => ∃ k, TruV K x H' k ∧ Q k H'
theorem wt_tru {te : WX → TE} {P : Bool → List MV → Prop} (h : wpD K n te ms (fun d m1 => ∃ b, tru d = some b ∧ P b m1) X) : wpT K n (fun W => tTru K (te W)) ms P X := by
  intro W G F H σ gv Q hn S k x
  refine h W G F H σ gv _ hn S (fun d v m1 g1 F1 H1 ho S1 r1 e1 => ?_) x
  obtain ⟨b, eb, p⟩ := ho
  refine ⟨b, ?_, k b m1 g1 F1 H1 p S1 e1⟩
  cases r1 with
  | non => cases eb; rfl
  | bl b => cases eb; rfl
  | int i => cases eb; rfl
  | lst hs r =>
    cases eb
    refine .inl ⟨_, SqL.of (S1.f _ _ hs), ?_⟩
    cases r <;> rfl
  | sq hs r =>
    cases eb
    refine .inl ⟨_, S1.f.seq hs, ?_⟩
    cases r <;> rfl
  | tup hs r =>
    cases eb
    refine .inr (.inl ⟨_, (Le.of S1.f).sqT hs, ?_⟩)
    cases r <;> rfl
  | str => cases eb
  | dic => cases eb
  | obj => cases eb
  | exc => cases eb
  | raw => cases eb
theorem wt_and {t u : WX → TT} {P : Bool → List MV → Prop} (h : wpT K n t ms (fun b m1 => if b = true then wpT K n u m1 P X else P false m1) X) : wpT K n (fun W => tAnd (t W) (u W)) ms P X := by
  intro W G F H σ gv Q hn S k x
  refine h W G F H σ gv _ hn S (fun b m1 g1 F1 H1 ho S1 e1 => ?_) x
  cases b with
  | false => 
    rw [if_neg Bool.false_ne_true] at ho ⊢
    exact k _ _ _ _ _ ho S1 e1
  | true =>
    rw [if_pos rfl] at ho ⊢
    exact ho W G F1 H1 σ g1 Q hn S1 (fun b m g F' H' p S' e => k b m g F' H' p S' (e1.trans e)) fun c m g F' H' p S' e => x c m g F' H' p S' (e1.trans e)
theorem wt_or {t u : WX → TT} {P : Bool → List MV → Prop} (h : wpT K n t ms (fun b m1 => if b = true then P true m1 else wpT K n u m1 P X) X) : wpT K n (fun W => tOr (t W) (u W)) ms P X := by
  intro W G F H σ gv Q hn S k x
  refine h W G F H σ gv _ hn S (fun b m1 g1 F1 H1 ho S1 e1 => ?_) x
  cases b with
  | true => 
    rw [if_pos rfl] at ho ⊢
    exact k _ _ _ _ _ ho S1 e1
  | false =>
    rw [if_neg Bool.false_ne_true] at ho ⊢
    exact ho W G F1 H1 σ g1 Q hn S1 (fun b m g F' H' p S' e => k b m g F' H' p S' (e1.trans e)) fun c m g F' H' p S' e => x c m g F' H' p S' (e1.trans e)
theorem wt_not {t : WX → TT} {P : Bool → List MV → Prop} (h : wpT K n t ms (fun b m1 => P (!b) m1) X) : wpT K n (fun W => tNot (t W)) ms P X := by
  intro W G F H σ gv Q hn S k x
  exact h W G F H σ gv _ hn S (fun b m1 g1 F1 H1 ho S1 e1 => k _ _ _ _ _ ho S1 e1) x
theorem wd_andV {ta tb : WX → TE} {P : D → List MV → Prop} (h : wpD K n ta ms (fun a m1 => ∃ b, a = .bl b ∧ if b = true then wpD K n tb m1 P X else P (.bl false) m1) X) : wpD K n (fun W => tAndV (ta W) (tb W)) ms P X := by
  intro W G F H σ gv Q hn S k x
  refine h W G F H σ gv _ hn S (fun a v m1 g1 F1 H1 ho S1 r1 e1 => ?_) x
  obtain ⟨b, rfl, ho⟩ := ho
  cases r1
  refine ⟨b, rfl, ?_⟩
  cases b with
  | false =>
    rw [if_neg Bool.false_ne_true] at ho ⊢
    exact k _ _ _ _ _ _ ho S1 (.bl _) e1
  | true =>
    rw [if_pos rfl] at ho ⊢
    exact ho W G F1 H1 σ g1 Q hn S1 (fun d v m g F' H' p S' r e => k d v m g F' H' p S' r (e1.trans e)) fun c m g F' H' p S' e => x c m g F' H' p S' (e1.trans e)
theorem wd_orV {ta tb : WX → TE} {P : D → List MV → Prop} (h : wpD K n ta ms (fun a m1 => ∃ b, a = .bl b ∧ if b = true then P (.bl true) m1 else wpD K n tb m1 P X) X) : wpD K n (fun W => tOrV (ta W) (tb W)) ms P X := by
  intro W G F H σ gv Q hn S k x
  refine h W G F H σ gv _ hn S (fun a v m1 g1 F1 H1 ho S1 r1 e1 => ?_) x
  obtain ⟨b, rfl, ho⟩ := ho
  cases r1
  refine ⟨b, rfl, ?_⟩
  cases b with
  | true =>
    rw [if_pos rfl] at ho ⊢
    exact k _ _ _ _ _ _ ho S1 (.bl _) e1
  | false =>
    rw [if_neg Bool.false_ne_true] at ho ⊢
    exact ho W G F1 H1 σ g1 Q hn S1 (fun d v m g F' H' p S' r e => k d v m g F' H' p S' r (e1.trans e)) fun c m g F' H' p S' e => x c m g F' H' p S' (e1.trans e)
theorem wd_notV {ta : WX → TE} {P : D → List MV → Prop} (h : wpD K n ta ms (fun a m1 => ∃ b, a = .bl b ∧ P (.bl !b) m1) X) : wpD K n (fun W => tNotV (ta W)) ms P X := by
  intro W G F H σ gv Q hn S k x
  refine h W G F H σ gv _ hn S (fun a v m1 g1 F1 H1 ho S1 r1 e1 => ?_) x
  obtain ⟨b, rfl, ho⟩ := ho
  cases r1
  exact ⟨b, rfl, k _ _ _ _ _ _ ho S1 (.bl _) e1⟩
theorem wd_if {t : WX → TT} {ta tb : WX → TE} {P : D → List MV → Prop} (h : wpT K n t ms (fun b m1 => if b = true then wpD K n ta m1 P X else wpD K n tb m1 P X) X) : wpD K n (fun W => tIf (t W) (ta W) (tb W)) ms P X := by
  intro W G F H σ gv Q hn S k x
  refine h W G F H σ gv _ hn S (fun b m1 g1 F1 H1 ho S1 e1 => ?_) x
  cases b with
  | false =>
    rw [if_neg Bool.false_ne_true] at ho ⊢
    exact ho W G F1 H1 σ g1 Q hn S1 (fun d v m g F' H' p S' r e => k d v m g F' H' p S' r (e1.trans e)) fun c m g F' H' p S' e => x c m g F' H' p S' (e1.trans e)
  | true =>
    rw [if_pos rfl] at ho ⊢
    exact ho W G F1 H1 σ g1 Q hn S1 (fun d v m g F' H' p S' r e => k d v m g F' H' p S' r (e1.trans e)) fun c m g F' H' p S' e => x c m g F' H' p S' (e1.trans e)
/-! ### statements -/
variable {N : List MV → Prop} {R : MV → List MV → Prop}
theorem ws_next (h : N ms) : wpS K n (fun _ => tNext) ms N R X := by
  intro W G F H σ gv E hn S k _ _
  exact k ms σ gv F H h hn S (Same.refl _)
theorem ws_seq {t u : WX → TS} (h : wpS K n t ms (fun m1 => wpS K n u m1 N R X) R X) : wpS K n (fun W => tSeq (t W) (u W)) ms N R X := by
  intro W G F H σ gv E hn S k r x
  refine h W G F H σ gv { E with nx := u W E } hn S (fun m1 σ1 g1 F1 H1 h1 hn1 S1 e1 => ?_) r x
  exact h1 W G F1 H1 σ1 g1 E hn1 S1 (fun m σ' g F' H' p l S' e => k m σ' g F' H' p l S' (e1.trans e)) (fun m v ms' σ' g F' H' p l S' e => r m v ms' σ' g F' H' p l S' (e1.trans e)) fun c m σ' g F' H' p l S' e => x c m σ' g F' H' p l S' (e1.trans e)
theorem set_app {σ gv : List (Option V)} {i : Nat} {o : Option V} (hi : i < σ.length) : (σ ++ gv).set i o = σ.set i o ++ gv := by
  rw [List.set_append_left _ _ hi]
theorem ws_set {te : WX → TE} {i : Nat} (hi : i < n) (h : wpD K n te ms (fun d m1 => N (m1.set i (.fz d))) X) : wpS K n (fun W => tAsg (te W) (gName i)) ms N R X := by
  intro W G F H σ gv E hn S k r x
  refine h W G F H σ gv _ hn S (fun d v m1 g1 F1 H1 p S1 r1 e1 => ?_) (fun c m g F' H' p S' e => x c m σ g F' H' p hn S' e)
  have S2 := S1.setF r1 i
  rw [set_app (by omega)] at S2
  exact k _ _ g1 F1 H1 p (by rw [List.length_set]; exact hn) S2 e1
theorem ws_setN {te : WX → TE} {i : Nat} (hi : i < n) (h : wpN K n te ms (fun p t m1 => N (m1.set i (.ot p t))) X) : wpS K n (fun W => tAsg (te W) (gName i)) ms N R X := by
  intro W G F H σ gv E hn S k r x
  refine h W G F H σ gv _ hn S (fun q t m1 g1 F1 H1 p S1 e1 => ?_) (fun c m g F' H' p S' e => x c m σ g F' H' p hn S' e)
  have S2 := S1.move i
  rw [set_app (by omega)] at S2
  exact k _ _ g1 F1 H1 p (by rw [List.length_set]; exact hn) S2 e1
theorem ws_drop {te : WX → TE} (h : wpD K n te ms (fun _ m1 => N m1) X) : wpS K n (fun W => tDrop (te W)) ms N R X := by
  intro W G F H σ gv E hn S k r x
  exact h W G F H σ gv _ hn S (fun d v m1 g1 F1 H1 p S1 r1 e1 => k _ _ g1 F1 H1 p hn S1 e1) (fun c m g F' H' p S' e => x c m σ g F' H' p hn S' e)
theorem ws_ret {te : WX → TE} (h : wpD K n te ms (fun d m1 => R (.fz d) m1) X) : wpS K n (fun W => tRet (te W)) ms N R X := by
  intro W G F H σ gv E hn S k r x
  exact h W G F H σ gv _ hn S (fun d v m1 g1 F1 H1 p S1 r1 e1 => r _ v m1 σ g1 F1 H1 p hn (S1.pushF r1) e1) (fun c m g F' H' p S' e => x c m σ g F' H' p hn S' e)
theorem ws_retO {te : WX → TE} (h : wpN K n te ms (fun p t m1 => R (.ot p t) m1) X) : wpS K n (fun W => tRet (te W)) ms N R X := by
  intro W G F H σ gv E hn S k r x
  exact h W G F H σ gv _ hn S (fun q t m1 g1 F1 H1 p S1 e1 => r _ _ m1 σ g1 F1 H1 p hn S1 e1) (fun c m g F' H' p S' e => x c m σ g F' H' p hn S' e)
theorem ws_if {t : WX → TT} {a b : WX → TS} (h : wpT K n t ms (fun c m1 => if c = true then wpS K n a m1 N R X else wpS K n b m1 N R X) X) : wpS K n (fun W => tIfS (t W) (a W) (b W)) ms N R X := by
  intro W G F H σ gv E hn S k r x
  refine h W G F H σ gv _ hn S (fun c m1 g1 F1 H1 ho S1 e1 => ?_) (fun c m g F' H' p S' e => x c m σ g F' H' p hn S' e)
  have go : ∀ u : WX → TS, wpS K n u m1 N R X → u W E σ H1 := fun u hu =>
    hu W G F1 H1 σ g1 E hn S1 (fun m σ' g F' H' p l S' e => k m σ' g F' H' p l S' (e1.trans e)) (fun m v ms' σ' g F' H' p l S' e => r m v ms' σ' g F' H' p l S' (e1.trans e)) fun c m σ' g F' H' p l S' e => x c m σ' g F' H' p l S' (e1.trans e)
  cases c with
  | false =>
    rw [if_neg Bool.false_ne_true] at ho ⊢
    exact go b ho
  | true =>
    rw [if_pos rfl] at ho ⊢
    exact go a ho
/-- raise: the class cls -/
theorem ws_raise {cls : Value} (h : X cls ms) : wpS K n (fun W => fun _ σ H => W cls none σ H) ms N R X := by
  intro W G F H σ gv E hn S k r x
  exact x cls ms σ gv F H h hn S (Same.refl _)
end
end M
namespace M
open PySem L2
/-! ### promises -/
abbrev FS := List MV → (MV → List MV → Prop) → XP → Prop
def SpM (K : PySem.W.Frag) (fs : FS) : Sp := fun vs H Q E => ∃ (G F : Hp) (ms : List MV) (P : MV → List MV → Prop) (X : XP), St K G F H ms (vs.map some) ∧ fs ms P X ∧
  (∀ m v ms' F' H', P m ms' → St K G F' H' (m :: ms') (some v :: vs.map some) → Same F F' → Q v H') ∧ (∀ c ms' F' H', X c ms' → St K G F' H' ms' (vs.map some) → Same F F' → E c none H')
/-- an owned thing changes its place -/
inductive Lend : List (Nat × Nat) → List MV → List MV → List MV → List MV → Prop
  | nil {a b : List MV} : Lend [] a b a b
  | cons {j i : Nat} {l : List (Nat × Nat)} {a b a' b' : List MV} {p : Addr} {t : T} : a[j]? = some (.fz (.raw (.ref p))) → b[i]? = some (.ot p t) → Lend l (a.set j (.ot p t)) (b.set i (.fz (.raw (.ref p)))) a' b' → Lend ((j, i) :: l) a b a' b'
section
variable {K : PySem.W.Frag} {n : Nat} {ms : List MV} {X : XP} {G F H : Hp}
theorem set_self {α : Type} {l : List α} {i : Nat} {x : α} (h : l[i]? = some x) : l.set i x = l := by
  obtain ⟨hi, e⟩ := List.getElem?_eq_some_iff.mp h
  apply List.ext_getElem?
  intro k
  rw [List.getElem?_set]
  by_cases hk : i = k
  · subst hk; simp [hi, h]; exact e.symm
  · simp [hk]
theorem OwS.back {σ : List (Option V)} {h1 h2 : Hp} {j : Nat} {p : Addr} {t : T} (x : OwS K F ms σ h2) (e : ms[j]? = some (.fz (.raw (.ref p)))) (w : OwT K F (.ref p) h1 t) (d : Dj h1 h2) : OwS K F (ms.set j (.ot p t)) σ (jn h1 h2) := by
  induction x generalizing j with
  | nil => simp at e
  | un x ih =>
    cases j with
    | zero => simp at e
    | succ j => exact .un (ih (by simpa using e) d)
  | fz r x ih =>
    cases j with
    | zero =>
      simp at e
      subst e
      cases r
      exact .ot w x d
    | succ j => exact .fz r (ih (by simpa using e) d)
  | ot r x dd ih =>
    rename_i g1 g2
    cases j with
    | zero => simp at e
    | succ j =>
      have d1 : Dj h1 g1 := (d.symm.of_jn_l).symm
      have d2 : Dj h1 g2 := (d.symm.of_jn_r).symm
      have z := OwS.ot r (ih (by simpa using e) d2) (Dj.jn_r d1.symm dd)
      rw [← jn_assoc, jn_comm d1.symm, jn_assoc] at z
      exact z
/-- within one list: the thing at i goes to j, which names it -/
theorem OwS.swap {σ : List (Option V)} {h : Hp} {i j : Nat} {p : Addr} {t : T} (x : OwS K F ms σ h) (ej : ms[j]? = some (.fz (.raw (.ref p)))) (ei : ms[i]? = some (.ot p t)) :
    OwS K F ((ms.set j (.ot p t)).set i (.fz (.raw (.ref p)))) σ h := by
  obtain ⟨h1, h2, rfl, d, w, _, f⟩ := x.focus ei
  have y := f F (.raw (.ref p)) (Le.of (Same.refl _)) (.raw _)
  have hij : i ≠ j := fun q => by subst q; rw [ei] at ej; cases ej
  have ej' : (ms.set i (.fz (.raw (.ref p))))[j]? = some (.fz (.raw (.ref p))) := by
    rw [List.getElem?_set]; simp [hij, ej]
  have z := y.back ej' w d
  rw [List.set_comm _ _ hij] at z
  exact z
theorem lend_len {l : List (Nat × Nat)} {a b a' b' : List MV} (L : Lend l a b a' b') : a'.length = a.length ∧ b'.length = b.length := by
  induction L with
  | nil => exact ⟨rfl, rfl⟩
  | cons _ _ _ ih => simpa using ih
theorem Lend.ok {l : List (Nat × Nat)} {a b a' b' : List MV} (L : Lend l a b a' b') : ∀ {s t : List (Option V)} {h : Hp}, OwS K F (a ++ b) (s ++ t) h → OwS K F (a' ++ b') (s ++ t) h := by
  induction L with
  | nil => exact fun x => x
  | cons ea eb _ ih =>
    rename_i j i l a b a' b' p t0 _
    intro s t h x
    have hj : j < a.length := (List.getElem?_eq_some_iff.mp ea).1
    refine ih ?_
    have e1 : (a ++ b)[j]? = some (.fz (.raw (.ref p))) := by rw [List.getElem?_append_left hj]; exact ea
    have e2 : (a ++ b)[a.length + i]? = some (.ot p t0) := by rw [List.getElem?_append_right (by omega)]; simpa using eb
    have y := x.swap e1 e2
    rw [List.set_append_left _ _ hj, List.set_append_right _ _ (by simp)] at y
    simpa using y
theorem RpL.owS {vs : List V} {ds : List D} (r : RpL K F vs ds) : OwS K F (ds.map .fz) (vs.map some) emp := by
  induction vs generalizing ds with
  | nil => cases r; exact .nil
  | cons v vs ih =>
    cases r with
    | cons h t => exact .fz h (ih t)
/-- f(..): the arguments ds; l: which of them are owned things, and of which slots -/
theorem run_call {fs : FS} {l : List (Nat × Nat)} {ds : List D} {a' b' : List MV} {σ gv : List (Option V)} {vs : List V} {W : WX} {Q : VK} {P : MV → List MV → Prop} (S : St K G F H ms (σ ++ gv)) (r : RpL K F vs ds) (L : Lend l (ds.map .fz) ms a' b')
    (h : fs a' (fun m a1 => ∃ a2 b2, Lend (l.map fun q => (q.2, q.1)) b' a1 b2 a2 ∧ P m b2) (fun c a1 => ∃ a2 b2, Lend (l.map fun q => (q.2, q.1)) b' a1 b2 a2 ∧ X c b2))
    (k : ∀ m v ms' F' H', P m ms' → St K G F' H' (m :: ms') (some v :: (σ ++ gv)) → Same F F' → Q v H') (x : ∀ c ms' F' H', X c ms' → St K G F' H' ms' (σ ++ gv) → Same F F' → W c none σ H') : SpM K fs vs H Q (WE W σ) := by
  have S1 : St K G F H (a' ++ b') (vs.map some ++ (σ ++ gv)) := by
    refine S.sub fun h0 y => ⟨h0, ?_, Same.refl _⟩
    have z := (r.owS).join y Dj.emp_l
    rw [emp_jn] at z
    exact L.ok z
  have hl : a'.length = (vs.map some).length := by
    rw [(lend_len L).1, List.length_map, List.length_map, r.length]
  obtain ⟨G', S2, back⟩ := St.lend hl S1
  have turn : ∀ {a1 : List MV} {F' H' : Hp} {b2 a2 : List MV}, Lend (l.map fun q => (q.2, q.1)) b' a1 b2 a2 → St K G F' H' (a1 ++ b') (vs.map some ++ (σ ++ gv)) → St K G F' H' b2 (σ ++ gv) := by
    intro a1 F' H' b2 a2 L2 S3
    refine S3.sub fun h0 y => ?_
    -- turn the two lists round, swap back, forget the arguments
    have ly : a1.length = (vs.map some).length := by
      have q1 := y.length
      have q2 := S2.len
      have q3 : b'.length = (σ ++ gv).length := by rw [(lend_len L).2]; exact S.len
      rw [List.length_append, List.length_append] at q1
      omega
    obtain ⟨h1, h2, y1, y2, d, rfl⟩ := y.split ly
    have z := L2.ok (y2.join y1 d.symm)
    have lb : b2.length = (σ ++ gv).length := by rw [(lend_len L2).1, (lend_len L).2]; exact S.len
    obtain ⟨g1, g2, z1, z2, dz, ez⟩ := z.split lb
    refine ⟨g1, z1, ?_⟩
    rw [jn_comm d, ez]
    exact Same.jn_l
  refine ⟨G', F, a', _, _, S2, h, fun m v a1 F' H' hp S3 e => ?_, fun c a1 F' H' hp S3 e => ?_⟩
  · obtain ⟨a2, b2, L2, p⟩ := hp
    have S4 := back F' H' (m :: a1) (some v :: vs.map some) e S3
    refine k m v b2 F' H' p ?_ e
    -- the result stays ahead
    refine S4.sub fun h0 y => ?_
    have tl : ∀ {hh : Hp}, OwS K F' (a1 ++ b') (vs.map some ++ (σ ++ gv)) hh → ∃ h', OwS K F' b2 (σ ++ gv) h' ∧ Same h' hh := by
      intro hh y
      have ly : a1.length = (vs.map some).length := by
        have q1 := y.length
        have q3 : b'.length = (σ ++ gv).length := by rw [(lend_len L).2]; exact S.len
        rw [List.length_append, List.length_append] at q1
        omega
      obtain ⟨h1, h2, y1, y2, d, rfl⟩ := y.split ly
      have z := L2.ok (y2.join y1 d.symm)
      have lb : b2.length = (σ ++ gv).length := by rw [(lend_len L2).1, (lend_len L).2]; exact S.len
      obtain ⟨g1, g2, z1, z2, dz, ez⟩ := z.split lb
      refine ⟨g1, z1, ?_⟩
      rw [jn_comm d, ez]
      exact Same.jn_l
    cases y with
    | un y =>
      obtain ⟨h', z, s⟩ := tl y
      exact ⟨h', .un z, s⟩
    | fz rr y =>
      obtain ⟨h', z, s⟩ := tl y
      exact ⟨h', .fz rr z, s⟩
    | ot rr y d =>
      obtain ⟨h', z, s⟩ := tl y
      exact ⟨_, .ot rr z (d.symm.sub s).symm, Same.jn Same.jn_l (s.trans (Same.jn_r d))⟩
  · obtain ⟨a2, b2, L2, p⟩ := hp
    exact x c b2 F' H' p (turn L2 (back F' H' a1 (vs.map some) e S3)) e
/-- a call whose value is data -/
theorem wd_call (l : List (Nat × Nat)) {fs : FS} {ta : WX → TA} {P : D → List MV → Prop}
    (h : wpA K n ta ms (fun ds m1 => ∃ a' b', Lend l (ds.map .fz) m1 a' b' ∧ fs a' (fun m a1 => ∃ a2 b2, Lend (l.map fun q => (q.2, q.1)) b' a1 b2 a2 ∧ ∃ d, m = .fz d ∧ P d b2) (fun c a1 => ∃ a2 b2, Lend (l.map fun q => (q.2, q.1)) b' a1 b2 a2 ∧ X c b2)) X) :
    wpD K n (fun W => tCallS (SpM K fs) (WE W) (ta W)) ms P X := by
  intro W G F H σ gv Q hn S k x
  refine h W G F H σ gv _ hn S (fun ds vs m1 g1 F1 H1 ho S1 r1 e1 => ?_) x
  obtain ⟨a', b', L, hf⟩ := ho
  refine run_call (P := fun m b2 => ∃ d, m = .fz d ∧ P d b2) S1 r1 L hf (fun m v ms' F' H' p S' e => ?_) (fun c ms' F' H' p S' e => x c ms' g1 F' H' p S' (e1.trans e))
  obtain ⟨d, rfl, p⟩ := p
  exact k d v ms' g1 F' H' p S'.tail S'.headF (e1.trans e)
/-- without owned arguments -/
theorem wd_call0 {fs : FS} {ta : WX → TA} {P : D → List MV → Prop}
    (h : wpA K n ta ms (fun ds m1 => fs (ds.map .fz) (fun m _ => ∃ d, m = .fz d ∧ P d m1) (fun c _ => X c m1)) X) (hf : ∀ a (Q Q' : MV → List MV → Prop) (Y Y' : XP), (∀ m b, Q m b → Q' m b) → (∀ c b, Y c b → Y' c b) → fs a Q Y → fs a Q' Y') :
    wpD K n (fun W => tCallS (SpM K fs) (WE W) (ta W)) ms P X := by
  refine wd_call [] ?_
  intro W G F H σ gv Q hn S k x
  refine h W G F H σ gv Q hn S (fun ds vs m1 g1 F1 H1 ho S1 r1 e1 => k ds vs m1 g1 F1 H1 ⟨_, _, .nil, ?_⟩ S1 r1 e1) x
  exact hf _ _ _ _ _ (fun m b q => ⟨_, _, .nil, q⟩) (fun c b q => ⟨_, _, .nil, q⟩) ho
/-- a call whose value is a new owned thing -/
theorem wn_call (l : List (Nat × Nat)) {fs : FS} {ta : WX → TA} {P : Addr → T → List MV → Prop}
    (h : wpA K n ta ms (fun ds m1 => ∃ a' b', Lend l (ds.map .fz) m1 a' b' ∧ fs a' (fun m a1 => ∃ a2 b2, Lend (l.map fun q => (q.2, q.1)) b' a1 b2 a2 ∧ ∃ p t, m = .ot p t ∧ P p t b2) (fun c a1 => ∃ a2 b2, Lend (l.map fun q => (q.2, q.1)) b' a1 b2 a2 ∧ X c b2)) X) :
    wpN K n (fun W => tCallS (SpM K fs) (WE W) (ta W)) ms P X := by
  intro W G F H σ gv Q hn S k x
  refine h W G F H σ gv _ hn S (fun ds vs m1 g1 F1 H1 ho S1 r1 e1 => ?_) x
  obtain ⟨a', b', L, hf⟩ := ho
  refine run_call (P := fun m b2 => ∃ p t, m = .ot p t ∧ P p t b2) S1 r1 L hf (fun m v ms' F' H' p S' e => ?_) (fun c ms' F' H' p S' e => x c ms' g1 F' H' p S' (e1.trans e))
  obtain ⟨q, t, rfl, p⟩ := p
  have ev := S'.headO
  subst ev
  exact k q t ms' g1 F' H' p S' (e1.trans e)
end
/-! ### a def keeps its promise -/
/-- what is handed back of the parameters -/
inductive Back : List MV → List MV → List MV → Prop
  | nil {me : List MV} : Back [] me []
  | fz {d : D} {x : MV} {ms me ms' : List MV} : Back ms me ms' → Back (.fz d :: ms) (x :: me) (.fz d :: ms')
  | ot {p : Addr} {t t' : T} {ms me ms' : List MV} : Back ms me ms' → Back (.ot p t :: ms) (.ot p t' :: me) (.ot p t' :: ms')
section
variable {K : PySem.W.Frag}
theorem Back.ok {F F' : Hp} {ms me ms' : List MV} (b : Back ms me ms') (e : Same F F') : ∀ {vs : List V} {σ : List (Option V)} {h0 h : Hp}, OwS K F ms (vs.map some) h0 → OwS K F' me σ h → ∃ h', OwS K F' ms' (vs.map some) h' ∧ Same h' h := by
  induction b with
  | nil =>
    intro vs σ h0 h x y
    cases vs with
    | nil => exact ⟨emp, .nil, Same.emp⟩
    | cons v vs => cases x
  | fz b ih =>
    intro vs σ h0 h x y
    cases vs with
    | nil => cases x
    | cons v vs =>
      cases x with
      | fz r x =>
        cases σ with
        | nil => exact absurd y.length (by simp)
        | cons o σ =>
          obtain ⟨h1, y1, s1⟩ := y.drop
          obtain ⟨h2, y2, s2⟩ := ih x y1
          exact ⟨h2, .fz (r.up e) y2, s2.trans s1⟩
  | ot b ih =>
    intro vs σ h0 h x y
    cases vs with
    | nil => cases x
    | cons v vs =>
      cases y with
      | ot w y d =>
        cases x with
        | ot w' x d' =>
          obtain ⟨h2, y2, s2⟩ := ih x y
          exact ⟨_, .ot w y2 (d.symm.sub s2).symm, Same.jn Same.jn_l (s2.trans (Same.jn_r d))⟩
theorem start_app {Nn : List PySem.Str} {vs : List V} (h : vs.length ≤ Nn.length) : (L2.start Nn vs).length = Nn.length := by
  unfold L2.start
  simp
  omega
theorem OwS.uns {F : Hp} : ∀ (k : Nat), OwS K F (List.replicate k .un) (List.replicate k none) emp
  | 0 => .nil
  | k + 1 => .un (OwS.uns k)
/-- THE RULE: the body's reading, the model of its promise -/
theorem fs_run {fs : FS} {Nn : List PySem.Str} {t : WX → TS} {np : Nat} (hnp : np ≤ Nn.length)
    (h : ∀ ms P X, fs ms P X → ms.length = np ∧ wpS K Nn.length t (ms ++ List.replicate (Nn.length - np) .un) (fun me => ∃ ms', Back ms me ms' ∧ P (.fz .non) ms') (fun m me => ∃ ms', Back ms me ms' ∧ P m ms') (fun c me => ∃ ms', Back ms me ms' ∧ X c ms'))
    (vs : List V) (H : Hp) (Q : VK) (E : XK) (s : SpM K fs vs H Q E) : vs.length = np ∧ t (fun c d _ H => E c d H) { nx := fun _ H' => Q .non H', rt := Q } (L2.start Nn vs) H := by
  obtain ⟨G, F, ms, P, X, S, hf, k, x⟩ := s
  obtain ⟨hl, hw⟩ := h ms P X hf
  have lv : vs.length = np := by
    have := S.len
    rw [List.length_map] at this
    omega
  refine ⟨lv, ?_⟩
  have S0 : St K G F H (ms ++ List.replicate (Nn.length - np) .un) (L2.start Nn vs ++ []) := by
    rw [List.append_nil]
    unfold L2.start
    rw [lv]
    refine S.sub fun h0 y => ⟨h0, ?_, Same.refl _⟩
    have z := y.join (OwS.uns (F := F) (Nn.length - np)) Dj.emp_r
    rw [jn_emp] at z
    exact z
  obtain ⟨h0, x0, _⟩ := S.own
  have end_ : ∀ {ms' me : List MV} {σ' : List (Option V)} {F' H' : Hp}, Back ms me ms' → Same F F' → St K G F' H' me σ' → St K G F' H' ms' (vs.map some) := fun b e S' =>
    S'.sub fun h y => b.ok e x0 y
  have endM : ∀ {m : MV} {v : V} {ms' me : List MV} {σ' : List (Option V)} {F' H' : Hp}, Back ms me ms' → Same F F' → St K G F' H' (m :: me) (some v :: σ') → St K G F' H' (m :: ms') (some v :: vs.map some) := fun b e S' =>
    S'.sub fun h y => by
      cases y with
      | un y =>
        obtain ⟨h', z, s⟩ := b.ok e x0 y
        exact ⟨h', .un z, s⟩
      | fz rr y =>
        obtain ⟨h', z, s⟩ := b.ok e x0 y
        exact ⟨h', .fz rr z, s⟩
      | ot rr y d =>
        obtain ⟨h', z, s⟩ := b.ok e x0 y
        exact ⟨_, .ot rr z (d.symm.sub s).symm, Same.jn Same.jn_l (s.trans (Same.jn_r d))⟩
  refine hw (fun c d _ H => E c d H) G F H (L2.start Nn vs) [] _ (start_app (by omega)) S0 (fun me σ' gv' F' H' hb _ S' e => ?_) (fun m v me σ' gv' F' H' hb _ S' e => ?_) (fun c me σ' gv' F' H' hb _ S' e => ?_)
  · obtain ⟨ms', b, p⟩ := hb
    exact k _ _ _ _ _ p (endM b e (S'.pushF .non)) e
  · obtain ⟨ms', b, p⟩ := hb
    exact k _ _ _ _ _ p (endM b e S') e
  · obtain ⟨ms', b, p⟩ := hb
    exact x _ _ _ _ p (end_ b e S') e
end
end M
namespace M
open PySem L2
/-! ### an owned tree as data -/
mutual
def T.toD : T → D
  | .nd p _ => .raw (.ref p)
  | .lf d => d
  | .lst ts => .lst (toDs ts)
  | .tup ts => .tup (toDs ts)
  | .dic kvs => .dic (toDk kvs)
  | .obj C fs => .obj C (toDf fs)
def toDs : List T → List D
  | [] => []
  | t :: ts => t.toD :: toDs ts
def toDk : List (Key × T) → List (Key × D)
  | [] => []
  | (k, t) :: ts => (k, t.toD) :: toDk ts
def toDf : List (PySem.Str × T) → List (PySem.Str × D)
  | [] => []
  | (k, t) :: ts => (k, t.toD) :: toDf ts
end
theorem toDs_lf : ∀ ds : List D, toDs (ds.map .lf) = ds
  | [] => by simp [toDs]
  | d :: ds => by simp [toDs, T.toD, toDs_lf ds]
theorem toD_lst (ds : List D) : T.toD (.lst (ds.map .lf)) = .lst ds := by simp [T.toD, toDs_lf]
section
variable {K : PySem.W.Frag}
theorem same_upd_sub {h F' : Hp} {p : Addr} {o : HO} (s : Same (upd h p o) F') (hp : h p = none) : Same h F' := (same_new hp).trans s
mutual
theorem OwT.rp {F F' : Hp} (e : Same F F') : ∀ {v : V} {h : Hp} {t : T}, OwT K F v h t → Same h F' → Rp K F' v t.toD
  | _, _, _, .nd r, _ => by simp only [T.toD]; exact .raw _
  | _, _, _, .lf r, _ => by simp only [T.toD]; exact r.up e
  | _, _, _, .lst r n, s => by
    simp only [T.toD]
    exact .lst (s _ _ upd_same) (OwL.rp e r (same_upd_sub s n))
  | _, _, _, .tup r n, s => by
    simp only [T.toD]
    exact .tup (SqT.of (s _ _ upd_same)) (OwL.rp e r (same_upd_sub s n))
  | _, _, _, .dic r n, s => by
    simp only [T.toD]
    exact .dic (.inl (s _ _ upd_same)) (OwK.rp e r (same_upd_sub s n))
  | _, _, _, .obj r n m q, s => by
    simp only [T.toD]
    refine .obj (s _ _ upd_same) (s _ _ ?_) (OwF.rp e r ?_)
    · rw [upd_ne q]; exact upd_same
    · refine ((same_new m).trans (same_new ?_)).trans s
      rw [upd_ne (Ne.symm q)]; exact n
theorem OwL.rp {F F' : Hp} (e : Same F F') : ∀ {v : List V} {h : Hp} {t : List T}, OwL K F v h t → Same h F' → RpL K F' v (toDs t)
  | _, _, _, .nil, _ => by simp only [toDs]; exact .nil
  | _, _, _, .cons r t d, s => by
    simp only [toDs]
    exact .cons (OwT.rp e r (Same.jn_l.trans s)) (OwL.rp e t ((Same.jn_r d).trans s))
theorem OwK.rp {F F' : Hp} (e : Same F F') : ∀ {v : List (Key × V)} {h : Hp} {t : List (Key × T)}, OwK K F v h t → Same h F' → RpK K F' v (toDk t)
  | _, _, _, .nil, _ => by simp only [toDk]; exact .nil
  | _, _, _, .cons r t d, s => by
    simp only [toDk]
    exact .cons (OwT.rp e r (Same.jn_l.trans s)) (OwK.rp e t ((Same.jn_r d).trans s))
theorem OwF.rp {F F' : Hp} (e : Same F F') : ∀ {v : List (PySem.Str × V)} {h : Hp} {t : List (PySem.Str × T)}, OwF K F v h t → Same h F' → RpF K F' v (toDf t)
  | _, _, _, .nil, _ => by simp only [toDf]; exact .nil
  | _, _, _, .cons r t d, s => by
    simp only [toDf]
    exact .cons (OwT.rp e r (Same.jn_l.trans s)) (OwF.rp e t ((Same.jn_r d).trans s))
end
/-- all owned things seen as data -/
def view : MV → MV
  | .ot _ t => .fz t.toD
  | m => m
theorem OwS.view {F F' : Hp} (e : Same F F') {ms : List MV} {σ : List (Option V)} {h : Hp} (x : OwS K F ms σ h) (s : Same h F') : OwS K F' (ms.map view) σ emp := by
  induction x with
  | nil => exact .nil
  | un x ih => exact .un (ih s)
  | fz r x ih => exact .fz (r.up e) (ih s)
  | ot r x d ih => exact .fz (OwT.rp e r (Same.jn_l.trans s)) (ih ((Same.jn_r d).trans s))
def flat : D → Bool
  | .non => true
  | .bl _ => true
  | .int _ => true
  | .str _ => true
  | _ => false
theorem Rp.flat {F F' : Hp} {v : V} {d : D} (r : Rp K F v d) (h : flat d = true) : Rp K F' v d := by
  cases r with
  | non => exact .non
  | bl b => exact .bl b
  | int i => exact .int i
  | str x => exact .str x
  | lst => cases h
  | sq => cases h
  | tup => cases h
  | dic => cases h
  | obj => cases h
  | exc => cases h
  | raw => cases h
variable {n : Nat} {ms : List MV} {X : XP}
/-- the whole is looked at, nothing is changed -/
theorem view_core {G F H : Hp} {σ : List (Option V)} (S : St K G F H ms σ) : ∃ F1, Same F F1 ∧ St K G F1 H (ms.map view) σ ∧ ∀ F2 H2 ms2 σ2, Same F1 F2 → St K G F2 H2 ms2 σ2 → ∃ F3, Same F F3 ∧ St K G F3 H2 ms σ := by
  obtain ⟨h, x, sh, d1, d2⟩ := S.own
  refine ⟨jn F h, Same.jn_l, ⟨S.g, Same.jn S.f sh, Dj.jn_l S.fg d2, emp, x.view Same.jn_l (Same.jn_r d1.symm), Same.emp, Dj.emp_l, Dj.emp_l⟩, fun F2 H2 ms2 σ2 e S2 => ?_⟩
  have sF : Same F F2 := Same.jn_l.trans e
  have sh2 : Same h F2 := (Same.jn_r d1.symm).trans e
  -- F2 without h
  refine ⟨fun a => match h a with | some _ => none | none => F2 a, fun a o q => ?_, S2.g, fun a o q => ?_, fun a => ?_, h, x.up fun a o q => ?_, sh2.trans S2.f, fun a => ?_, d2⟩
  · show (match h a with | some _ => none | none => F2 a) = some o
    rw [d1.symm.none q]; exact sF _ _ q
  · have q' : (match h a with | some _ => none | none => F2 a) = some o := q
    cases z : h a with
    | some u => rw [z] at q'; cases q'
    | none => rw [z] at q'; exact S2.f _ _ q'
  · show (match h a with | some _ => none | none => F2 a) = none ∨ G a = none
    cases z : h a with
    | some u => exact .inl rfl
    | none => exact S2.fg a
  · show (match h a with | some _ => none | none => F2 a) = some o
    rw [d1.symm.none q]; exact sF _ _ q
  · show h a = none ∨ (match h a with | some _ => none | none => F2 a) = none
    cases z : h a with
    | some u => exact .inr rfl
    | none => exact .inl rfl
theorem wd_view {te : WX → TE} {P : D → List MV → Prop} (h : wpD K n te (ms.map view) (fun d _ => flat d = true ∧ P d ms) (fun c _ => X c ms)) : wpD K n te ms P X := by
  intro W G F H σ gv Q hn S k x
  obtain ⟨F1, e1, S1, back⟩ := view_core S
  refine h W G F1 H σ gv Q hn S1 (fun d v m2 g2 F2 H2 p S2 r2 e2 => ?_) (fun c m2 g2 F2 H2 p S2 e2 => ?_)
  · obtain ⟨F3, e3, S3⟩ := back _ _ _ _ e2 S2
    exact k d v ms gv F3 H2 p.2 S3 (r2.flat p.1) e3
  · obtain ⟨F3, e3, S3⟩ := back _ _ _ _ e2 S2
    exact x c ms gv F3 H2 p S3 e3
theorem wt_view {te : WX → TT} {P : Bool → List MV → Prop} (h : wpT K n te (ms.map view) (fun d _ => P d ms) (fun c _ => X c ms)) : wpT K n te ms P X := by
  intro W G F H σ gv Q hn S k x
  obtain ⟨F1, e1, S1, back⟩ := view_core S
  refine h W G F1 H σ gv Q hn S1 (fun d m2 g2 F2 H2 p S2 e2 => ?_) (fun c m2 g2 F2 H2 p S2 e2 => ?_)
  · obtain ⟨F3, e3, S3⟩ := back _ _ _ _ e2 S2
    exact k d ms gv F3 H2 p S3 e3
  · obtain ⟨F3, e3, S3⟩ := back _ _ _ _ e2 S2
    exact x c ms gv F3 H2 p S3 e3
/-- an owned thing is known for good from here on -/
theorem St.freeze {G F H : Hp} {σ : List (Option V)} {i : Nat} {p : Addr} {t : T} (S : St K G F H ms σ) (e : ms[i]? = some (.ot p t)) : ∃ F', Same F F' ∧ St K G F' H (ms.set i (.fz t.toD)) σ := by
  obtain ⟨h, x, sh, d1, d2⟩ := S.own
  obtain ⟨h1, h2, rfl, dj, w, _, f⟩ := x.focus e
  have s1 : Same h1 H := Same.jn_l.trans sh
  have s2 : Same h2 H := (Same.jn_r dj).trans sh
  refine ⟨jn F h1, Same.jn_l, S.g, Same.jn S.f s1, Dj.jn_l S.fg d2.of_jn_l, h2, f _ _ (Le.of Same.jn_l) (w.rp Same.jn_l (Same.jn_r d1.of_jn_l.symm)), s2, Dj.jn_r d1.of_jn_r dj.symm, d2.of_jn_r⟩
variable {N : List MV → Prop} {R : MV → List MV → Prop}
theorem ws_freeze (i : Nat) {p : Addr} {t : T} {ts : WX → TS} (e : ms[i]? = some (.ot p t)) (h : wpS K n ts (ms.set i (.fz t.toD)) N R X) : wpS K n ts ms N R X := by
  intro W G F H σ gv E hn S k r x
  obtain ⟨F1, e1, S1⟩ := S.freeze e
  exact h W G F1 H σ gv E hn S1 (fun m σ' g F' H' p l S' e => k m σ' g F' H' p l S' (e1.trans e)) (fun m v ms' σ' g F' H' p l S' e => r m v ms' σ' g F' H' p l S' (e1.trans e)) fun c m σ' g F' H' p l S' e => x c m σ' g F' H' p l S' (e1.trans e)
theorem wd_freeze (i : Nat) {p : Addr} {t : T} {te : WX → TE} {P : D → List MV → Prop} (e : ms[i]? = some (.ot p t)) (h : wpD K n te (ms.set i (.fz t.toD)) P X) : wpD K n te ms P X := by
  intro W G F H σ gv Q hn S k x
  obtain ⟨F1, e1, S1⟩ := S.freeze e
  exact h W G F1 H σ gv Q hn S1 (fun d v m g F' H' p S' r e => k d v m g F' H' p S' r (e1.trans e)) fun c m g F' H' p S' e => x c m g F' H' p S' (e1.trans e)
/-- the content of an owned list is changed -/
theorem owL_len {F : Hp} : ∀ {vs : List V} {h : Hp} {ts : List T}, OwL K F vs h ts → vs.length = ts.length
  | _, _, _, .nil => rfl
  | _, _, _, .cons _ r _ => by simp [owL_len r]
theorem OwL.snoc {F : Hp} {v : V} {d : D} (r : Rp K F v d) : ∀ {vs : List V} {h : Hp} {ts : List T}, OwL K F vs h ts → OwL K F (vs ++ [v]) h (ts ++ [.lf d])
  | _, _, _, .nil => by
    have z := OwL.cons (OwT.lf r) OwL.nil Dj.emp_l
    rw [emp_jn] at z
    exact z
  | _, _, _, .cons a b d => .cons a (OwL.snoc r b) d
theorem OwL.setLf {F : Hp} {v : V} {d : D} (r : Rp K F v d) : ∀ {vs : List V} {h : Hp} {ts : List T} (i : Nat), OwL K F vs h ts → ∃ h', OwL K F (vs.set i v) h' (ts.set i (.lf d)) ∧ Same h' h
  | _, _, _, _, .nil => ⟨emp, .nil, Same.refl _⟩
  | _, _, _, 0, .cons a b d => by
    refine ⟨_, .cons (.lf r) b Dj.emp_l, ?_⟩
    rw [emp_jn]
    exact Same.jn_r d
  | _, _, _, i + 1, .cons a b d => by
    obtain ⟨h', z, s⟩ := OwL.setLf r i b
    exact ⟨_, .cons a z (d.symm.sub s).symm, Same.jn Same.jn_l (s.trans (Same.jn_r d))⟩
theorem St.list {G F H : Hp} {σ : List (Option V)} {i : Nat} {p : Addr} {ts : List T} (S : St K G F H ms σ) (e : ms[i]? = some (.ot p (.lst ts))) : ∃ vs, H p = some (.lst vs) ∧ vs.length = ts.length ∧ 
    ∀ vs' ts', (∀ h, OwL K F vs h ts → ∃ h', OwL K F vs' h' ts' ∧ Same h' h) → St K G F (upd H p (.lst vs')) (ms.set i (.ot p (.lst ts'))) σ := by
  obtain ⟨h, x, sh, d1, d2⟩ := S.own
  obtain ⟨h1, h2, rfl, dj, w, f, _⟩ := x.focus e
  cases w with
  | lst w0 np =>
    rename_i vs h0
    have s1 : Same (upd h0 p (.lst vs)) H := Same.jn_l.trans sh
    have s2 : Same h2 H := (Same.jn_r dj).trans sh
    have n2 : h2 p = none := dj.of_upd
    have nF : F p = none := d1.of_jn_l.of_upd
    have nG : G p = none := d2.of_jn_l.of_upd
    refine ⟨vs, s1 _ _ upd_same, owL_len w0, fun vs' ts' hk => ?_⟩
    obtain ⟨h', w', s'⟩ := hk h0 w0
    have np' : h' p = none := s'.free np
    have up : ∀ {A : Hp}, A p = none → Same A H → Same A (upd H p (.lst vs')) := fun na s b u q => by
      rw [upd_ne (ne_of_none q na)]; exact s _ _ q
    have sh' : Same h' H := s'.trans ((same_new np).trans s1)
    have dn : Dj h' h2 := (dj.un_upd np).sub s'
    refine ⟨up nG S.g, up nF S.f, S.fg, jn (upd h' p (.lst vs')) h2, f F _ _ (Le.of (Same.refl _)) (.lst w' np') (dn.upd n2), Same.jn ?_ (up n2 s2), Dj.jn_l ((d1.of_jn_l.un_upd np).sub s' |>.upd nF) d1.of_jn_r, Dj.jn_l ((d2.of_jn_l.un_upd np).sub s' |>.upd nG) d2.of_jn_r⟩
    intro b u q
    by_cases hb : b = p
    · subst hb; rw [upd_same] at q ⊢; exact q
    · rw [upd_ne hb] at q ⊢; exact sh' _ _ q
/-- xs.append(e) -/
theorem ws_append {i : Nat} {p : Addr} {ts : List T} {te : WX → TE} (hi : i < n) (e : ms[i]? = some (.ot p (.lst ts)))
    (h : wpD K n te ms (fun d m1 => ∃ ts1, m1[i]? = some (.ot p (.lst ts1)) ∧ ts1.length < 1000000 ∧ N (m1.set i (.ot p (.lst (ts1 ++ [.lf d]))))) X) : wpS K n (fun W => tDrop (tBM K "list" rAppend (tVar i) (tCons (te W) tNil))) ms N R X := by
  intro W G F H σ gv E hn S k r x
  have hv := get_app (by omega) (S.getO e)
  obtain ⟨vs0, hp0, _⟩ := S.list e
  refine ⟨_, hv, .inl ⟨rfl, _, SqL.of hp0⟩, ?_⟩
  refine h W G F H σ gv _ hn S (fun d v m1 g1 F1 H1 ho S1 r1 e1 => ?_) (fun c m g F' H' p S' e => x c m σ g F' H' p hn S' e)
  obtain ⟨ts1, ei, hl, hN⟩ := ho
  obtain ⟨vs, hp, hlen, f⟩ := S1.list ei
  refine ⟨p, vs, v, rfl, rfl, hp, ?_, ?_⟩
  · rw [sizeLine_eq]; omega
  · exact k _ σ g1 F1 _ hN hn (f _ _ fun h0 w => ⟨h0, w.snoc r1, Same.refl _⟩) e1
/-- xs[i] = e, by a place that is known -/
theorem ws_setL {i : Nat} {te tj : WX → TE} {p : Addr} (hi : i < n)
    (h : wpD K n te ms (fun d m1 => (∃ t, m1[i]? = some (.ot p t)) ∧ wpD K n tj m1 (fun dj m2 => ∃ ts1 j k, dj = .int j ∧ m2[i]? = some (.ot p (.lst ts1)) ∧ ixN ts1.length j = some k ∧ N (m2.set i (.ot p (.lst (ts1.set k (.lf d)))))) X) X) :
    wpS K n (fun W => tAsg (te W) (gSub (tVar i) (tj W) rSetL)) ms N R X := by
  intro W G F H σ gv E hn S k r x
  refine h W G F H σ gv _ hn S (fun d v m1 g1 F1 H1 ho S1 r1 e1 => ?_) (fun c m g F' H' p S' e => x c m σ g F' H' p hn S' e)
  obtain ⟨⟨t0, e0⟩, ho⟩ := ho
  have hv := get_app (by omega) (S1.getO e0)
  refine ⟨_, hv, ?_⟩
  refine ho W G F1 H1 σ g1 _ hn S1 (fun dj v2 m2 g2 F2 H2 ho S2 r2 e2 => ?_) (fun c m g F' H' p S' e => x c m σ g F' H' p hn S' (e1.trans e))
  obtain ⟨ts1, j, k1, rfl, ei, hk, hN⟩ := ho
  cases r2
  obtain ⟨vs, hp, hlen, f⟩ := S2.list ei
  refine ⟨p, vs, j, k1, rfl, rfl, hp, by rw [hlen]; exact hk, ?_⟩
  exact k _ σ g2 F2 _ hN hn (f _ _ fun h0 w => OwL.setLf (r1.up e2) k1 w) (e1.trans e2)
/-! ### targets -/
def wpG (K : PySem.W.Frag) (n : Nat) (g : TG) (d : D) (ms : List MV) (N : List MV → Prop) : Prop :=
  ∀ (G F H : Hp) (σ gv : List (Option V)) (v : V) (Q : L2.St → Hp → Prop), σ.length = n → St K G F H ms (σ ++ gv) → Rp K F v d →
    (∀ ms' σ', N ms' → σ'.length = n → St K G F H ms' (σ' ++ gv) → Q σ' H) → g v σ H Q
def wpGs (K : PySem.W.Frag) (n : Nat) (g : TGs) (ds : List D) (ms : List MV) (N : List MV → Prop) : Prop :=
  ∀ (G F H : Hp) (σ gv : List (Option V)) (vs : List V) (Q : L2.St → Hp → Prop), σ.length = n → St K G F H ms (σ ++ gv) → RpL K F vs ds →
    (∀ ms' σ', N ms' → σ'.length = n → St K G F H ms' (σ' ++ gv) → Q σ' H) → g vs σ H Q
theorem wg_name {i : Nat} {d : D} (hi : i < n) (h : N (ms.set i (.fz d))) : wpG K n (gName i) d ms N := by
  intro G F H σ gv v Q hn S r k
  have S2 := S.setF r i
  rw [set_app (by omega)] at S2
  exact k _ _ h (by rw [List.length_set]; exact hn) S2
theorem wgs_nil (h : N ms) : wpGs K n gNil [] ms N := by
  intro G F H σ gv vs Q hn S r k
  cases r
  exact ⟨rfl, k _ _ h hn S⟩
theorem wgs_cons {g : TG} {gs : TGs} {d : D} {ds : List D} (h : wpG K n g d ms fun m1 => wpGs K n gs ds m1 N) : wpGs K n (gCons g gs) (d :: ds) ms N := by
  intro G F H σ gv vs Q hn S r k
  cases r with
  | cons r1 r2 =>
    refine ⟨_, _, rfl, h G F H σ gv _ _ hn S r1 fun m1 σ1 h1 hn1 S1 => ?_⟩
    exact h1 G F H σ1 gv _ Q hn1 S1 r2 k
theorem wg_tup {g : TGs} {ds : List D} {m : Nat} (hm : ds.length = m) (h : wpGs K n g ds ms N) : wpG K n (gTup K m g) (.tup ds) ms N := by
  intro G F H σ gv v Q hn S r k
  cases r with
  | tup hs r =>
    exact ⟨_, _, rfl, (Le.of S.f).sqT hs, by rw [r.length]; exact hm, h G F H σ gv _ Q hn S r k⟩
theorem ws_asg {te : WX → TE} {g : TG} (h : wpD K n te ms (fun d m1 => wpG K n g d m1 N) X) : wpS K n (fun W => tAsg (te W) g) ms N R X := by
  intro W G F H σ gv E hn S k r x
  refine h W G F H σ gv _ hn S (fun d v m1 g1 F1 H1 p S1 r1 e1 => ?_) (fun c m g F' H' p S' e => x c m σ g F' H' p hn S' e)
  exact p G F1 H1 σ g1 v _ hn S1 r1 fun m2 σ2 h2 hn2 S2 => k m2 σ2 g1 F1 H1 h2 hn2 S2 e1
/-! ### what is walked -/
def Walks (K : PySem.W.Frag) (J : It) (F : Hp) (ds : List D) : Prop :=
  ∀ (i : Nat) (H : Hp), Same F H → (∀ d, ds[i]? = some d → J.go i H ∧ ∀ x H', J.yld i H x H' → H' = H ∧ Rp K F x d) ∧ (i = ds.length → J.stop i H)
theorem Walks.up {J : It} {F F' : Hp} {ds : List D} (w : Walks K J F ds) (e : Same F F') : Walks K J F' ds := fun i H s =>
  ⟨fun d hd => ⟨((w i H (e.trans s)).1 d hd).1, fun x H' hy => ⟨(((w i H (e.trans s)).1 d hd).2 x H' hy).1, (((w i H (e.trans s)).1 d hd).2 x H' hy).2.up e⟩⟩, (w i H (e.trans s)).2⟩
def wpI (K : PySem.W.Frag) (n : Nat) (ti : WX → TI) (ms : List MV) (P : List D → List MV → Prop) (X : XP) : Prop :=
  ∀ (W : WX) (G F H : Hp) (σ gv : List (Option V)) (Q : It → Hp → Prop), σ.length = n → St K G F H ms (σ ++ gv) →
    (∀ ds J ms' gv' F' H', P ds ms' → St K G F' H' ms' (σ ++ gv') → Walks K J F' ds → Same F F' → Q J H') →
    (∀ c ms' gv' F' H', X c ms' → St K G F' H' ms' (σ ++ gv') → Same F F' → W c none σ H') → ti W σ H Q
theorem RpL.at {F : Hp} : ∀ {vs : List V} {ds : List D} {i : Nat} {d : D}, RpL K F vs ds → ds[i]? = some d → ∃ v, vs[i]? = some v ∧ Rp K F v d
  | _, _, _, _, .nil, e => by simp at e
  | _, _, 0, _, .cons r _, e => by simp at e; subst e; exact ⟨_, rfl, r⟩
  | _, _, i + 1, _, .cons _ t, e => by
    obtain ⟨v, h1, h2⟩ := RpL.at (i := i) t (by simpa using e)
    exact ⟨v, by simpa using h1, h2⟩
theorem RpL.of {F : Hp} : ∀ {vs : List V} {ds : List D} {i : Nat} {v : V}, RpL K F vs ds → vs[i]? = some v → ∃ d, ds[i]? = some d ∧ Rp K F v d
  | _, _, _, _, .nil, e => by simp at e
  | _, _, 0, _, .cons r _, e => by simp at e; subst e; exact ⟨_, rfl, r⟩
  | _, _, i + 1, _, .cons _ t, e => by
    obtain ⟨v, h1, h2⟩ := RpL.of (i := i) t (by simpa using e)
    exact ⟨v, by simpa using h1, h2⟩
theorem walks_list {F : Hp} {a : Addr} {vs : List V} {ds : List D} (hs : SqL K F a vs) (r : RpL K F vs ds) : Walks K (Itl K a) F ds := by
  intro i H s
  refine ⟨fun d hd => ?_, fun hi => ⟨vs, s.seq hs, by rw [r.length]; omega⟩⟩
  obtain ⟨v, hv, rv⟩ := r.at hd
  refine ⟨⟨vs, v, s.seq hs, hv⟩, fun x H' hy => ?_⟩
  obtain ⟨rfl, hx⟩ := hy
  have := hx vs (s.seq hs)
  rw [hv] at this
  cases this
  exact ⟨rfl, rv⟩
theorem walks_tup {F : Hp} {a : Addr} {vs : List V} {ds : List D} (hs : SqT K F a vs) (r : RpL K F vs ds) : Walks K (Itt K a) F ds := by
  intro i H s
  have hq : ∀ {H}, Same F H → SqT K H a vs := fun s => (Le.of s).sqT hs
  refine ⟨fun d hd => ?_, fun hi => ⟨vs, hq s, by rw [r.length]; omega⟩⟩
  obtain ⟨v, hv, rv⟩ := r.at hd
  refine ⟨⟨vs, v, hq s, hv⟩, fun x H' hy => ?_⟩
  obtain ⟨rfl, hx⟩ := hy
  have := hx vs (hq s)
  rw [hv] at this
  cases this
  exact ⟨rfl, rv⟩
def rngD (lo : Int) (k : Nat) : List D := (List.range k).map fun i : Nat => D.int (lo + (i : Int))
theorem rngD_len (lo : Int) (k : Nat) : (rngD lo k).length = k := by simp [rngD]
theorem rngD_at {lo : Int} {k i : Nat} {d : D} (h : (rngD lo k)[i]? = some d) : i < k ∧ d = .int (lo + (i : Int)) := by
  have hi : i < k := by
    have := (List.getElem?_eq_some_iff.mp h).1
    rwa [rngD_len] at this
  refine ⟨hi, ?_⟩
  unfold rngD at h
  rw [List.getElem?_map, List.getElem?_range hi] at h
  exact (Option.some.inj h).symm
theorem walks_rng {F : Hp} (lo : Int) (k : Nat) : Walks K (Itr lo k) F (rngD lo k) := by
  intro i H s
  refine ⟨fun d hd => ?_, fun hi => ?_⟩
  · obtain ⟨hi, rfl⟩ := rngD_at hd
    refine ⟨hi, fun x H' hy => ?_⟩
    obtain ⟨rfl, rfl⟩ := hy
    exact ⟨rfl, .int _⟩
  · rw [rngD_len] at hi
    exact Nat.le_of_eq hi.symm
def sgnD (x : PySem.Str) : List D := x.cps.toList.map fun c => D.str ⟨#[c]⟩
theorem walks_str {F : Hp} (x : PySem.Str) : Walks K (Its x) F (sgnD x) := by
  intro i H s
  refine ⟨fun d hd => ?_, fun hi => ?_⟩
  · unfold sgnD at hd
    rw [List.getElem?_map] at hd
    cases q : x.cps.toList[i]? with
    | none => rw [q] at hd; cases hd
    | some c =>
      rw [q] at hd
      cases (Option.some.inj hd)
      have hi : i < x.cps.size := by
        have := (List.getElem?_eq_some_iff.mp q).1
        simpa using this
      refine ⟨hi, fun y H' hy => ?_⟩
      obtain ⟨rfl, c', hc, rfl⟩ := hy
      have : c' = c := by
        rw [Array.getElem?_toList] at q
        rw [q] at hc
        exact (Option.some.inj hc).symm
      subst this
      exact ⟨rfl, .str _⟩
  · show x.cps.size ≤ i
    unfold sgnD at hi
    simp at hi
    omega
theorem wi_list {te : WX → TE} {P : List D → List MV → Prop} (h : wpD K n te ms (fun d m1 => ∃ ds, d = .lst ds ∧ P ds m1) X) : wpI K n (fun W => iList K (te W)) ms P X := by
  intro W G F H σ gv Q hn S k x
  refine h W G F H σ gv _ hn S (fun d v m1 g1 F1 H1 ho S1 r1 e1 => ?_) x
  obtain ⟨ds, rfl, p⟩ := ho
  cases r1 with
  | lst hs r => exact ⟨_, rfl, ⟨_, SqL.of (S1.f _ _ hs)⟩, k ds _ m1 g1 F1 H1 p S1 (walks_list (SqL.of hs) r) e1⟩
theorem wi_tup {te : WX → TE} {P : List D → List MV → Prop} (h : wpD K n te ms (fun d m1 => ∃ ds, d = .tup ds ∧ P ds m1) X) : wpI K n (fun W => iTup K (te W)) ms P X := by
  intro W G F H σ gv Q hn S k x
  refine h W G F H σ gv _ hn S (fun d v m1 g1 F1 H1 ho S1 r1 e1 => ?_) x
  obtain ⟨ds, rfl, p⟩ := ho
  cases r1 with
  | tup hs r => exact ⟨_, rfl, ⟨_, (Le.of S1.f).sqT hs⟩, k ds _ m1 g1 F1 H1 p S1 (walks_tup hs r) e1⟩
theorem wi_str {te : WX → TE} {P : List D → List MV → Prop} (h : wpD K n te ms (fun d m1 => ∃ x, d = .str x ∧ P (sgnD x) m1) X) : wpI K n (fun W => iStr (te W)) ms P X := by
  intro W G F H σ gv Q hn S k x
  refine h W G F H σ gv _ hn S (fun d v m1 g1 F1 H1 ho S1 r1 e1 => ?_) x
  obtain ⟨z, rfl, p⟩ := ho
  cases r1
  exact ⟨_, rfl, k _ _ m1 g1 F1 H1 p S1 (walks_str z) e1⟩
theorem wi_rng1 {ta : WX → TA} {P : List D → List MV → Prop} (h : wpA K n ta ms (fun ds m1 => ∃ j : Int, ds = [.int j] ∧ j ≤ 1000000 ∧ -1000000 ≤ j ∧ P (rngD 0 j.toNat) m1) X) : wpI K n (fun W => iRng1 (ta W)) ms P X := by
  intro W G F H σ gv Q hn S k x
  refine h W G F H σ gv _ hn S (fun ds vs m1 g1 F1 H1 ho S1 r1 e1 => ?_) x
  obtain ⟨j, rfl, b1, b2, p⟩ := ho
  cases r1 with
  | cons r1 r2 =>
    cases r1
    cases r2
    exact ⟨j, rfl, by omega, by omega, k _ _ m1 g1 F1 H1 p S1 (walks_rng 0 _) e1⟩
theorem wi_rng2 {ta : WX → TA} {P : List D → List MV → Prop} (h : wpA K n ta ms (fun ds m1 => ∃ i j : Int, ds = [.int i, .int j] ∧ (j ≤ 1000000 ∧ -1000000 ≤ j) ∧ (i ≤ 1000000 ∧ -1000000 ≤ i) ∧ P (rngD i (j - i).toNat) m1) X) : wpI K n (fun W => iRng2 (ta W)) ms P X := by
  intro W G F H σ gv Q hn S k x
  refine h W G F H σ gv _ hn S (fun ds vs m1 g1 F1 H1 ho S1 r1 e1 => ?_) x
  obtain ⟨i, j, rfl, b1, b2, p⟩ := ho
  cases r1 with
  | cons r1 r2 =>
    cases r1
    cases r2 with
    | cons r2 r3 =>
      cases r2
      cases r3
      exact ⟨i, j, rfl, ⟨by omega, by omega, by omega, by omega⟩, k _ _ m1 g1 F1 H1 p S1 (walks_rng _ _) e1⟩
/-- for -/
theorem ws_for {ti : WX → TI} {g : TG} {tb : WX → TS}
    (h : wpI K n ti ms (fun ds m1 => ∃ I : Nat → List MV → Prop, I 0 m1 ∧ (∀ i d m, ds[i]? = some d → I i m → wpG K n g d m fun m2 => wpS K n tb m2 (I (i + 1)) R X) ∧ ∀ m, I ds.length m → N m) X) :
    wpS K n (fun W => tFor (ti W) g (tb W)) ms N R X := by
  intro W G F H σ gv E hn S k r x
  refine h W G F H σ gv _ hn S (fun ds J m1 g1 F1 H1 ho S1 w e1 => ?_) (fun c m g F' H' p S' e => x c m σ g F' H' p hn S' e)
  obtain ⟨I, h0, hs, hd⟩ := ho
  let Pv : Nat → L2.St → Hp → Prop := fun i σ' H' => ∃ m gv' F', I i m ∧ σ'.length = n ∧ St K G F' H' m (σ' ++ gv') ∧ Same F1 F'
  refine ⟨fun i m σ' H' => i + m = ds.length ∧ Pv i σ' H', ⟨ds.length, by omega, m1, g1, F1, h0, hn, S1, Same.refl _⟩, fun i m σ' H' hW => ?_⟩
  obtain ⟨em, m2, g2, F2, hI, hn2, S2, e2⟩ := hW
  cases q : ds[i]? with
  | none =>
    have hi : ds.length ≤ i := List.getElem?_eq_none_iff.mp q
    have hi' : i = ds.length := by omega
    subst hi'
    exact .inl ⟨((w.up e2) _ H' S2.f).2 rfl, k m2 σ' g2 F2 H' (hd _ hI) hn2 S2 (e1.trans e2)⟩
  | some d =>
    have hi : i < ds.length := (List.getElem?_eq_some_iff.mp q).1
    obtain ⟨hgo, hy⟩ := ((w.up e2) i H' S2.f).1 d q
    refine .inr ⟨hgo, Pv (i + 1), fun σ3 H3 hP => ⟨m - 1, by omega, by omega, hP⟩, fun y H3 hyl => ?_⟩
    obtain ⟨rfl, ry⟩ := hy y H3 hyl
    refine hs i d m2 q hI G F2 H3 σ' g2 y _ hn2 S2 ry fun m3 σ3 h3 hn3 S3 => ?_
    exact h3 W G F2 H3 σ3 g2 _ hn3 S3 (fun m4 σ4 g4 F4 H4 p4 l4 S4 e4 => ⟨m4, g4, F4, p4, l4, S4, e2.trans e4⟩) (fun mm v m4 σ4 g4 F4 H4 p4 l4 S4 e4 => r mm v m4 σ4 g4 F4 H4 p4 l4 S4 ((e1.trans e2).trans e4)) fun c m4 σ4 g4 F4 H4 p4 l4 S4 e4 => x c m4 σ4 g4 F4 H4 p4 l4 S4 ((e1.trans e2).trans e4)
/-- while -/
theorem ws_while {tc : WX → TT} {tb : WX → TS} (I : Nat → List MV → Prop) (h0 : ∃ q, I q ms)
    (hs : ∀ q m, I q m → wpT K n tc m (fun b m1 => if b = true then wpS K n tb m1 (fun m2 => ∃ q', q' < q ∧ I q' m2) R X else N m1) X) : wpS K n (fun W => tWhile (tc W) (tb W)) ms N R X := by
  intro W G F H σ gv E hn S k r x
  refine ⟨fun q σ' H' => ∃ m gv' F', I q m ∧ σ'.length = n ∧ St K G F' H' m (σ' ++ gv') ∧ Same F F', ?_, fun q σ' H' hW => ?_⟩
  · obtain ⟨q, hq⟩ := h0
    exact ⟨q, ms, gv, F, hq, hn, S, Same.refl _⟩
  · obtain ⟨m, g1, F1, hI, hn1, S1, e1⟩ := hW
    refine hs q m hI W G F1 H' σ' g1 _ hn1 S1 (fun b m2 g2 F2 H2 ho S2 e2 => ?_) (fun c m g F' H' p S' e => x c m σ' g F' H' p hn1 S' (e1.trans e))
    cases b with
    | false =>
      rw [if_neg Bool.false_ne_true] at ho ⊢
      exact k m2 σ' g2 F2 H2 ho hn1 S2 (e1.trans e2)
    | true =>
      rw [if_pos rfl] at ho ⊢
      refine ⟨fun σ3 H3 => ∃ q', q' < q ∧ ∃ m gv' F', I q' m ∧ σ3.length = n ∧ St K G F' H3 m (σ3 ++ gv') ∧ Same F F', fun σ3 H3 hN => hN, ?_⟩
      exact ho W G F2 H2 σ' g2 _ hn1 S2 (fun m4 σ4 g4 F4 H4 p4 l4 S4 e4 => by
        obtain ⟨q', lt, hI'⟩ := p4
        exact ⟨q', lt, m4, g4, F4, hI', l4, S4, (e1.trans e2).trans e4⟩) (fun mm v m4 σ4 g4 F4 H4 p4 l4 S4 e4 => r mm v m4 σ4 g4 F4 H4 p4 l4 S4 ((e1.trans e2).trans e4)) fun c m4 σ4 g4 F4 H4 p4 l4 S4 e4 => x c m4 σ4 g4 F4 H4 p4 l4 S4 ((e1.trans e2).trans e4)
/-! ### list comprehensions -/
def wipeM : List MV → List Nat → List MV
  | m, [] => m
  | m, v :: vs => wipeM (m.set v .un) vs
theorem wipeM_set : ∀ (vs : List Nat) (m : List MV) (v : Nat), (wipeM m vs).set v .un = wipeM (m.set v .un) vs
  | [], _, _ => rfl
  | a :: vs, m, v => by
    show (wipeM (m.set a .un) vs).set v .un = wipeM ((m.set v .un).set a .un) vs
    rw [wipeM_set vs]
    by_cases h : a = v
    · rw [h]
    · rw [List.set_comm _ _ h]
theorem St.wipe {G F H : Hp} {σ gv : List (Option V)} (S : St K G F H ms (σ ++ gv)) : ∀ (vs : List Nat), (∀ v ∈ vs, v < σ.length) → St K G F H (wipeM ms vs) (L2.wipe σ vs ++ gv)
  | [], _ => S
  | v :: vs, hv => by
    have S1 := St.wipe S vs fun u hu => hv u (List.mem_cons_of_mem _ hu)
    have S2 := S1.setU (o := none) v
    rw [set_app (by rw [wipe_length]; exact hv v List.mem_cons_self), wipeM_set] at S2
    exact S2
theorem St.unwipe {G F H : Hp} {σ gv : List (Option V)} : ∀ (vs : List Nat) {ms : List MV}, (∀ v ∈ vs, v < σ.length) → St K G F H ms (L2.wipe σ vs ++ gv) → St K G F H (wipeM ms vs) (σ ++ gv)
  | [], ms, _, S => S
  | v :: vs, ms, hv, S => by
    have hl : v < (L2.wipe σ vs).length := by rw [wipe_length]; exact hv v List.mem_cons_self
    have S2 := S.setU (o := (L2.wipe σ vs)[v]) v
    have e : ((L2.wipe σ (v :: vs) ++ gv).set v (L2.wipe σ vs)[v]) = L2.wipe σ vs ++ gv := by
      show (((L2.wipe σ vs).set v none) ++ gv).set v _ = _
      rw [List.set_append_left _ _ (by rw [List.length_set]; exact hl), List.set_set, set_self (List.getElem?_eq_getElem hl)]
    rw [e] at S2
    exact St.unwipe vs (fun u hu => hv u (List.mem_cons_of_mem _ hu)) S2
abbrev W0 : WX := fun _ _ _ _ => False
def tLcW (ti : TI) (g : TG) (tt : WX → TT) (te : WX → TE) (vs : List Nat) : TE := tLc ti g (tt W0) (te W0) vs
theorem wipe_set0 {s : L2.St} {j : Nat} {o : Option V} : ∀ vs : List Nat, (L2.wipe (s.set j o) vs).set j none = (L2.wipe s vs).set j none
  | [] => by show (s.set j o).set j none = s.set j none; rw [List.set_set]
  | v :: vs => by
    show ((L2.wipe (s.set j o) vs).set v none).set j none = ((L2.wipe s vs).set v none).set j none
    by_cases h : v = j
    · subst h
      rw [wipe_set0 vs]
    · rw [List.set_comm _ _ h, wipe_set0 vs, List.set_comm _ _ h]
theorem wipe_set {s : L2.St} {j : Nat} {o : Option V} : ∀ {vs : List Nat}, j ∈ vs → L2.wipe (s.set j o) vs = L2.wipe s vs
  | [], h => by cases h
  | v :: vs, h => by
    show (L2.wipe (s.set j o) vs).set v none = (L2.wipe s vs).set v none
    by_cases hv : j = v
    · subst hv; exact wipe_set0 vs
    · have : j ∈ vs := by
        cases h with
        | head => exact absurd rfl hv
        | tail _ h => exact h
      rw [wipe_set this]
theorem wipe_wipe {s : L2.St} : ∀ vs : List Nat, L2.wipe (L2.wipe s vs) vs = L2.wipe s vs
  | [] => rfl
  | v :: vs => by
    show (L2.wipe ((L2.wipe s vs).set v none) vs).set v none = (L2.wipe s vs).set v none
    rw [wipe_set0, wipe_wipe vs]
/-- a target that stores the block's own names alone -/
def GOk (g : TG) (vs : List Nat) : Prop := ∀ (w s0 : L2.St) (x : V) (H : Hp) (Q : L2.St → Hp → Prop), L2.wipe s0 vs = w → g x s0 H (fun s h => L2.wipe s vs = w → Q s h) → g x s0 H fun s h => L2.wipe s vs = w ∧ Q s h
def GsOk (g : TGs) (vs : List Nat) : Prop := ∀ (w s0 : L2.St) (x : List V) (H : Hp) (Q : L2.St → Hp → Prop), L2.wipe s0 vs = w → g x s0 H (fun s h => L2.wipe s vs = w → Q s h) → g x s0 H fun s h => L2.wipe s vs = w ∧ Q s h
theorem gok_name {j : Nat} {vs : List Nat} (h : j ∈ vs) : GOk (gName j) vs := fun w s0 x H Q e k => by
  have e' : L2.wipe (s0.set j (some x)) vs = w := by rw [wipe_set h]; exact e
  exact ⟨e', k e'⟩
theorem gsok_nil {vs : List Nat} : GsOk gNil vs := fun w s0 x H Q e k => ⟨k.1, e, k.2 e⟩
theorem gsok_cons {j : Nat} {gs : TGs} {vs : List Nat} (h : j ∈ vs) (hs : GsOk gs vs) : GsOk (gCons (gName j) gs) vs := fun w s0 x H Q e k => by
  obtain ⟨v, r, rfl, k⟩ := k
  exact ⟨v, r, rfl, hs w _ r H Q (by rw [wipe_set h]; exact e) k⟩
theorem gok_tup {m : Nat} {gs : TGs} {vs : List Nat} (hs : GsOk gs vs) : GOk (gTup K m gs) vs := fun w s0 x H Q e k => by
  obtain ⟨a, xs, rfl, h1, h2, k⟩ := k
  exact ⟨a, xs, rfl, h1, h2, hs w s0 xs H Q e k⟩
theorem wd_lc {ti : WX → TI} {g : TG} {tt : WX → TT} {te : WX → TE} {vs : List Nat} {P : D → List MV → Prop} (hvs : ∀ v ∈ vs, v < n) (hg : GOk g vs)
    (h : wpI K n ti ms (fun ds m1 => ds.length ≤ 1000000 ∧ ∃ I : Nat → List D → List MV → Prop, I 0 [] (wipeM m1 vs) ∧
      (∀ i d acc m, ds[i]? = some d → I i acc m → wpG K n g d m fun m2 => wpT K n tt m2 (fun b m3 => if b = true then wpD K n te m3 (fun e m4 => I (i + 1) (acc ++ [e]) (wipeM m4 vs)) noX else I (i + 1) acc (wipeM m3 vs)) noX) ∧
      ∀ acc m, I ds.length acc m → P (.lst acc) (wipeM m vs)) X) :
    wpD K n (fun W => tLcW (ti W) g tt te vs) ms P X := by
  intro W G F H σ gv Q hn S k x
  refine h W G F H σ gv _ hn S (fun ds J m1 g1 F1 H1 ho S1 w e1 => ?_) x
  obtain ⟨hlen, I, h0, hs, hd⟩ := ho
  have hvn : ∀ v ∈ vs, v < σ.length := fun v hv => by rw [hn]; exact hvs v hv
  have hwl : (L2.wipe σ vs).length = n := by rw [wipe_length]; exact hn
  intro Dl hDl
  -- the list that grows stands behind the slots
  let gh : List D → MV := fun acc => .ot Dl (.lst (acc.map .lf))
  let Pv : Nat → Hp → Prop := fun i H' => ∃ acc m gv' F', I i acc m ∧ acc.length ≤ i ∧ St K G F' H' (m ++ [gh acc]) ((L2.wipe σ vs ++ gv') ++ [some (.ref Dl)]) ∧ Same F1 F'
  have put : ∀ {G F H : Hp} {m : List MV} {s : List (Option V)} {q : MV} {o : Option V}, St K G F H (q :: m) (o :: s) → St K G F H (m ++ [q]) (s ++ [o]) := by
    intro G F H m s q o S
    refine S.sub fun h y => ?_
    have y1 : OwS K F ([q] ++ m) ([o] ++ s) h := y
    obtain ⟨a, b, p1, p2, d, rfl⟩ := OwS.split (a := [q]) (s := [o]) rfl y1
    refine ⟨_, p2.join p1 d.symm, ?_⟩
    rw [jn_comm d.symm]
    exact Same.refl _
  refine ⟨fun i m H' => i + m = ds.length ∧ Pv i H', ⟨ds.length, by omega, [], wipeM m1 vs, g1, F1, h0, by simp, ?_, Same.refl _⟩, fun i m H' hW => ?_⟩
  · exact put ((S1.wipe vs hvn).newOwn hDl (.lst (owL_of .nil) rfl))
  obtain ⟨em, acc, m2, g2, F2, hI, hacc, S2, e2⟩ := hW
  have hm2 : m2.length = (L2.wipe σ vs ++ g2).length := by
    have := S2.len
    simp only [List.length_append, List.length_cons, List.length_nil] at this ⊢
    omega
  have last : ∀ (l : List MV) (q : MV), (l ++ [q])[l.length]? = some q := fun l q => by simp
  cases q : ds[i]? with
  | none =>
    have hi : ds.length ≤ i := List.getElem?_eq_none_iff.mp q
    have hi' : i = ds.length := by omega
    subst hi'
    refine .inl ⟨((w.up e2) _ H' S2.f).2 rfl, ?_⟩
    obtain ⟨F3, e3, S3⟩ := S2.freeze (last m2 (gh acc))
    have S3' : St K G F3 H' (m2 ++ [.fz (.lst acc)]) ((L2.wipe σ vs ++ g2) ++ [some (.ref Dl)]) := by
      rw [List.set_append_right _ _ (Nat.le_refl _)] at S3
      simpa [toD_lst] using S3
    obtain ⟨v, hv, rv⟩ := S3'.get (last m2 (.fz (.lst acc)))
    have hv' : v = .ref Dl := by
      rw [hm2] at hv
      simpa using hv.symm
    subst hv'
    have S4 : St K G F3 H' m2 (L2.wipe σ vs ++ g2) := S3'.sub fun h y => by
      obtain ⟨a, b, p1, p2, d, rfl⟩ := y.split hm2
      exact ⟨a, p1, Same.jn_l⟩
    exact k _ _ _ g2 F3 H' (hd acc m2 hI) (St.unwipe vs hvn S4) rv ((e1.trans e2).trans e3)
  | some d =>
    have hi : i < ds.length := (List.getElem?_eq_some_iff.mp q).1
    obtain ⟨hgo, hy⟩ := ((w.up e2) i H' S2.f).1 d q
    refine .inr ⟨hgo, Pv (i + 1), fun H3 hP => ⟨m - 1, by omega, by omega, hP⟩, fun y H3 hyl => ?_⟩
    obtain ⟨rfl, ry⟩ := hy y H3 hyl
    obtain ⟨G', SL, back⟩ := St.lend hm2 S2
    refine hg (L2.wipe σ vs) (L2.wipe σ vs) y H3 _ (wipe_wipe vs) (hs i d acc m2 q hI G' F2 H3 (L2.wipe σ vs) g2 y _ hwl SL ry fun m3 σ3 h3 hn3 S3 ew => ?_)
    have hv3 : ∀ v ∈ vs, v < σ3.length := fun v hv => by rw [hn3]; exact hvs v hv
    refine h3 W0 G' F2 H3 σ3 g2 _ hn3 S3 (fun b m4 g4 F4 H4 ho S4 e4 => ?_) (fun c m g F' H' p S' e => p.elim)
    cases b with
    | false =>
      rw [if_neg Bool.false_ne_true] at ho ⊢
      have S5 := S4.wipe vs hv3
      rw [ew] at S5
      exact ⟨acc, _, g4, F4, ho, by omega, back F4 H4 _ _ e4 S5, e2.trans e4⟩
    | true =>
      rw [if_pos rfl] at ho ⊢
      refine ho W0 G' F4 H4 σ3 g4 _ hn3 S4 (fun e v5 m5 g5 F5 H5 hI5 S5 r5 e5 => ?_) (fun c m g F' H' p S' e => p.elim)
      have S6 := S5.wipe vs hv3
      rw [ew] at S6
      have S7 := back F5 H5 _ _ (e4.trans e5) S6
      obtain ⟨ws, hD, hwsl, f⟩ := S7.list (last _ (gh acc))
      refine ⟨ws, hD, by rw [hwsl, List.length_map, sizeLine_eq]; omega, acc ++ [e], _, g5, F5, hI5, by simp; omega, ?_, (e2.trans e4).trans e5⟩
      have S8 := f (ws ++ [v5]) (acc.map .lf ++ [.lf e]) fun h0 w0 => ⟨h0, w0.snoc r5, Same.refl _⟩
      rw [List.set_append_right _ _ (Nat.le_refl _)] at S8
      simpa [gh] using S8
end
end M
namespace M
open PySem L2
/-! ### the readings of operators, whatever the kinds -/
abbrev rAddI : R2 := rI0 fun i j => .int (i + j)
abbrev rAddS : R2 := fun x y H Q => ∃ i j, x = .str i ∧ y = .str j ∧ i.length + j.length ≤ sizeLine ∧ Q (.str (i ++ j)) H
def rAddA (K : PySem.W.Frag) : R2 := fun x y H Q => rAddI x y H Q ∨ (rAddS x y H Q ∨ (rCat x y H Q ∨ rCatA K x y H Q))
def rMulS : R2 := fun x y H Q => ∃ i j, x = .str i ∧ y = .int j ∧ MulOk i j ∧ Q (.str (Txt.mul i j)) H
def rMulA : R2 := fun x y H Q => rI CMul (fun i j => .int (i * j)) x y H Q ∨ (rMulS x y H Q ∨ rRep x y H Q)
def rEqA (K : PySem.W.Frag) : R2 := fun x y H Q => rEq x y H Q ∨ rEqD K x y H Q
def rNeA (K : PySem.W.Frag) : R2 := fun x y H Q => rNe x y H Q ∨ rNeD K x y H Q
def rIxA (K : PySem.W.Frag) : R2 := fun x y H Q => rIxL K x y H Q ∨ (rIxT K x y H Q ∨ rIxS x y H Q)
abbrev rInS : R2 := fun x y H Q => ∃ i j, x = .str i ∧ y = .str j ∧ Q (.bl (!(Builtin.Str.occurrences j i 0 j.length 1).isEmpty)) H
abbrev rNotInS : R2 := fun x y H Q => ∃ i j, x = .str i ∧ y = .str j ∧ Q (.bl (!(!(Builtin.Str.occurrences j i 0 j.length 1).isEmpty))) H
def rInA (K : PySem.W.Frag) : R2 := fun x y H Q => rIn K false x y H Q ∨ rInS x y H Q
def rNotInA (K : PySem.W.Frag) : R2 := fun x y H Q => rIn K true x y H Q ∨ rNotInS x y H Q
def rSlA' (K : PySem.W.Frag) : V → Option Int → Option Int → Hp → VK → Prop := fun x l h H Q => rSlL K x l h H Q ∨ rSlS x l h H Q
def rLenA (K : PySem.W.Frag) : List V → Hp → VK → Prop := fun xs H Q => (∃ x n, xs = [x] ∧ LenV K x H n ∧ Q (.int n) H) ∨ ∃ a kvs, xs = [V.ref a] ∧ H a = some (.dK kvs) ∧ Q (.int kvs.length) H
section
variable {X : Cx}
theorem op_mulS : OpR X (binaryOp .Mult) rMulS := by
  intro pins s σ H x y v u Q I rx ry h
  obtain ⟨i, j, rfl, rfl, hm, q⟩ := h
  obtain ⟨t, rfl⟩ := rx
  obtain ⟨t2, rfl⟩ := ry
  exact SB.mul hm fun t' k => ⟨.str _, H, I.tok _, ⟨_, rfl⟩, q⟩
theorem op_addA : OpR X (binaryOp .Add) (rAddA X.K) := OpR.or op_add (OpR.or op_add_str (OpR.or op_cat op_catA))
theorem op_mulA : OpR X (binaryOp .Mult) rMulA := OpR.or op_mul (OpR.or op_mulS op_rep)
theorem op_eqA (hu : X.A.units + 64 < cLine) : OpR X (compareOp .Eq) (rEqA X.K) := OpR.or op_eq (op_eqD hu)
theorem op_neA (hu : X.A.units + 64 < cLine) : OpR X (compareOp .NotEq) (rNeA X.K) := OpR.or op_ne (op_neD hu)
theorem op_inA : OpR X (compareOp .In) (rInA X.K) := OpR.or op_in_seq op_in_str
theorem op_notInA : OpR X (compareOp .NotIn) (rNotInA X.K) := OpR.or op_notIn_seq op_notin_str
theorem ix_any : IxR X (rIxA X.K) := by
  intro va sl pins s σ H x y v u Q I rx ry h e
  rcases h with h | h | h
  · exact ix_list va sl pins s σ H x y v u Q I rx ry h e
  · exact ix_tup va sl pins s σ H x y v u Q I rx ry h e
  · exact ix_str va sl pins s σ H x y v u Q I rx ry h e
theorem sl_any : SlR X (rSlA' X.K) := SlR.or sl_list sl_str
theorem call_lenA : CallR X (.builtin "len") (rLenA X.K) := CallR.or call_len call_lenD
end
/-! ### what they do of data -/
section
variable {K : PySem.W.Frag} {P : D → Prop}
theorem o_I0i {g : Int → Int → Int} {i j : Int} (h : P (.int (g i j))) : opD K (rI0 fun i j => .int (g i j)) (.int i) (.int j) P := by
  intro x y F H Q r1 r2 s k
  cases r1
  cases r2
  exact ⟨i, j, rfl, rfl, k _ _ F H h .refl (.int _)⟩
theorem o_I0b {g : Int → Int → Bool} {i j : Int} (h : P (.bl (g i j))) : opD K (rI0 fun i j => .bl (g i j)) (.int i) (.int j) P := by
  intro x y F H Q r1 r2 s k
  cases r1
  cases r2
  exact ⟨i, j, rfl, rfl, k _ _ F H h .refl (.bl _)⟩
theorem o_Ii {C : Int → Int → Prop} {g : Int → Int → Int} {i j : Int} (hc : C i j) (h : P (.int (g i j))) : opD K (rI C fun i j => .int (g i j)) (.int i) (.int j) P := by
  intro x y F H Q r1 r2 s k
  cases r1
  cases r2
  exact ⟨i, j, rfl, rfl, hc, k _ _ F H h .refl (.int _)⟩
theorem o_addI {i j : Int} (h : P (.int (i + j))) : opD K (rAddA K) (.int i) (.int j) P := fun x y F H Q r1 r2 s k => .inl (o_I0i (g := fun i j => i + j) h x y F H Q r1 r2 s k)
theorem o_addS {i j : PySem.Str} (hl : i.length + j.length ≤ 1000000) (h : P (.str (i ++ j))) : opD K (rAddA K) (.str i) (.str j) P := by
  intro x y F H Q r1 r2 s k
  cases r1
  cases r2
  exact .inr (.inl ⟨i, j, rfl, rfl, by rw [sizeLine_eq]; omega, k _ _ F H h .refl (.str _)⟩)
theorem RpL.app {F : Hp} : ∀ {v w : List V} {d e : List D}, RpL K F v d → RpL K F w e → RpL K F (v ++ w) (d ++ e)
  | _, _, _, _, .nil, q => q
  | _, _, _, _, .cons r t, q => .cons r (RpL.app t q)
theorem o_addL {a b : List D} (hl : a.length + b.length ≤ 1000000) (h : P (.lst (a ++ b))) : opD K (rAddA K) (.lst a) (.lst b) P := by
  intro x y F H Q r1 r2 s k
  cases r1 with
  | lst e1 r1 =>
    cases r2 with
    | lst e2 r2 =>
      refine .inr (.inr (.inl ⟨_, _, _, _, rfl, rfl, s _ _ e1, s _ _ e2, ?_, fun p hp => ?_⟩))
      · rw [r1.length, r2.length, sizeLine_eq]; omega
      · have nF := s.free hp
        exact k _ _ _ _ h (.new .refl hp) (.lst upd_same ((RpL.app r1 r2).up (same_new nF)))
theorem o_addT {a b : List D} (hl : a.length + b.length ≤ 1000000) (h : P (.tup (a ++ b))) : opD K (rAddA K) (.tup a) (.tup b) P := by
  intro x y F H Q r1 r2 s k
  cases r1 with
  | tup e1 r1 =>
    cases r2 with
    | tup e2 r2 =>
      refine .inr (.inr (.inr ⟨_, _, _, _, rfl, rfl, (Le.of s).sqT e1, (Le.of s).sqT e2, ?_, fun z => ?_, fun _ z => ?_, fun _ _ p hp => ?_⟩))
      · rw [r1.length, r2.length, sizeLine_eq]; omega
      · subst z
        cases r1
        exact k _ _ F H h .refl (.tup e2 r2)
      · subst z
        cases r2
        rw [List.append_nil] at h
        exact k _ _ F H h .refl (.tup e1 r1)
      · have nF := s.free hp
        exact k _ _ _ _ h (.new .refl hp) (.tup (SqT.of upd_same) ((RpL.app r1 r2).up (same_new nF)))
theorem o_mulI {i j : Int} (hc : CMul i j) (h : P (.int (i * j))) : opD K rMulA (.int i) (.int j) P := fun x y F H Q r1 r2 s k => .inl (o_Ii (C := CMul) (g := fun i j => i * j) hc h x y F H Q r1 r2 s k)
theorem o_mulS {i : PySem.Str} {j : Int} (hc : MulOk i j) (h : P (.str (Txt.mul i j))) : opD K rMulA (.str i) (.int j) P := by
  intro x y F H Q r1 r2 s k
  cases r1
  cases r2
  exact .inr (.inl ⟨i, j, rfl, rfl, hc, k _ _ F H h .refl (.str _)⟩)
theorem RpL.rep {F : Hp} {v : List V} {d : List D} (r : RpL K F v d) : ∀ n : Nat, RpL K F (List.replicate n v).flatten (List.replicate n d).flatten
  | 0 => .nil
  | n + 1 => by
    rw [List.replicate_succ, List.replicate_succ, List.flatten_cons, List.flatten_cons]
    exact RpL.app r (RpL.rep r n)
theorem o_mulL {a : List D} {j : Int} (h1 : -1000 ≤ j) (h2 : j ≤ 1000) (h3 : a.length ≤ 1000) (h : P (.lst (List.replicate j.toNat a).flatten)) : opD K rMulA (.lst a) (.int j) P := by
  intro x y F H Q r1 r2 s k
  cases r1 with
  | lst e1 r1 =>
    cases r2
    refine .inr (.inr ⟨_, j, _, rfl, rfl, s _ _ e1, by omega, by omega, ?_, fun p hp => ?_⟩)
    · rw [r1.length, sizeLine_eq]
      have : j.toNat ≤ 1000 := by omega
      calc a.length * j.toNat ≤ 1000 * 1000 := Nat.mul_le_mul h3 this
        _ ≤ _ := by decide
    · have nF := s.free hp
      exact k _ _ _ _ h (.new .refl hp) (.lst upd_same ((RpL.rep r1 _).up (same_new nF)))
/-! == -/
theorem o_eqS {i j : PySem.Str} (h : P (.bl (decide (i = j)))) : opD K (rEqA K) (.str i) (.str j) P := by
  intro x y F H Q r1 r2 s k
  cases r1
  cases r2
  refine .inl ⟨rfl, ?_⟩
  have : decide (V.str i = V.str j) = decide (i = j) := by simp
  rw [this]
  exact k _ _ F H h .refl (.bl _)
theorem o_eqI {i j : Int} (h : P (.bl (decide (i = j)))) : opD K (rEqA K) (.int i) (.int j) P := by
  intro x y F H Q r1 r2 s k
  cases r1
  cases r2
  refine .inl ⟨rfl, ?_⟩
  have : decide (V.int i = V.int j) = decide (i = j) := by simp
  rw [this]
  exact k _ _ F H h .refl (.bl _)
theorem o_neS {i j : PySem.Str} (h : P (.bl (!decide (i = j)))) : opD K (rNeA K) (.str i) (.str j) P := by
  intro x y F H Q r1 r2 s k
  cases r1
  cases r2
  refine .inl ⟨rfl, ?_⟩
  have : decide (V.str i = V.str j) = decide (i = j) := by simp
  rw [this]
  exact k _ _ F H h .refl (.bl _)
theorem o_neI {i j : Int} (h : P (.bl (!decide (i = j)))) : opD K (rNeA K) (.int i) (.int j) P := by
  intro x y F H Q r1 r2 s k
  cases r1
  cases r2
  refine .inl ⟨rfl, ?_⟩
  have : decide (V.int i = V.int j) = decide (i = j) := by simp
  rw [this]
  exact k _ _ F H h .refl (.bl _)
/-! data as the library has it -/
mutual
def D.py : D → PyData
  | .non => .none
  | .bl b => .bool b
  | .int i => .int i
  | .str x => .str x
  | .lst ds => .list (pys ds)
  | .tup ds => .tuple (pys ds)
  | _ => .dict []
def pys : List D → List PyData
  | [] => []
  | d :: ds => d.py :: pys ds
end
mutual
theorem Rp.dp {F : Hp} : ∀ {v : V} {d : D}, Rp K F v d → d.py.canLay0 = true → Dp K F v d.py
  | _, _, .non, _ => by simp only [D.py]; exact .non
  | _, _, .bl b, _ => by simp only [D.py]; exact .bl b
  | _, _, .int i, _ => by simp only [D.py]; exact .int i
  | _, _, .str x, _ => by simp only [D.py]; exact .str x
  | _, _, .lst e r, h => by
    simp only [D.py, PyData.canLay0] at h ⊢
    exact .lst (SqL.of e) (RpL.dp r h)
  | _, _, .tup e r, h => by
    simp only [D.py, PyData.canLay0] at h ⊢
    exact .tup e (RpL.dp r h)
  | _, _, .sq _ _, h => by simp [D.py, PyData.canLay0] at h
  | _, _, .dic _ _, h => by simp [D.py, PyData.canLay0] at h
  | _, _, .obj _ _ _, h => by simp [D.py, PyData.canLay0] at h
  | _, _, .exc _, h => by simp [D.py, PyData.canLay0] at h
  | _, _, .raw _, h => by simp [D.py, PyData.canLay0] at h
theorem RpL.dp {F : Hp} : ∀ {v : List V} {d : List D}, RpL K F v d → PyData.canLayAll0 (pys d) = true → DpAll K F v (pys d)
  | _, _, .nil, _ => by simp only [pys]; exact .nil
  | _, _, .cons r t, h => by
    simp only [pys, PyData.canLayAll0, Bool.and_eq_true] at h ⊢
    exact .cons (Rp.dp r h.1) (RpL.dp t h.2)
end
mutual
theorem Dp.up {F F' : Hp} (e : Same F F') : ∀ {v : V} {d : PyData}, Dp K F v d → Dp K F' v d
  | _, _, .non => .non
  | _, _, .bl b => .bl b
  | _, _, .int i => .int i
  | _, _, .str x => .str x
  | _, _, .lst h r => .lst (e.seq h) (DpAll.up e r)
  | _, _, .tup h r => .tup ((Le.of e).sqT h) (DpAll.up e r)
theorem DpAll.up {F F' : Hp} (e : Same F F') : ∀ {v : List V} {d : List PyData}, DpAll K F v d → DpAll K F' v d
  | _, _, .nil => .nil
  | _, _, .cons r t => .cons (Dp.up e r) (DpAll.up e t)
end
/-- fit to be compared -/
def D.sh (d : D) : Bool := SeqAt.shaped d.py
theorem D.sh_lay {d : D} (h : d.sh = true) : d.py.canLay0 = true := SeqAt.canLay_of_shaped h
theorem o_eqD {a b : D} (ha : a.sh = true) (hb : b.sh = true) (h : P (.bl (PyData.eqv a.py b.py))) : opD K (rEqA K) a b P := by
  intro x y F H Q r1 r2 s k
  exact .inr ⟨_, _, Dp.up s (r1.dp (D.sh_lay ha)), Dp.up s (r2.dp (D.sh_lay hb)), ha, hb, k _ _ F H h .refl (.bl _)⟩
theorem o_neD {a b : D} (ha : a.sh = true) (hb : b.sh = true) (h : P (.bl (!PyData.eqv a.py b.py))) : opD K (rNeA K) a b P := by
  intro x y F H Q r1 r2 s k
  exact .inr ⟨_, _, Dp.up s (r1.dp (D.sh_lay ha)), Dp.up s (r2.dp (D.sh_lay hb)), ha, hb, k _ _ F H h .refl (.bl _)⟩
mutual
theorem eqv_refl : ∀ d : PyData, d.canLay0 = true → PyData.eqv d d = true
  | .none, _ => by simp [PyData.eqv]
  | .bool _, _ => by simp [PyData.eqv]
  | .int _, _ => by simp [PyData.eqv]
  | .str _, _ => by simp [PyData.eqv]
  | .list xs, h => by
    simp only [PyData.canLay0] at h
    simp only [PyData.eqv]
    exact eqvAll_refl xs h
  | .tuple xs, h => by
    simp only [PyData.canLay0] at h
    simp only [PyData.eqv]
    exact eqvAll_refl xs h
  | .dict _, h => by simp [PyData.canLay0] at h
theorem eqvAll_refl : ∀ d : List PyData, PyData.canLayAll0 d = true → PyData.eqvAll d d = true
  | [], _ => by simp [PyData.eqvAll]
  | d :: ds, h => by
    simp only [PyData.canLayAll0, Bool.and_eq_true] at h
    simp [PyData.eqvAll, eqv_refl d h.1, eqvAll_refl ds h.2]
end
theorem o_eqSame {a : D} (ha : a.sh = true) (h : P (.bl true)) : opD K (rEqA K) a a P := o_eqD ha ha (by rw [eqv_refl _ (D.sh_lay ha)]; exact h)
theorem o_neSame {a : D} (ha : a.sh = true) (h : P (.bl false)) : opD K (rNeA K) a a P := o_neD ha ha (by rw [eqv_refl _ (D.sh_lay ha)]; exact h)
/-! is None -/
abbrev rIsN : R2 := fun x y H Q => y = .non ∧ Q (.bl (decide (x = .non))) H
abbrev rNotN : R2 := fun x y H Q => y = .non ∧ Q (.bl (!decide (x = .non))) H
def isNone : D → Option Bool
  | .non => some true
  | .raw _ => none
  | _ => some false
theorem Rp.isN {F : Hp} {v : V} {d : D} {b : Bool} (r : Rp K F v d) (h : isNone d = some b) : decide (v = .non) = b := by
  cases r <;> cases h <;> rfl
theorem o_isN {a : D} {b : Bool} (e : isNone a = some b) (h : P (.bl b)) : opD K rIsN a .non P := by
  intro x y F H Q r1 r2 s k
  cases r2
  refine ⟨rfl, ?_⟩
  rw [r1.isN e]
  exact k _ _ F H h .refl (.bl _)
theorem o_notN {a : D} {b : Bool} (e : isNone a = some b) (h : P (.bl !b)) : opD K rNotN a .non P := by
  intro x y F H Q r1 r2 s k
  cases r2
  refine ⟨rfl, ?_⟩
  rw [r1.isN e]
  exact k _ _ F H h .refl (.bl _)
/-! items -/
theorem RpL.atI {F : Hp} {vs : List V} {ds : List D} {i : Int} {d : D} (r : RpL K F vs ds) (h : L2.atI ds i = some d) : ∃ v, L2.atI vs i = some v ∧ Rp K F v d := by
  unfold L2.atI at h ⊢
  rw [r.length]
  cases q : ixN ds.length i with
  | none => rw [q] at h; cases h
  | some j => rw [q] at h; exact r.at h
theorem o_ixL {a : List D} {i : Int} {d : D} (e : L2.atI a i = some d) (h : P d) : opD K (rIxA K) (.lst a) (.int i) P := by
  intro x y F H Q r1 r2 s k
  cases r1 with
  | lst e1 r1 =>
    cases r2
    obtain ⟨v, hv, rv⟩ := r1.atI e
    exact .inl ⟨_, _, i, v, rfl, rfl, SqL.of (s _ _ e1), hv, k _ _ F H h .refl rv⟩
theorem o_ixQ {a : List D} {i : Int} {d : D} (e : L2.atI a i = some d) (h : P d) : opD K (rIxA K) (.sq a) (.int i) P := by
  intro x y F H Q r1 r2 s k
  cases r1 with
  | sq e1 r1 =>
    cases r2
    obtain ⟨v, hv, rv⟩ := r1.atI e
    exact .inl ⟨_, _, i, v, rfl, rfl, s.seq e1, hv, k _ _ F H h .refl rv⟩
theorem o_ixT {a : List D} {i : Int} {d : D} (e : L2.atI a i = some d) (h : P d) : opD K (rIxA K) (.tup a) (.int i) P := by
  intro x y F H Q r1 r2 s k
  cases r1 with
  | tup e1 r1 =>
    cases r2
    obtain ⟨v, hv, rv⟩ := r1.atI e
    exact .inr (.inl ⟨_, _, i, v, rfl, rfl, (Le.of s).sqT e1, hv, k _ _ F H h .refl rv⟩)
theorem o_ixS {z : PySem.Str} {i : Int} {c : Nat} (hl : z.length ≤ 1000000) (e : L2.atI z.cps.toList i = some c) (h : P (.str ⟨#[c]⟩)) : opD K (rIxA K) (.str z) (.int i) P := by
  intro x y F H Q r1 r2 s k
  cases r1
  cases r2
  exact .inr (.inr ⟨z, i, c, rfl, rfl, by rw [sizeLine_eq]; omega, e, k _ _ F H h .refl (.str _)⟩)
/-! in -/
def eqD : D → D → Bool
  | .non, .non => true
  | .bl a, .bl b => a == b
  | .bl a, .int b => (if a then 1 else 0) == b
  | .int a, .bl b => a == (if b then 1 else 0)
  | .int a, .int b => a == b
  | .str a, .str b => a == b
  | _, _ => false
theorem Rp_eqf {F F' : Hp} {v w : V} {d e : D} (r : Rp K F v d) (q : Rp K F' w e) (h : flat d = true) (h2 : flat e = true) : L2.eqV v w = eqD d e ∧ flatV v = true := by
  cases r with
  | non => cases q <;> first | exact ⟨rfl, rfl⟩ | cases h2
  | bl b => cases q <;> first | exact ⟨rfl, rfl⟩ | cases h2
  | int i => cases q <;> first | exact ⟨rfl, rfl⟩ | cases h2
  | str x => cases q <;> first | exact ⟨rfl, rfl⟩ | cases h2
  | lst => cases h
  | sq => cases h
  | tup => cases h
  | dic => cases h
  | obj => cases h
  | exc => cases h
  | raw => cases h
def inD (x : D) (xs : List D) : Bool := xs.any fun y => eqD y x
theorem RpL.inV {F F' : Hp} {w : V} {e : D} (q : Rp K F' w e) (h2 : flat e = true) : ∀ {vs : List V} {ds : List D}, RpL K F vs ds → ds.all flat = true → L2.inV w vs = inD e ds ∧ vs.all flatV = true
  | _, _, .nil, _ => ⟨rfl, rfl⟩
  | _, _, .cons r t, h => by
    simp only [List.all_cons, Bool.and_eq_true] at h
    obtain ⟨e1, f1⟩ := Rp_eqf r q h.1 h2
    obtain ⟨e2, f2⟩ := RpL.inV q h2 t h.2
    refine ⟨?_, by simp [f1, f2]⟩
    show (L2.eqV _ w || L2.inV w _) = (eqD _ e || inD e _)
    rw [e1, e2]
theorem Rp_flatV {F : Hp} {v : V} {d : D} (r : Rp K F v d) (h : flat d = true) : L2.flatV v = true := (Rp_eqf r r h h).2
theorem o_inT {a : D} {b : List D} (ha : flat a = true) (hb : b.all flat = true) (h : P (.bl (inD a b))) : opD K (rInA K) a (.tup b) P := by
  intro x y F H Q r1 r2 s k
  cases r2 with
  | tup e2 r2 =>
    obtain ⟨e, f⟩ := RpL.inV r1 ha r2 hb
    refine .inl ⟨_, _, rfl, .inr ((Le.of s).sqT e2), Rp_flatV r1 ha, f, ?_⟩
    rw [if_neg (by decide), e]
    exact k _ _ F H h .refl (.bl _)
theorem o_inL {a : D} {b : List D} (ha : flat a = true) (hb : b.all flat = true) (h : P (.bl (inD a b))) : opD K (rInA K) a (.lst b) P := by
  intro x y F H Q r1 r2 s k
  cases r2 with
  | lst e2 r2 =>
    obtain ⟨e, f⟩ := RpL.inV r1 ha r2 hb
    refine .inl ⟨_, _, rfl, .inl (SqL.of (s _ _ e2)), Rp_flatV r1 ha, f, ?_⟩
    rw [if_neg (by decide), e]
    exact k _ _ F H h .refl (.bl _)
theorem o_notInT {a : D} {b : List D} (ha : flat a = true) (hb : b.all flat = true) (h : P (.bl !(inD a b))) : opD K (rNotInA K) a (.tup b) P := by
  intro x y F H Q r1 r2 s k
  cases r2 with
  | tup e2 r2 =>
    obtain ⟨e, f⟩ := RpL.inV r1 ha r2 hb
    refine .inl ⟨_, _, rfl, .inr ((Le.of s).sqT e2), Rp_flatV r1 ha, f, ?_⟩
    rw [if_pos rfl, e]
    exact k _ _ F H h .refl (.bl _)
theorem o_notInL {a : D} {b : List D} (ha : flat a = true) (hb : b.all flat = true) (h : P (.bl !(inD a b))) : opD K (rNotInA K) a (.lst b) P := by
  intro x y F H Q r1 r2 s k
  cases r2 with
  | lst e2 r2 =>
    obtain ⟨e, f⟩ := RpL.inV r1 ha r2 hb
    refine .inl ⟨_, _, rfl, .inl (SqL.of (s _ _ e2)), Rp_flatV r1 ha, f, ?_⟩
    rw [if_pos rfl, e]
    exact k _ _ F H h .refl (.bl _)
theorem o_inS {i j : PySem.Str} (h : P (.bl (!(Builtin.Str.occurrences j i 0 j.length 1).isEmpty))) : opD K (rInA K) (.str i) (.str j) P := by
  intro x y F H Q r1 r2 s k
  cases r1
  cases r2
  exact .inr ⟨i, j, rfl, rfl, k _ _ F H h .refl (.bl _)⟩
/-! len, all, any, sum, ord -/
def lenD : D → Option Nat
  | .str x => some x.length
  | .lst ds => some ds.length
  | .sq ds => some ds.length
  | .tup ds => some ds.length
  | _ => none
theorem c_len {a : D} {m : Nat} (e : lenD a = some m) (hm : m ≤ 1000000) (h : P (.int m)) : cbD K (rLenA K) [a] P := by
  intro xs F H Q r s k
  cases r with
  | cons r1 r2 =>
    cases r2
    refine .inl ⟨_, m, rfl, ?_, k _ _ F H h .refl (.int _)⟩
    cases r1 with
    | str x => cases e; exact ⟨by rw [sizeLine_eq]; omega, rfl⟩
    | lst e1 r1 => cases e; exact .inl ⟨_, SqL.of (s _ _ e1), r1.length.symm⟩
    | sq e1 r1 => cases e; exact .inl ⟨_, s.seq e1, r1.length.symm⟩
    | tup e1 r1 => cases e; exact .inr ⟨_, (Le.of s).sqT e1, r1.length.symm⟩
    | non => cases e
    | bl => cases e
    | int => cases e
    | dic => cases e
    | obj => cases e
    | exc => cases e
    | raw => cases e
theorem c_lenDic {kvs : List (Key × D)} (h : P (.int kvs.length)) (hr : ∀ F a ks, Rd F a (.dK ks) → True) : True := trivial
abbrev rOrd : List V → Hp → VK → Prop := fun xs H Q => ∃ x, xs = [.str x] ∧ x.length = 1 ∧ Q (.int (x.cps.getD 0 0 : Nat)) H
theorem c_ord {c : Nat} (h : P (.int c)) : cbD K rOrd [.str ⟨#[c]⟩] P := by
  intro xs F H Q r s k
  cases r with
  | cons r1 r2 =>
    cases r2
    cases r1
    exact ⟨_, rfl, rfl, k _ _ F H h .refl (.int _)⟩
theorem RpL.bls {F : Hp} : ∀ {vs : List V} {bs : List Bool}, RpL K F vs (bs.map .bl) → vs = bs.map V.bl
  | _, [], .nil => rfl
  | _, b :: bs, .cons r t => by cases r; rw [RpL.bls t]; rfl
theorem RpL.ints {F : Hp} : ∀ {vs : List V} {bs : List Int}, RpL K F vs (bs.map .int) → vs = bs.map V.int
  | _, [], .nil => rfl
  | _, b :: bs, .cons r t => by cases r; rw [RpL.ints t]; rfl
theorem RpL.strs {F : Hp} : ∀ {vs : List V} {bs : List PySem.Str}, RpL K F vs (bs.map .str) → vs = bs.map V.str
  | _, [], .nil => rfl
  | _, b :: bs, .cons r t => by cases r; rw [RpL.strs t]; rfl
theorem RpL.ofStrs {F : Hp} : ∀ (bs : List PySem.Str), RpL K F (bs.map V.str) (bs.map .str)
  | [] => .nil
  | b :: bs => .cons (.str b) (RpL.ofStrs bs)
theorem RpL.ofInts {F : Hp} : ∀ (bs : List Int), RpL K F (bs.map V.int) (bs.map .int)
  | [] => .nil
  | b :: bs => .cons (.int b) (RpL.ofInts bs)
theorem c_all {bs : List Bool} (h : P (.bl (bs.all id))) : cbD K (rAll K) [.lst (bs.map .bl)] P := by
  intro xs F H Q r s k
  cases r with
  | cons r1 r2 =>
    cases r2
    cases r1 with
    | lst e r =>
      have := r.bls
      subst this
      exact ⟨_, bs, rfl, SqL.of (s _ _ e), k _ _ F H h .refl (.bl _)⟩
theorem c_any {bs : List Bool} (h : P (.bl (bs.any id))) : cbD K (rAny K) [.lst (bs.map .bl)] P := by
  intro xs F H Q r s k
  cases r with
  | cons r1 r2 =>
    cases r2
    cases r1 with
    | lst e r =>
      have := r.bls
      subst this
      exact ⟨_, bs, rfl, SqL.of (s _ _ e), k _ _ F H h .refl (.bl _)⟩
theorem c_sum {ns : List Int} (h : P (.int ns.sum)) : cbD K (rSum K) [.lst (ns.map .int)] P := by
  intro xs F H Q r s k
  cases r with
  | cons r1 r2 =>
    cases r2
    cases r1 with
    | lst e r =>
      have := r.ints
      subst this
      exact ⟨_, ns, rfl, SqL.of (s _ _ e), k _ _ F H h .refl (.int _)⟩
/-! texts -/
variable {n : Nat} {ms : List MV} {X : XP}
theorem wd_m0 {r : V → List V → Hp → VK → Prop} {te : WX → TE} {P : D → List MV → Prop} (h : wpD K n te ms (fun a m1 => ∃ x, a = .str x ∧ bmD K r (.str x) [] fun d => P d m1) X) : wpD K n (fun W => tM0 r (te W)) ms P X := by
  intro W G F H σ gv Q hn S k x
  refine h W G F H σ gv _ hn S (fun a v m1 g1 F1 H1 ho S1 r1 e1 => ?_) x
  obtain ⟨z, rfl, ho⟩ := ho
  cases r1
  exact ⟨⟨z, rfl⟩, ho _ [] F1 H1 Q (.str z) .nil S1.f fun d v F' H' p gr rd => k d v m1 g1 F' H' p (S1.gr gr) rd (e1.trans (gr.same S1.f).1)⟩
theorem wd_m1 {r : V → List V → Hp → VK → Prop} {te tf : WX → TE} {P : D → List MV → Prop} (h : wpD K n te ms (fun a m1 => ∃ x, a = .str x ∧ wpD K n tf m1 (fun b m2 => bmD K r (.str x) [b] fun d => P d m2) X) X) : wpD K n (fun W => tM1 r (te W) (tf W)) ms P X := by
  intro W G F H σ gv Q hn S k x
  refine h W G F H σ gv _ hn S (fun a v m1 g1 F1 H1 ho S1 r1 e1 => ?_) x
  obtain ⟨z, rfl, ho⟩ := ho
  cases r1
  refine ⟨⟨z, rfl⟩, ?_⟩
  refine ho W G F1 H1 σ g1 _ hn S1 (fun b v2 m2 g2 F2 H2 hb S2 r2 e2 => ?_) (fun c m g F' H' p S' e => x c m g F' H' p S' (e1.trans e))
  exact hb _ [v2] F2 H2 Q (.str z) (.cons r2 .nil) S2.f fun d v F' H' p gr rd => k d v m2 g2 F' H' p (S2.gr gr) rd ((e1.trans e2).trans (gr.same S2.f).1)
/-- o.m(..) of a built-in type -/
theorem wd_bm {T : String} {r : V → List V → Hp → VK → Prop} {te : WX → TE} {ta : WX → TA} {P : D → List MV → Prop}
    (h : wpD K n te ms (fun a m1 => (∀ F H v, Same F H → Rp K F v a → tyV K T v H) ∧ wpA K n ta m1 (fun as m2 => bmD K r a as fun d => P d m2) X) X) : wpD K n (fun W => tBM K T r (te W) (ta W)) ms P X := by
  intro W G F H σ gv Q hn S k x
  refine h W G F H σ gv _ hn S (fun a v m1 g1 F1 H1 ho S1 r1 e1 => ?_) x
  refine ⟨ho.1 F1 H1 v S1.f r1, ?_⟩
  refine ho.2 W G F1 H1 σ g1 _ hn S1 (fun as vs m2 g2 F2 H2 hb S2 r2 e2 => ?_) (fun c m g F' H' p S' e => x c m g F' H' p S' (e1.trans e))
  exact hb _ vs F2 H2 Q (r1.up e2) r2 S2.f fun d v F' H' p gr rd => k d v m2 g2 F' H' p (S2.gr gr) rd ((e1.trans e2).trans (gr.same S2.f).1)
theorem ty_lst {ds : List D} {F H : Hp} {v : V} (s : Same F H) (r : Rp K F v (.lst ds)) : tyV K "list" v H := by
  cases r with
  | lst e _ => exact .inl ⟨rfl, _, SqL.of (s _ _ e)⟩
/-- slices -/
def wpO (K : PySem.W.Frag) (n : Nat) (to : WX → TO) (ms : List MV) (P : Option Int → List MV → Prop) (X : XP) : Prop :=
  ∀ (W : WX) (G F H : Hp) (σ gv : List (Option V)) (Q : Option Int → Hp → Prop), σ.length = n → St K G F H ms (σ ++ gv) →
    (∀ o ms' gv' F' H', P o ms' → St K G F' H' ms' (σ ++ gv') → Same F F' → Q o H') →
    (∀ c ms' gv' F' H', X c ms' → St K G F' H' ms' (σ ++ gv') → Same F F' → W c none σ H') → to W σ H Q
theorem wo_none {P : Option Int → List MV → Prop} (h : P none ms) : wpO K n (fun _ => tNoPart) ms P X := by
  intro W G F H σ gv Q hn S k _
  exact k none ms gv F H h S (Same.refl _)
theorem wo_some {te : WX → TE} {P : Option Int → List MV → Prop} (h : wpD K n te ms (fun d m1 => ∃ i, d = .int i ∧ P (some i) m1) X) : wpO K n (fun W => tPart (te W)) ms P X := by
  intro W G F H σ gv Q hn S k x
  refine h W G F H σ gv _ hn S (fun a v m1 g1 F1 H1 ho S1 r1 e1 => ?_) x
  obtain ⟨i, rfl, p⟩ := ho
  cases r1
  exact ⟨i, rfl, k _ m1 g1 F1 H1 p S1 e1⟩
def slD (K : PySem.W.Frag) (r : V → Option Int → Option Int → Hp → VK → Prop) (a : D) (lo hi : Option Int) (P : D → Prop) : Prop :=
  ∀ (x : V) (F H : Hp) (Q : VK), Rp K F x a → Same F H → (∀ d v F' H', P d → Gr F H F' H' → Rp K F' v d → Q v H') → r x lo hi H Q
theorem wd_sl {r : V → Option Int → Option Int → Hp → VK → Prop} {te : WX → TE} {tl th : WX → TO} {P : D → List MV → Prop}
    (h : wpD K n te ms (fun a m1 => wpO K n tl m1 (fun lo m2 => wpO K n th m2 (fun hi m3 => slD K r a lo hi fun d => P d m3) X) X) X) : wpD K n (fun W => L2.tSl r (te W) (tl W) (th W)) ms P X := by
  intro W G F H σ gv Q hn S k x
  refine h W G F H σ gv _ hn S (fun a v m1 g1 F1 H1 ho S1 r1 e1 => ?_) x
  refine ho W G F1 H1 σ g1 _ hn S1 (fun lo m2 g2 F2 H2 ho2 S2 e2 => ?_) (fun c m g F' H' p S' e => x c m g F' H' p S' (e1.trans e))
  refine ho2 W G F2 H2 σ g2 _ hn S2 (fun hi m3 g3 F3 H3 ho3 S3 e3 => ?_) (fun c m g F' H' p S' e => x c m g F' H' p S' ((e1.trans e2).trans e))
  exact ho3 _ F3 H3 Q ((r1.up e2).up e3) S3.f fun d v F' H' p gr rd => k d v m3 g3 F' H' p (S3.gr gr) rd (((e1.trans e2).trans e3).trans (gr.same S3.f).1)
def cutD (xs : List D) (lo hi : Option Int) : List D := (xs.drop (HT.sIx xs.length 0 lo)).take (HT.sIx xs.length xs.length hi - HT.sIx xs.length 0 lo)
theorem RpL.drop {F : Hp} : ∀ {v : List V} {d : List D} (k : Nat), RpL K F v d → RpL K F (v.drop k) (d.drop k)
  | _, _, 0, r => r
  | _, _, _ + 1, .nil => .nil
  | _, _, k + 1, .cons _ t => RpL.drop k t
theorem RpL.take {F : Hp} : ∀ {v : List V} {d : List D} (k : Nat), RpL K F v d → RpL K F (v.take k) (d.take k)
  | _, _, 0, _ => .nil
  | _, _, _ + 1, .nil => .nil
  | _, _, k + 1, .cons r t => .cons r (RpL.take k t)
theorem s_lst {a : List D} {lo hi : Option Int} (h : P (.lst (cutD a lo hi))) : slD K (rSlA' K) (.lst a) lo hi P := by
  intro x F H Q r1 s k
  cases r1 with
  | lst e1 r1 =>
    refine .inl ⟨_, _, rfl, SqL.of (s _ _ e1), fun p hp => ?_⟩
    have nF := s.free hp
    refine k _ _ _ _ h (.new .refl hp) (.lst upd_same (RpL.up ?_ (same_new nF)))
    unfold cutV cutD
    rw [r1.length]
    exact RpL.take _ (RpL.drop _ r1)
theorem s_str {z : PySem.Str} {lo hi : Option Int} (hl : z.length ≤ 1000000) (h : P (.str (cutS z lo hi))) : slD K (rSlA' K) (.str z) lo hi P := by
  intro x F H Q r1 s k
  cases r1
  exact .inr ⟨z, rfl, by rw [sizeLine_eq]; omega, k _ _ F H h .refl (.str _)⟩
end
end M
namespace M
open PySem PySem.Spec PyProof.Rows L2
/-! ### an error that is caught and kept -/
theorem exh_ok {P : Program} {w : World} {H : Hp} {h : Heap} {a : Addr} {cls : Value} {ob : Obj} {fv : Array Value} (e : h.get? a = some ob) (z : Zc cls none ob) (d : ob.data = .fields fv) : ObjOk P w H h a (ExH cls a) :=
  ⟨⟨ob, fv, e, z.1, z.2, d⟩, ⟨ob, e⟩, fun _ _ ⟨o, f, e1, r⟩ k => ⟨o, f, k o e1, r⟩⟩
theorem Inv_adopt {X : Cx} {pins : List (Addr × Obj)} {σ : L2.St} {H : Hp} {s : Shared} {a : Addr} {cls : Value} {ob : Obj} {fv : Array Value} (I : Inv X pins σ H s) (ha : s.heap.get? a = some ob) (z : Zc cls none ob) (hd : ob.data = .fields fv) (na : H a = none) (nL : a ≠ X.env.locals)
    (h0 : X.s_0.heap.get? a = none) (np : ∀ p ∈ X.pn ++ pins, p.1 ≠ a) : Inv X pins σ (upd H a (ExH cls a)) s := by
  have far : ∀ b o, H b = some o → b ≠ a := fun b o e q => by rw [q, na] at e; cases e
  refine ⟨I.ok, I.os, I.bare, ⟨I.base.keep, I.base.slot, fun b o q n x => ?_, I.base.there, fun b xs q => ?_, fun b o u q => ?_, fun b ps q => ?_⟩, I.loc, I.cell, ?_, fun x c hc => ?_, fun p hp => ?_, HOk.laidN I.hok (fun _ _ q => q) na (exh_ok ha z hd), I.len⟩
  · rw [upd_ne (fun q' => by rw [q', h0] at q; cases q)]
    exact I.base.free b o q n x
  · have := I.base.tups b xs q
    rw [upd_ne (far _ _ this)]; exact this
  · have := I.base.frzs b o u q
    rw [upd_ne (far _ _ this)]; exact this
  · obtain ⟨more, e⟩ := I.base.tbls b ps q
    exact ⟨more, by rw [upd_ne (far _ _ e)]; exact e⟩
  · rw [upd_ne (Ne.symm nL)]; exact I.free
  · rw [upd_ne ?_]
    · exact I.freeC x c hc
    · intro q
      obtain ⟨v, cv⟩ := I.cell x c hc
      rw [q] at cv
      obtain ⟨oc, e1, e2⟩ := cv
      rw [ha] at e1
      cases e1
      rw [hd] at e2
      cases e2
  · obtain ⟨q1, q2, q3⟩ := I.pin p hp
    exact ⟨q1, by rw [upd_ne (np p hp)]; exact q2, q3⟩
/-- what 'except c as n' wishes: the error is kept behind the suite -/
def wHeld (K : PySem.W.Frag) (c : Value) (i : Nat) (ts : TS) (W : WX) (D : Ends) : WX := fun cls d σ H =>
  ∃ b, PySem.W.exmOne K cls c = some b ∧ (b = true → d = none ∧ ∀ a, H a = none → ts { nx := fun σ' H' => H' a = none → D.nx (σ'.set i none) (upd H' a (ExH cls a)), rt := fun _ _ => False } (σ.set i (some (.ref a))) H) ∧ (b = false → W cls d σ H)
def tTryHeld (K : PySem.W.Frag) (i : Nat) (C : Addr) (tb : WX → TS) (ts : TS) (W : WX) : TS := fun D σ H => tb (wHeld K (.ref C) i ts W D) D σ H
def tTryOnly (K : PySem.W.Frag) (C : Addr) (tb : WX → TS) (ts : TS) (W : WX) : TS := fun D σ H => tb (wOnly K (.ref C) (fun _ _ _ => ts) W D) D σ H
section
variable {X : Cx} {x n : PySem.Str} {C : Addr} {i : Nat} {body suite : List Stmt} {b0 : Stmt} {np pos pos' : Pos} {tb : WX → TS} {ts : TS} {Wo : WX}
theorem ps_try_held (hs : X.stack = X.env :: X.outer) (hf : X.env.frame = some X.env.locals) (hex : X.ex = []) (hN : X.N.Nodup) (hi : X.N[i]? = some n) (hln : X.env.kindOf n = some .local) (hc : Names X x (.ref C)) (tk : Takes X Wo)
    (hb : ∀ (W : WX) (pn : List (Addr × Obj)) (xe : Value → Shared → Prop), Takes (X.tr pn xe) W → PassesOwn (model X.prog X.w) X.A X.env xe → PSs (X.tr pn xe) body (tb W))
    (hsu : ∀ (a : Addr) (oe : Obj) (cls : Value) (d : Option Addr) (pn : List (Addr × Obj)), Zc cls d oe → (∃ vs, oe.data = .fields vs) → PSs (X.suite a ((a, oe) :: pn)) (b0 :: suite) ts) :
    PS X (.Try body [.ExceptHandler (some (.Name x np)) (some n) (b0 :: suite) pos'] [] [] pos) (tTryHeld X.K i C tb ts Wo) := by
  refine ⟨fun pins s σ H D I h => ?_⟩
  have okX := I.ok
  have frs0 : X.A.frames = some (X.env :: X.outer) := by rw [okX.frames, hs]
  refine wpAny_Try_except ?_
  refine wpAny_mono ((hb (wHeld X.K (.ref C) i ts Wo D) (X.pn ++ pins) (fun e s1 => wpAny (model X.prog X.w) X.A (noteFrame e X.env) (fun _ s2 => wpAny (model X.prog X.w) X.A (setFlight e none) (fun _ s3 =>
    wpAny (model X.prog X.w) X.A (handleBy e X.env [.ExceptHandler (some (.Name x np)) (some n) (b0 :: suite) pos']) (SP X pins D) X.xe s3) X.xe s2) X.xe s1) (fun u s' xx => ?_) PassesOwn.looking).run [] s σ H D (I.toTry _) h) (fun f s1 hsp => ?_) (fun e s1 he => he)
  · obtain ⟨a, B, sI, pj, σ1, H1, cls, d, rfl, Ja, nb, up, sky, na, os, ag, b, hb1, hyes, hno⟩ := xx
    have Jb : Inv X pins σ1 H1 sI := Ja.ofTry okX
    have sky1 : Sky B (X.env :: X.outer) a (Zc cls d) X.env.locals s'.heap := by rw [← hs]; exact sky
    show wpAny (model X.prog X.w) X.A (noteFrame (.ref a) X.env) _ _ _
    refine Sky.land Zc.steady frs0 hf sky1 fun h3 fly up3 => ?_
    have Jc : Inv X pins σ1 H1 { s' with heap := h3 } := Jb.landed nb fly.1 (up.trans up3) os ag
    obtain ⟨oe3, vs3, he3, hz3, hd3⟩ := fly.there
    have nfr : a ∉ frs (X.env :: X.outer) := fun hm => by
      obtain ⟨_, o', e', hnf⟩ := fly.2.2.1.mem hm
      rw [he3] at e'
      cases e'
      exact hnf _ hd3
    have nL : a ≠ X.env.locals := fun z => nfr (List.mem_filterMap.mpr ⟨X.env, List.mem_cons_self, by rw [hf, z]⟩)
    have nF : a ∉ X.fs := fun hm => by
      obtain ⟨e, he, q⟩ := List.mem_filterMap.mp hm
      exact nfr (List.mem_filterMap.mpr ⟨e, List.mem_cons_of_mem _ he, q⟩)
    -- nothing stood at a ahead of it
    have nI : sI.heap.get? a = none := by
      cases q : sI.heap.get? a with
      | none => rfl
      | some o =>
        have := nb a o q (by rw [hs]; exact nfr)
        rw [fly.2.1] at this
        cases this
    have n0 : X.s_0.heap.get? a = none := by
      cases q : X.s_0.heap.get? a with
      | none => rfl
      | some o =>
        obtain ⟨o', e⟩ := Jb.base.there a o q (by rw [hex]; exact fun z => nomatch z)
        rw [nI] at e
        cases e
    have npin : ∀ p ∈ X.pn ++ pins, p.1 ≠ a := fun p hp z => by
      have := (Jb.pin p hp).1
      rw [z, nI] at this
      cases this
    have Sc := Jc.suite he3 hd3 na nL nF
    refine wpAny_handleBy_cons (codeAny_handlers_test ?_) (by intro q; cases q)
    have Lt : PySem.W.Looks (model X.prog X.w) h3 (typeOf (.ref a)) cls := fun A Q E s k q => wpAny_typeOf_ref (k _ _ he3) (by rw [hz3.1]; exact q)
    have Lm := PySem.W.exm_one (M := model X.prog X.w) (Jc.kIn) Lt hb1
    have look : ∀ {Q : Value → Shared → Prop} {E : Value → Shared → Prop}, Q (.ref C) { s' with heap := h3 } → wpAny (model X.prog X.w) (X.A.mark (some (.ref a))) (eval (.Name x np) X.env) Q E { s' with heap := h3 } := fun {Q E} q => by
      obtain ⟨hg, hdbg, hm | ⟨hm, hv, hnn⟩⟩ := hc
      · exact ld_glob (X := X.suite a ((a, oe3) :: (X.pn ++ pins))) Sc hg hm q hdbg
      · exact ld_blt (X := X.suite a ((a, oe3) :: (X.pn ++ pins))) Sc hg hm hv q hnn hdbg
    refine look (Lm.here ?_)
    cases b with
    | true =>
      obtain ⟨rfl, hy⟩ := hyes rfl
      refine codeAny_handlers_suite_as ?_
      refine HandSPX.lands_againZ fly fun h4 fly4 up4 => ?_
      have Jd : Inv X pins σ1 H1 { s' with heap := h4 } := Jb.landed nb fly4.1 ((up.trans up3).trans up4) os ag
      obtain ⟨oe4, vs4, he4, hz4, hd4⟩ := fly4.there
      have Sd := Jd.suite he4 hd4 na nL nF
      refine store_ok (X := X.suite a ((a, oe4) :: (X.pn ++ pins))) (v := .ref a) Sd hN hi (.inl hln) rfl (fun s5 Se => ?_) (.inr hln)
      refine wpAny_mono ((hsu a oe4 cls none (X.pn ++ pins) hz4 ⟨_, hd4⟩).run [] s5 _ H1 _ Se (hy a na)) (fun f s6 hsp => ?_) (fun _ _ z => False.elim z)
      cases f with
      | next =>
        obtain ⟨σ6, H6, S6, q6⟩ := hsp
        obtain ⟨pa1, pa2, pa3⟩ := S6.pin (a, oe4) (List.mem_append_left _ List.mem_cons_self)
        have J6 : Inv X pins σ6 H6 s6 := S6.unsuite okX
        have J7 : Inv X ((a, oe4) :: pins) σ6 H6 s6 := by
          refine J6.pins_of fun p hp => ?_
          rcases List.mem_cons.mp hp with rfl | hp
          · exact ⟨pa1, pa2, pa3⟩
          · exact J6.pin p (List.mem_append_right _ hp)
        refine gone_ok J7 hN hi hln fun s8 J8 => ?_
        have e8 := (J8.pin (a, oe4) (List.mem_append_right _ List.mem_cons_self)).1
        have J9 : Inv X pins (σ6.set i none) H6 s8 := J8.pins_of fun p hp => J8.pin p (List.mem_append_right _ (List.mem_cons_of_mem _ hp))
        exact ⟨_, _, Inv_adopt J9 e8 hz4 hd4 pa2 nL n0 npin, q6 pa2⟩
      | brk =>
        obtain ⟨_, _, _, q6⟩ := hsp
        exact False.elim q6
      | cont =>
        obtain ⟨_, _, _, q6⟩ := hsp
        exact False.elim q6
      | ret u =>
        obtain ⟨_, _, _, _, _, q6⟩ := hsp
        exact False.elim q6
    | false =>
      show wpAny _ X.A (handleBy (.ref a) X.env []) _ _ _
      refine wpAny_handleBy_nil ?_
      obtain ⟨_, _, _, ob, fv, Tb, oT, tv, g1, _, g2, g3, _⟩ := id fly
      unfold PySem.passOn
      refine wpAny_bind (wpAny_field g1 g2 g3 ?_)
      rw [if_neg (show ¬ ((Value.ref Tb == Value.none) = true) from by simp)]
      have last : wpAny (model X.prog X.w) X.A (setFlight (.ref a) X.env.frame) (fun _ s4 => wpAny (model X.prog X.w) X.A (throw (.ref a) : Sem Flow) (SP X pins D) X.xe s4) X.xe { s' with heap := h3 } := by
        rw [hf]
        refine HandSPX.setFlight_upZ fly fun h4 hh up4 => wpAny_throw (tk _ _ ?_)
        exact ⟨a, B, sI, pins, σ1, H1, cls, d, rfl, Jb, nb, (up.trans up3).trans up4, .inr (.inr (by rw [hs]; exact hh)), na, os, ag, hno rfl⟩
      first
        | exact wpAny_bind (wpAny_pure (wpAny_bind last))
        | exact wpAny_bind last
  · cases f with
    | next =>
      obtain ⟨σ2, H2, J2, q⟩ := hsp
      exact wpAny_execs_nil ⟨σ2, H2, J2.ofTry okX, q⟩
    | brk =>
      obtain ⟨σ2, H2, J2, q⟩ := hsp
      exact ⟨σ2, H2, J2.ofTry okX, q⟩
    | cont =>
      obtain ⟨σ2, H2, J2, q⟩ := hsp
      exact ⟨σ2, H2, J2.ofTry okX, q⟩
    | ret u =>
      obtain ⟨v2, σ2, H2, J2, r2, q⟩ := hsp
      exact ⟨v2, σ2, H2, J2.ofTry okX, r2, q⟩
end
/-! ### the model's rule: an error that is caught gives data -/
section
variable {K : PySem.W.Frag} {n : Nat} {ms : List MV} {X : XP} {N : List MV → Prop} {R : MV → List MV → Prop}
/-- try: tb; except C as e: held = e  (e in slot i, held in slot j): the errors are those of E, all of them caught -/
theorem ws_tryHeld {i j : Nat} {C : Addr} {tb : WX → TS} {Y : XP} (hi : i < n) (hj : j < n) (hij : i ≠ j) (h : wpS K n tb ms N R Y)
    (hy : ∀ c m, Y c m → PySem.W.exmOne K c (.ref C) = some true ∧ N ((m.set j (.fz (.exc c))).set i .un)) : wpS K n (fun W => tTryHeld K i C tb (tAsg (tVar i) (gName j)) W) ms N R X := by
  intro W G F H σ gv E hn S k r x
  refine h (wHeld K (.ref C) i (tAsg (tVar i) (gName j)) W E) G F H σ gv E hn S k r (fun c m σ1 g1 F1 H1 p hn1 S1 e1 => ?_)
  obtain ⟨ex, hN⟩ := hy c m p
  refine ⟨true, ex, fun _ => ⟨rfl, fun a na => ?_⟩, fun q => nomatch q⟩
  refine ⟨.ref a, ?_, fun na' => ?_⟩
  · rw [List.getElem?_set]; simp [hi, hn1]
  have nF := S1.f.free na
  have S2 := (S1.new (o := ExH c a) na).setF (.exc (K := K) (F := upd F1 a (ExH c a)) upd_same) j
  have S3 := S2.setU (o := none) i
  have e : (((σ1 ++ g1).set j (some (.ref a))).set i none) = (((σ1.set i (some (.ref a))).set j (some (.ref a))).set i none) ++ g1 := by
    rw [List.set_append_left _ _ (by omega), List.set_append_left _ _ (by rw [List.length_set]; omega)]
    congr 1
    rw [List.set_comm _ _ hij, List.set_set]
  rw [e] at S3
  exact k _ _ g1 _ _ hN (by simp [hn1]) S3 (e1.trans (same_new nF))
/-- try: tb; except C: ts -/
theorem ws_tryOnly {C : Addr} {tb ts : WX → TS} {Y : XP} (h : wpS K n tb ms N R Y) (hy : ∀ c m, Y c m → PySem.W.exmOne K c (.ref C) = some true ∧ wpS K n ts m N R X) :
    wpS K n (fun W => tTryOnly K C tb (ts W) W) ms N R X := by
  intro W G F H σ gv E hn S k r x
  refine h (wOnly K (.ref C) (fun _ _ _ => ts W) W E) G F H σ gv E hn S k r (fun c m σ1 g1 F1 H1 p hn1 S1 e1 => ?_)
  obtain ⟨ex, hS⟩ := hy c m p
  refine ⟨true, ex, fun _ a na => ?_, fun q => nomatch q⟩
  exact hS W G F1 H1 σ1 g1 E hn1 S1 (fun m σ' g F' H' p l S' e => k m σ' g F' H' p l S' (e1.trans e)) (fun m v ms' σ' g F' H' p l S' e => r m v ms' σ' g F' H' p l S' (e1.trans e)) fun c m σ' g F' H' p l S' e => x c m σ' g F' H' p l S' (e1.trans e)
end
/-! ### defs in a bundle -/
/-- a def of the text, as the head tells it -/
structure Df (K : PySem.W.Frag) (mg : PySem.Str → Option Value) (x : PySem.Str) (st : Stmt) (ps : List PySem.Str) : Prop where
  ex : ∃ (f : Addr) (fd : FuncData), FunD K x x (defArgs st) (defBody st) (defScope st) [] [] f fd ∧ mg x = some (.ref f) ∧ Binds K fd ps []
/-- a def that keeps its promise -/
structure Ok (P : Program) (w : World) (K : PySem.W.Frag) (mg : PySem.Str → Option Value) (base : Heap) (x : PySem.Str) (ps : List PySem.Str) (k : Nat) (sp : Sp) : Prop where
  ex : ∃ (f : Addr) (fd : FuncData), FnOk P w K mg base (L2.CX P w) k f fd ps sp ∧ mg x = some (.ref f) ∧ PySem.W.keepIn K (.ref f) = true ∧ Binds K fd ps []
theorem ok_mk {P : Program} {w : World} {K : PySem.W.Frag} {mg : PySem.Str → Option Value} {base : Heap} {x : PySem.Str} {st : Stmt} {Nn ps : List PySem.Str} {k : Nat} {fs : FS} {t : WX → TS}
    (Dd : Df K mg x st ps) (S : FnScope Nn ps (defScope st)) (hnp : ps.length ≤ Nn.length)
    (hw : ∀ ms P X, fs ms P X → ms.length = ps.length ∧ wpS K Nn.length t (ms ++ List.replicate (Nn.length - ps.length) .un) (fun me => ∃ ms', Back ms me ms' ∧ P (.fz .non) ms') (fun m me => ∃ ms', Back ms me ms' ∧ P m ms') (fun c me => ∃ ms', Back ms me ms' ∧ X c ms'))
    (der : ∀ (f : Addr) (cdv : Value) (A : Around) (outer : List Env) (s : Shared) (H : Hp) (E : XK), Room k (cxOf (L2.CX P w) P w K mg base Nn x (defScope st) f cdv A outer s H E).A →
      Takes (cxOf (L2.CX P w) P w K mg base Nn x (defScope st) f cdv A outer s H E) (fun c d _ H => E c d H) →
      PassesOwn (model P w) (cxOf (L2.CX P w) P w K mg base Nn x (defScope st) f cdv A outer s H E).A (cxOf (L2.CX P w) P w K mg base Nn x (defScope st) f cdv A outer s H E).env (cxOf (L2.CX P w) P w K mg base Nn x (defScope st) f cdv A outer s H E).xe →
      PSs (cxOf (L2.CX P w) P w K mg base Nn x (defScope st) f cdv A outer s H E) (defBody st) (t (fun c d _ H => E c d H))) :
    Ok P w K mg base x ps (k + 1) (SpM K fs) := by
  obtain ⟨f, fd, F, hm, hb⟩ := Dd.ex
  refine ⟨f, fd, F.ok S (fun vs H Q E h => (fs_run (t := t) hnp hw vs H Q E h).1) (fun cdv A outer s H vs Q E hr h => ?_), hm, F.kp, hb⟩
  exact ⟨_, der f cdv A outer s H E hr (takes_of rfl rfl rfl rfl) (passes_of rfl), (fs_run hnp hw vs H Q E h).2⟩
section
variable {X : Cx} {x : PySem.Str} {ps : List PySem.Str} {k : Nat} {sp : Sp} {W : WX} {t : TA} {e : Expr} {es : List Expr} {p pos : Pos}
theorem pe_callO (o : Ok X.prog X.w X.K X.mg X.base x ps k sp) (hr : Room k X.A) (hg : Gl X x) (tk : Takes X W) (ha : PA X (e :: es) t) (hdb : (x == ("__debug__" : PySem.Str)) = false := by decide)
    (he : starEach (e :: es) X.env = (false, eval e X.env) :: starEach es X.env := by rfl) (hpl : (backTo pos (starEach es X.env)).any (·.1) = false := by rfl) : PE X (.Call (.Name x p) (e :: es) [] pos) (tCallS sp (WE W) t) := by
  obtain ⟨f, fd, F, hm, hk, hb⟩ := o.ex
  exact pe_callS F hr hg hm hk hb (fun σ => passAt tk σ) ha hdb he hpl
theorem pe_callO0 (o : Ok X.prog X.w X.K X.mg X.base x ps k sp) (hr : Room k X.A) (hg : Gl X x) (hdb : (x == ("__debug__" : PySem.Str)) = false := by decide) : PE X (.Call (.Name x p) [] [] pos) (tCall sp [] E0 tNil) := by
  obtain ⟨f, fd, F, hm, hk, hb⟩ := o.ex
  exact pe_call0 F hr hg hm hk hb .nil passL hdb
theorem pe_gstr {z : PySem.Str} (hg : Gl X x) (hm : ∃ t, X.mg x = some (.str z t)) (hd : (x == ("__debug__" : PySem.Str)) = false := by decide) : PE X (.Name x pos) (tC (.str z)) := by
  obtain ⟨t, e⟩ := hm
  exact pe_glob hg e ⟨t, rfl⟩ hd
theorem pe_gint {z : Int} (hg : Gl X x) (hm : ∃ t, X.mg x = some (.int z t)) (hd : (x == ("__debug__" : PySem.Str)) = false := by decide) : PE X (.Name x pos) (tC (.int z)) := by
  obtain ⟨t, e⟩ := hm
  exact pe_glob hg e ⟨t, rfl⟩ hd
theorem pe_gref {a : Addr} (hg : Gl X x) (hm : X.mg x = some (.ref a)) (hd : (x == ("__debug__" : PySem.Str)) = false := by decide) : PE X (.Name x pos) (tC (.ref a)) := pe_glob hg hm rfl hd
theorem pe_bty {T : String} (hg : Gl X x) (hm : X.mg x = none) (hv : bootBuiltins x = some (.type T)) (hn : x ≠ "__name__" := by decide) (hd : (x == ("__debug__" : PySem.Str)) = false := by decide) : PE X (.Name x pos) (tC (.ty T)) := pe_bltn hg hm hv rfl hn hd
end
section
variable {K : PySem.W.Frag} {n : Nat} {ms : List MV} {X : XP}
/-- f() -/
theorem wd_callZ {fs : FS} {P : D → List MV → Prop} (h : fs [] (fun m _ => ∃ d, m = .fz d ∧ P d ms) noX) : wpD K n (fun _ => tCall (SpM K fs) [] E0 tNil) ms P X := by
  intro W G F H σ gv Q hn S k x
  obtain ⟨G', S0, back⟩ := St.lend (a := []) (s := []) rfl (show St K G F H ([] ++ ms) ([] ++ (σ ++ gv)) from S)
  refine ⟨G', F, [], _, _, S0, h, fun m v ms' F' H' p S' e => ?_, fun c ms' F' H' p S' e => p.elim⟩
  obtain ⟨d, rfl, p⟩ := p
  have S3 := back F' H' _ _ e S'
  refine k d v ms gv F' H' p ?_ S'.headF e
  refine S3.sub fun h0 y => ?_
  have ly : ms'.length = 0 := by
    have := S'.len
    simpa using this
  cases ms' with
  | nil => exact y.drop
  | cons _ _ => simp at ly
end
/-! ### names of readings -/
abbrev rLower : V → List V → Hp → VK → Prop := fun x xs H Q => ∃ a, x = .str a ∧ xs = [] ∧ a.length ≤ 5592405 ∧ Q (.str (Txt.lower a)) H
abbrev rUpper : V → List V → Hp → VK → Prop := fun x xs H Q => ∃ a, x = .str a ∧ xs = [] ∧ a.length ≤ 5592405 ∧ Q (.str (Txt.upper a)) H
abbrev rIsalnum : V → List V → Hp → VK → Prop := fun x xs H Q => ∃ a, x = .str a ∧ xs = [] ∧ True ∧ Q (.bl (Txt.isalnum a)) H
abbrev rIsdigit : V → List V → Hp → VK → Prop := fun x xs H Q => ∃ a, x = .str a ∧ xs = [] ∧ True ∧ Q (.bl (Txt.isdigit a)) H
abbrev rSplit : V → List V → Hp → VK → Prop := fun x xs H Q => ∃ a b, x = .str a ∧ xs = [.str b] ∧ (b.length == 0) = false ∧ a.length + 2 ≤ sizeLine ∧ rNewStrs (Txt.split a b) H Q
abbrev rJoin (K : PySem.W.Frag) : V → List V → Hp → VK → Prop := fun x xs H Q => ∃ a p, ∃ ys : List PySem.Str, x = .str a ∧ xs = [.ref p] ∧ (SqL K H p (ys.map V.str) ∨ SqT K H p (ys.map V.str)) ∧ (ys.map (·.length)).sum + ys.length * a.length ≤ 16777216 ∧ Q (.str (Txt.join a ys)) H
section
variable {K : PySem.W.Frag} {P : D → Prop}
theorem b_lower {x : PySem.Str} (hl : x.length ≤ 1000000) (h : P (.str (Txt.lower x))) : bmD K rLower (.str x) [] P := by
  intro v xs F H Q r1 r2 s k
  cases r1
  cases r2
  exact ⟨x, rfl, rfl, by omega, k _ _ F H h .refl (.str _)⟩
theorem b_upper {x : PySem.Str} (hl : x.length ≤ 1000000) (h : P (.str (Txt.upper x))) : bmD K rUpper (.str x) [] P := by
  intro v xs F H Q r1 r2 s k
  cases r1
  cases r2
  exact ⟨x, rfl, rfl, by omega, k _ _ F H h .refl (.str _)⟩
theorem b_isalnum {x : PySem.Str} (h : P (.bl (Txt.isalnum x))) : bmD K rIsalnum (.str x) [] P := by
  intro v xs F H Q r1 r2 s k
  cases r1
  cases r2
  exact ⟨x, rfl, rfl, trivial, k _ _ F H h .refl (.bl _)⟩
theorem b_isdigit {x : PySem.Str} (h : P (.bl (Txt.isdigit x))) : bmD K rIsdigit (.str x) [] P := by
  intro v xs F H Q r1 r2 s k
  cases r1
  cases r2
  exact ⟨x, rfl, rfl, trivial, k _ _ F H h .refl (.bl _)⟩
theorem b_split {x y : PySem.Str} (hy : (y.length == 0) = false) (hl : x.length ≤ 1000000) (h : P (.lst ((Txt.split x y).map .str))) : bmD K rSplit (.str x) [.str y] P := by
  intro v xs F H Q r1 r2 s k
  cases r1
  cases r2 with
  | cons r2 r3 =>
    cases r2
    cases r3
    refine ⟨x, y, rfl, rfl, hy, by rw [sizeLine_eq]; omega, fun p hp => ?_⟩
    exact k _ _ _ _ h (.new .refl hp) (.lst upd_same (RpL.ofStrs _))
theorem b_join {x : PySem.Str} {ys : List PySem.Str} (hl : (ys.map (·.length)).sum + ys.length * x.length ≤ 16777216) (h : P (.str (Txt.join x ys))) : bmD K (rJoin K) (.str x) [.lst (ys.map .str)] P := by
  intro v xs F H Q r1 r2 s k
  cases r1
  cases r2 with
  | cons r2 r3 =>
    cases r3
    cases r2 with
    | lst e r =>
      have := r.strs
      subst this
      exact ⟨x, _, ys, rfl, rfl, .inl (SqL.of (s _ _ e)), hl, k _ _ F H h .refl (.str _)⟩
end
end M
namespace M
open PySem PySem.Spec PyProof.Rows L2
/-! ### isinstance -/
def rIsiX (K : PySem.W.Frag) : List V → Hp → VK → Prop := fun xs H Q => ∃ (a D : Addr) (c : V) (u : Value) (b : Bool), xs = [.ref a, c] ∧ ClsV c u ∧ H a = some (ExH (.ref D) a) ∧ ExcC K D ∧ PySem.W.kitOne K (.ref D) u = some b ∧ Q (.bl b) H
def rIsiA (K : PySem.W.Frag) : List V → Hp → VK → Prop := fun xs H Q => rIsiX K xs H Q ∨ rIsi K xs H Q
section
variable {X : Cx}
theorem call_isiX : CallR X (.builtin "isinstance") (rIsiX X.K) := by
  intro pins s σ H xs us Q I r h
  obtain ⟨a, D, c, u, b, rfl, hc, ha, C, e, q⟩ := h
  cases r with
  | cons rx rr =>
    cases rr with
    | cons rt rr =>
      cases rr
      cases rx
      have ec := hc.eq rt
      subst ec
      obtain ⟨⟨oe, vs, h1, h2, h3, h4⟩, _⟩ := I.hok a _ ha
      have J : PySem.W.InstAt s.heap a oe D none := by
        obtain ⟨oc, od, oda, osl⟩ := oe
        dsimp only at h2 h3 h4
        subst h2 h3 h4
        exact ⟨h1, rfl, rfl, trivial⟩
      exact PySem.W.kia_one (PySem.W.handS_kitx_exc C.hg C.hk C.hs C.hd C.ha C.hn C.ht C.hm) I.kIn J e (fun z => nomatch z) fun tk => ⟨.bl b, H, I.kept (t' := tk) fun _ _ z => z, rfl, q⟩
theorem call_isiA : CallR X (.builtin "isinstance") (rIsiA X.K) := CallR.or call_isiX call_isi
end
/-! ### xs.count(y) of flat things -/
def rCountA (K : PySem.W.Frag) : V → List V → Hp → VK → Prop := fun x xs H Q => ∃ (p : Addr) (vs : List V) (y : V), x = .ref p ∧ xs = [y] ∧ SqL K H p vs ∧ vs.all flatV = true ∧ flatV y = true ∧ Q (.int ((vs.countP fun z => L2.eqV z y : Nat) : Int)) H
def eqOf (y : V) (u : Value) : Bool := match absV u with | some z => L2.eqV z y | none => false
theorem countP_rel {y : V} : ∀ {vs : List V} {us : List Value}, Vals vs us → us.countP (eqOf y) = vs.countP fun z => L2.eqV z y
  | _, _, .nil => rfl
  | _, _, .cons (a := z) (b := u) r t => by
    rw [List.countP_cons, List.countP_cons, countP_rel t]
    have : eqOf y u = L2.eqV z y := by unfold eqOf; rw [r.abs]
    rw [this]
theorem vals_mem {u : Value} : ∀ {vs : List V} {us : List Value}, Vals vs us → u ∈ us → ∃ v ∈ vs, RelV v u
  | _, _, .nil, h => by cases h
  | _, _, .cons r t, h => by
    cases h with
    | head => exact ⟨_, List.mem_cons_self, r⟩
    | tail _ h =>
      obtain ⟨v, hv, rv⟩ := vals_mem t h
      exact ⟨v, List.mem_cons_of_mem _ hv, rv⟩
section
variable {X : Cx}
theorem mt_countA : MtR X "list.count" (rCountA X.K) := by
  intro pins s σ H x xs v us Q I rx rxs h
  obtain ⟨p, vs, y, rfl, rfl, hs, hf, hy, q⟩ := h
  cases rx
  obtain ⟨u, rfl, ru⟩ := rxs.one
  obtain ⟨its, rv, ⟨⟨cls, dd, data, sl⟩, m, ho, hc, hdn, hd⟩, hlen⟩ := I.list hs
  simp only at hc hd
  subst hc hd
  refine call_meets PySem.F.slot_list_count ⟨_, ho, rfl⟩ PySem.F.entry_list_count (PySem.F.args_list_count_2 _ _)
    (SeqAt.list_countAt p its.toArray m dd sl u (eqOf y)) ⟨ho, fun z hz => ?_, ?_⟩
  · obtain ⟨w, hw, rw_⟩ := vals_mem rv (by simpa using hz)
    have e : eqOf y z = L2.eqV w y := by unfold eqOf; rw [rw_.abs]
    rw [e]
    exact eqAt_V rw_ ru (List.all_eq_true.mp hf w hw) hy
  · have ec : its.toArray.toList.countP (eqOf y) = vs.countP fun z => L2.eqV z y := countP_rel rv
    refine ⟨.int ((vs.countP fun z => L2.eqV z y : Nat) : Int), H, I.tok _, ⟨s.toks, ?_⟩, q⟩
    show Value.int ((its.toArray.toList.countP (eqOf y) : Nat) : Int) s.toks = _
    rw [ec]
end
/-! ### dict(TURNS): pairs of texts of the written part -/
structure KPairs (K : PySem.W.Frag) (a : Addr) (kvs : List (PySem.Str × PySem.Str)) : Prop where
  ex : ∃ (its : Array Value) (n : Nat) (sl : Array (Option Value)) (Ts : Nat → Addr), K.lookup a = some ⟨.type "tuple", none, .seq its n, sl⟩ ∧ its.size = kvs.length ∧ kvs.length ≤ 100 ∧
    ∀ (j : Nat) (q : PySem.Str × PySem.Str), kvs[j]? = some q → its[j]? = some (.ref (Ts j)) ∧ ∃ (t u : Tok) (d : Option Addr) (m : Nat) (s2 : Array (Option Value)), K.lookup (Ts j) = some ⟨.type "tuple", d, .seq #[.str q.1 t, .str q.2 u] m, s2⟩
def rDictT (K : PySem.W.Frag) : List V → Hp → VK → Prop := fun xs H Q => ∃ (a : Addr) (kvs : List (PySem.Str × PySem.Str)), xs = [.ref a] ∧ KPairs K a kvs ∧ ∀ p, H p = none → Q (.ref p) (upd H p (.dK (mergeK [] (kvs.map fun q => (Sum.inr q.1, V.str q.2)))))
section
variable {X : Cx}
theorem call_dictT (hc : X.calm = true) : CallR X (.type "dict") (rDictT X.K) := by
  intro pins s σ H xs us Q I r h
  obtain ⟨a, kvs, rfl, ⟨its, m, sl, Ts, hl, hsz, h100, hk⟩, q⟩ := h
  obtain ⟨u, rfl, rx⟩ := vals1 r
  cases rx
  -- the pairs' own values
  have pick : ∀ j : Nat, ∃ tu : Tok × Tok, ∀ q, kvs[j]? = some q → PairAt s.heap (Ts j) (.str q.1 tu.1) (.str q.2 tu.2) := by
    intro j
    cases e : kvs[j]? with
    | none => exact ⟨(0, 0), fun q hq => nomatch hq⟩
    | some q0 =>
      obtain ⟨_, t, u, d, m2, s2, e2⟩ := hk j q0 e
      refine ⟨(t, u), fun q hq => ?_⟩
      cases hq
      exact .inl ⟨_, I.kIn _ _ e2, rfl, _, rfl⟩
  let tk : Nat → Tok × Tok := fun j => (pick j).choose
  have htk : ∀ j q, kvs[j]? = some q → PairAt s.heap (Ts j) (.str q.1 (tk j).1) (.str q.2 (tk j).2) := fun j q e => (pick j).choose_spec q e
  let ps : List (Value × Value) := (List.range kvs.length).zipWith (fun j q => (Value.str q.1 (tk j).1, Value.str q.2 (tk j).2)) kvs
  let kv2 : List (Key × Value) := (List.range kvs.length).zipWith (fun j q => (Sum.inr q.1, Value.str q.2 (tk j).2)) kvs
  have lps : ps.length = kvs.length := by simp [ps]
  have atp : ∀ (j : Nat) (k v : Value), ps[j]? = some (k, v) → ∃ q, kvs[j]? = some q ∧ k = Value.str q.1 (tk j).1 ∧ v = Value.str q.2 (tk j).2 := by
    intro j k v e
    have hj : j < kvs.length := by
      have := (List.getElem?_eq_some_iff.mp e).1
      rwa [lps] at this
    refine ⟨kvs[j], List.getElem?_eq_getElem hj, ?_⟩
    simp only [ps, List.getElem?_zipWith, List.getElem?_range hj, List.getElem?_eq_getElem hj] at e
    cases e
    exact ⟨rfl, rfl⟩
  have ok : PlainSeq "tuple" s.heap a its ∧ PairItems s.heap its Ts ps := by
    refine ⟨⟨_, m, I.kIn _ _ hl, rfl, rfl, rfl⟩, by rw [hsz, lps], fun j k v e => ?_⟩
    obtain ⟨q, hq, rfl, rfl⟩ := atp j k v e
    exact ⟨(hk j q hq).1, htk j q hq⟩
  have have_ : PairsHave (mixKind X.prog X.w) ps.length (PairRel ps) kv2 := by
    refine ⟨by simp [kv2, lps], fun j k v e => ?_⟩
    obtain ⟨q, hq, rfl, rfl⟩ := atp j k v e
    have hj : j < kvs.length := (List.getElem?_eq_some_iff.mp hq).1
    refine ⟨Sum.inr q.1, ?_, mixKind_str _ _ _ _⟩
    simp only [kv2, List.getElem?_zipWith, List.getElem?_range hj, hq]
  have hz : ps.length ≤ sizeLine := by rw [lps, sizeLine_eq]; omega
  have rel : ∀ (l : List (PySem.Str × PySem.Str)) (f : Nat → Tok × Tok) (i : Nat), KV (l.map fun q => (Sum.inr q.1, V.str q.2)) (List.zipWith (fun j q => ((Sum.inr q.1 : Key), Value.str q.2 (f j).2)) (List.range' i l.length) l) := by
    intro l f
    induction l with
    | nil => intro i; exact .nil
    | cons q l ih => intro i; exact .cons ⟨rfl, ⟨_, rfl⟩⟩ (ih (i + 1))
  have rel0 : KV (kvs.map fun q => (Sum.inr q.1, V.str q.2)) kv2 := by
    have := rel kvs tk 0
    simpa [kv2, List.range_eq_range'] using this
  refine PySem.call_dict_pairs (PairArg.tuple a its Ts ps) (I.ok.hd hc) ok have_ hz fun h' tk' hd' k => ?_
  have hm : (s.heap.objs.size == sysModules) = false := beq_eq_false_iff_ne.mpr (Nat.ne_of_gt I.big)
  have hlen : (mergeK [] (kvs.map fun q => (Sum.inr q.1, V.str q.2))).length ≤ sizeLine := by
    refine Nat.le_trans (length_mergeK _ []) ?_
    rw [List.length_nil, List.length_map, sizeLine_eq]; omega
  exact ⟨.ref s.heap.objs.size, upd H s.heap.objs.size (.dK _), I.laid (t' := tk') (fun b o e => k b o (fun z => nomatch z) e) (Nat.le_refl _) (show ObjOk X.prog X.w _ _ _ (.dK _) from ⟨hlen, hm, merged [] kv2, KV.merge rel0 .nil, hd'⟩), rfl, q _ (I.hok.fresh (Nat.le_refl _))⟩
end
/-! ### what they do of data -/
def keyD : D → Option Key
  | .int i => some (.inl i)
  | .str x => some (.inr x)
  | _ => none
def valD (kds : List (Key × D)) (k : Key) : Option D := (kds.find? fun kv => decide (kv.1 = k)).map (·.2)
section
variable {K : PySem.W.Frag} {P : D → Prop}
theorem Rp.key {F : Hp} {v : V} {d : D} {k : Key} (r : Rp K F v d) (h : keyD d = some k) : v = kV k := by
  cases r <;> cases h <;> rfl
theorem RpK.val {F : Hp} {k : Key} : ∀ {kvs : List (Key × V)} {kds : List (Key × D)}, RpK K F kvs kds → (valV kvs k = none ∧ valD kds k = none) ∨ ∃ v d, valV kvs k = some v ∧ valD kds k = some d ∧ Rp K F v d
  | _, _, .nil => .inl ⟨rfl, rfl⟩
  | _, _, .cons (k := k0) (v := v0) (d := d0) r t => by
    by_cases h : k0 = k
    · refine .inr ⟨v0, d0, ?_, ?_, r⟩
      · simp [valV, List.find?_cons, h]
      · simp [valD, List.find?_cons, h]
    · rcases RpK.val (k := k) t with ⟨a, b⟩ | ⟨v, d, a, b, c⟩
      · left
        constructor
        · simpa [valV, List.find?_cons, h] using a
        · simpa [valD, List.find?_cons, h] using b
      · right
        refine ⟨v, d, ?_, ?_, c⟩
        · simpa [valV, List.find?_cons, h] using a
        · simpa [valD, List.find?_cons, h] using b
theorem RpK.ofSS {F : Hp} : ∀ l : List (PySem.Str × PySem.Str), RpK K F (l.map fun q => (Sum.inr q.1, V.str q.2)) (l.map fun q => (Sum.inr q.1, .str q.2))
  | [] => .nil
  | _ :: l => .cons (.str _) (RpK.ofSS l)
variable {n : Nat} {ms : List MV} {X : XP}
/-- d.get(k, x) of a dict that is known for good -/
theorem wd_dget2 {td ty tx : WX → TE} {P : D → List MV → Prop}
    (h : wpD K n td ms (fun a m1 => ∃ kds, a = .dic kds ∧ wpD K n ty m1 (fun b m2 => ∃ k, keyD b = some k ∧ wpD K n tx m2 (fun c m3 => P ((valD kds k).getD c) m3) X) X) X) : wpD K n (fun W => tDGet2 (td W) (ty W) (tx W)) ms P X := by
  intro W G F H σ gv Q hn S kk x
  refine h W G F H σ gv _ hn S (fun a v m1 g1 F1 H1 ho S1 r1 e1 => ?_) x
  obtain ⟨kds, rfl, ho⟩ := ho
  cases r1 with
  | dic hd r =>
    rename_i ad kvs
    have hr : ∀ {F2 H2 : Hp}, Same F1 F2 → Same F2 H2 → Rd H2 ad (.dK kvs) := fun e s => (Le.of s).rdD ((Le.of e).rdD hd)
    refine ⟨_, rfl, .inl ⟨_, hr (Same.refl _) S1.f⟩, ?_⟩
    refine ho W G F1 H1 σ g1 _ hn S1 (fun b v2 m2 g2 F2 H2 ho S2 r2 e2 => ?_) (fun c m g F' H' p S' e => x c m g F' H' p S' (e1.trans e))
    obtain ⟨k, ek, ho⟩ := ho
    have := r2.key ek
    subst this
    refine ho W G F2 H2 σ g2 _ hn S2 (fun c v3 m3 g3 F3 H3 p S3 r3 e3 => ?_) (fun c m g F' H' p S' e => x c m g F' H' p S' ((e1.trans e2).trans e))
    refine ⟨valV kvs k, .inl ⟨kvs, k, hr (e2.trans e3) S3.f, rfl, rfl⟩, ?_⟩
    rcases RpK.val (k := k) r with ⟨a, b⟩ | ⟨v, d, a, b, c⟩
    · rw [a]; rw [b] at p
      exact kk _ _ m3 g3 F3 H3 p S3 r3 ((e1.trans e2).trans e3)
    · rw [a]; rw [b] at p
      exact kk _ _ m3 g3 F3 H3 p S3 (c.up (e2.trans e3)) ((e1.trans e2).trans e3)
theorem c_dictT {a : Addr} {kvs : List (PySem.Str × PySem.Str)} (hk : KPairs K a kvs) (hm : mergeK [] (kvs.map fun q => (Sum.inr q.1, V.str q.2)) = kvs.map fun q => (Sum.inr q.1, V.str q.2))
    (h : P (.dic (kvs.map fun q => (Sum.inr q.1, .str q.2)))) : cbD K (rDictT K) [.raw (.ref a)] P := by
  intro xs F H Q r s k
  cases r with
  | cons r1 r2 =>
    cases r2
    cases r1
    refine ⟨a, kvs, rfl, hk, fun p hp => ?_⟩
    rw [hm]
    refine k _ _ _ _ h (.new .refl hp) (.dic (.inl upd_same) ?_)
    exact RpK.ofSS _
theorem c_isX {D C : Addr} {b : Bool} (hc : ExcC K D) (hk : PySem.W.kitOne K (.ref D) (.ref C) = some b) (h : P (.bl b)) : cbD K (rIsiA K) [.exc (.ref D), .raw (.ref C)] P := by
  intro xs F H Q r s k
  cases r with
  | cons r1 r2 =>
    cases r2 with
    | cons r2 r3 =>
      cases r3
      cases r2
      cases r1 with
      | exc e => exact .inl ⟨_, D, _, _, b, rfl, .own C, s _ _ e, hc, hk, k _ _ F H h .refl (.bl _)⟩
theorem c_isXt {D : Addr} {T : String} {b : Bool} (hc : ExcC K D) (hk : PySem.W.kitOne K (.ref D) (.type T) = some b) (h : P (.bl b)) : cbD K (rIsiA K) [.exc (.ref D), .raw (.ty T)] P := by
  intro xs F H Q r s k
  cases r with
  | cons r1 r2 =>
    cases r2 with
    | cons r2 r3 =>
      cases r3
      cases r2
      cases r1 with
      | exc e => exact .inl ⟨_, D, _, _, b, rfl, .ty T, s _ _ e, hc, hk, k _ _ F H h .refl (.bl _)⟩
theorem RpL.countP {F F' : Hp} {w : V} {e : D} (q : Rp K F' w e) (h2 : flat e = true) : ∀ {vs : List V} {ds : List D}, RpL K F vs ds → ds.all flat = true → vs.countP (fun z => L2.eqV z w) = ds.countP (fun z => eqD z e) ∧ vs.all L2.flatV = true
  | _, _, .nil, _ => ⟨rfl, rfl⟩
  | _, _, .cons r t, h => by
    simp only [List.all_cons, Bool.and_eq_true] at h
    obtain ⟨e1, f1⟩ := Rp_eqf r q h.1 h2
    obtain ⟨e2, f2⟩ := RpL.countP q h2 t h.2
    refine ⟨?_, by simp [f1, f2]⟩
    rw [List.countP_cons, List.countP_cons, e1, e2]
theorem b_count {a : List D} {y : D} (ha : a.all flat = true) (hy : flat y = true) (h : P (.int ((a.countP fun z => eqD z y : Nat) : Int))) : bmD K (rCountA K) (.lst a) [y] P := by
  intro v xs F H Q r1 r2 s k
  cases r2 with
  | cons r2 r3 =>
    cases r3
    cases r1 with
    | lst e r =>
      obtain ⟨e1, f1⟩ := RpL.countP r2 hy r ha
      refine ⟨_, _, _, rfl, rfl, SqL.of (s _ _ e), f1, Rp_flatV r2 hy, ?_⟩
      rw [e1]
      exact k _ _ F H h .refl (.int _)
theorem pys_at {i : Nat} {d : D} : ∀ {ds : List D} {i : Nat}, ds[i]? = some d → (pys ds)[i]? = some d.py
  | [], _, h => by simp at h
  | _ :: _, 0, h => by simp at h; subst h; simp [pys]
  | _ :: ds, i + 1, h => by
    simp only [pys, List.getElem?_cons_succ] at h ⊢
    exact pys_at (i := i) h
theorem pys_of {z : PyData} : ∀ {ds : List D} {i : Nat}, (pys ds)[i]? = some z → ∃ d, ds[i]? = some d ∧ z = d.py
  | [], _, h => by simp [pys] at h
  | d :: _, 0, h => by simp [pys] at h; exact ⟨d, rfl, h.symm⟩
  | _ :: ds, i + 1, h => by
    simp only [pys, List.getElem?_cons_succ] at h ⊢
    exact pys_of (i := i) h
theorem b_index {a : List D} {y z : D} {j : Nat} (ha : (D.lst a).sh = true) (hy : y.sh = true) (hj : a[j]? = some z) (he : PyData.eqv z.py y.py = true) (hb : ∀ m d, m < j → a[m]? = some d → PyData.eqv d.py y.py = false) (h : P (.int (j : Nat))) : bmD K (rIndexD K) (.lst a) [y] P := by
  intro v xs F H Q r1 r2 s k
  cases r2 with
  | cons r2 r3 =>
    cases r3
    have q1 := Dp.up s (r1.dp (D.sh_lay ha))
    have q2 := Dp.up s (r2.dp (D.sh_lay hy))
    cases r1 with
    | lst e r =>
      simp only [D.py] at q1
      refine ⟨_, _, y.py, pys a, j, z.py, rfl, rfl, q1, q2, ?_, hy, pys_at (i := j) hj, he, fun m z' hm hz => ?_, k _ _ F H h .refl (.int _)⟩
      · have := ha
        unfold D.sh at this
        simpa only [D.py] using this
      · obtain ⟨d, hd, rfl⟩ := pys_of hz
        exact hb m d hm hd
theorem un_negI {P : D → Prop} {i : Int} (h : P (.int (-i))) : unD K (rU fun i => .int (-i)) (.int i) P := by
  intro x F H Q r s k
  cases r
  exact ⟨i, rfl, k _ _ F H h .refl (.int _)⟩
theorem wt_yes {P : Bool → List MV → Prop} (h : P true ms) : wpT K n (fun _ => tYes) ms P X := by
  intro W G F H σ gv Q hn S k _
  exact k true ms gv F H h S (Same.refl _)
/-- range(i, j, c) -/
def rngC (lo c : Int) (k : Nat) : List D := (List.range k).map fun i : Nat => D.int (lo + (i : Int) * c)
theorem walks_rngC {F : Hp} (lo c : Int) (k : Nat) : Walks K (Itc lo c k) F (rngC lo c k) := by
  intro i H s
  refine ⟨fun d hd => ?_, fun hi => ?_⟩
  · have hi : i < k := by
      have := (List.getElem?_eq_some_iff.mp hd).1
      simpa [rngC] using this
    unfold rngC at hd
    rw [List.getElem?_map, List.getElem?_range hi] at hd
    cases hd
    refine ⟨hi, fun x H' hy => ?_⟩
    obtain ⟨rfl, rfl⟩ := hy
    exact ⟨rfl, .int _⟩
  · have : i = k := by simpa [rngC] using hi
    exact Nat.le_of_eq this.symm
theorem wi_rng3 {ta : WX → TA} {P : List D → List MV → Prop} (h : wpA K n ta ms (fun ds m1 => ∃ (i j c : Int) (k : Nat), ds = [.int i, .int j, .int c] ∧ RgC i j c k ∧ P (rngC i c k) m1) X) : wpI K n (fun W => iRng3 (ta W)) ms P X := by
  intro W G F H σ gv Q hn S k x
  refine h W G F H σ gv _ hn S (fun ds vs m1 g1 F1 H1 ho S1 r1 e1 => ?_) x
  obtain ⟨i, j, c, kk, rfl, b1, p⟩ := ho
  cases r1 with
  | cons r1 r2 =>
    cases r1
    cases r2 with
    | cons r2 r3 =>
      cases r2
      cases r3 with
      | cons r3 r4 =>
        cases r3
        cases r4
        exact ⟨i, j, c, kk, rfl, b1, k _ _ m1 g1 F1 H1 p S1 (walks_rngC _ _ _) e1⟩
end
end M
namespace M
open PySem PySem.Spec PyProof.Rows L2
/-! ### plain comprehensions -/
theorem wipeM_twice : ∀ (vs : List Nat) (m : List MV), wipeM (wipeM m vs) vs = wipeM m vs
  | [], _ => rfl
  | v :: vs, m => by
    show wipeM ((wipeM (m.set v .un) vs).set v .un) vs = wipeM (m.set v .un) vs
    rw [wipeM_set, List.set_set, wipeM_twice vs]
theorem wd_lcMap {K : PySem.W.Frag} {n : Nat} {ms : List MV} {X : XP} {ti : WX → TI} {g : TG} {tt : WX → TT} {te : WX → TE} {vs : List Nat} {P : D → List MV → Prop} (hvs : ∀ v ∈ vs, v < n) (hg : GOk g vs)
    (h : wpI K n ti ms (fun ds m1 => ds.length ≤ 1000000 ∧ ∃ (f : D → Bool) (u : D → D), (∀ d ∈ ds, wpG K n g d (wipeM m1 vs) fun m2 => wpT K n tt m2 (fun b m3 => b = f d ∧ wipeM m3 vs = wipeM m1 vs ∧ (b = true → wpD K n te m3 (fun e m4 => e = u d ∧ wipeM m4 vs = wipeM m1 vs) noX)) noX) ∧
      P (.lst ((ds.filter f).map u)) (wipeM m1 vs)) X) : wpD K n (fun W => tLcW (ti W) g tt te vs) ms P X := by
  refine wd_lc hvs hg ?_
  intro W G F H σ gv Q hn S k x
  refine h W G F H σ gv Q hn S (fun ds J m1 g1 F1 H1 ho S1 w e1 => k ds J m1 g1 F1 H1 ?_ S1 w e1) x
  obtain ⟨hl, f, u, hd, hP⟩ := ho
  refine ⟨hl, fun i acc m => m = wipeM m1 vs ∧ acc = ((ds.take i).filter f).map u, ⟨rfl, rfl⟩, ?_, ?_⟩
  · rintro i d acc m hi ⟨rfl, rfl⟩
    have hm : d ∈ ds := List.mem_of_getElem? hi
    have nxt : ((ds.take (i + 1)).filter f).map u = ((ds.take i).filter f).map u ++ (if f d = true then [u d] else []) := by
      rw [List.take_add_one, hi]
      cases q : f d <;> simp [q]
    intro G F H σ gv v Q hn S r k
    refine hd d hm G F H σ gv v Q hn S r fun m2 σ2 h2 l2 S2 => k m2 σ2 ?_ l2 S2
    refine h2.mono (fun b m3 hb => ?_) (fun _ _ z => z)
    obtain ⟨rfl, hw, he⟩ := hb
    by_cases q : f d = true
    · rw [if_pos q]
      refine (he q).mono (fun e m4 z => ?_) (fun _ _ z => z)
      obtain ⟨rfl, hw4⟩ := z
      exact ⟨hw4, by rw [nxt, if_pos q]⟩
    · rw [if_neg q]
      exact ⟨hw, by rw [nxt, if_neg q, List.append_nil]⟩
  · rintro acc m ⟨rfl, rfl⟩
    rw [List.take_length, wipeM_twice]
    exact hP
/-- a statement, then the rest, with a word between them -/
theorem ws_cut {K : PySem.W.Frag} {n : Nat} {ms : List MV} {X : XP} {N : List MV → Prop} {R : MV → List MV → Prop} {t u : WX → TS} (Mid : List MV → Prop) (h : wpS K n t ms Mid R X) (k : ∀ m, Mid m → wpS K n u m N R X) : wpS K n (fun W => tSeq (t W) (u W)) ms N R X :=
  ws_seq (h.mono k (fun _ _ z => z) (fun _ _ z => z))
end M
namespace M
open PySem PySem.Spec PyProof.Rows L2
/-! ### len(set(names)): names a list of texts -/
/-- how many texts there are, each told once -/
def ddN : List PySem.Str → List PySem.Str → Nat
  | _, [] => 0
  | seen, x :: r => (if seen.contains x then 0 else 1) + ddN (x :: seen) r
section
variable {prog : Program} {w : World} {A : Around} {R : Result → Shared → Prop} {I : Addr} {fp wr : List Addr} {G : Array GenState → Array GenState → Prop} {n : Nat} {P : Nat → Value → Prop} {St : Nat → Shared → Prop}
abbrev Holds1 (prog : Program) (w : World) (h : Heap) (S : Addr) (seen : List PySem.Str) (m : Nat) : Prop := h.SetOf (strKind prog w) S (fun k => seen.contains k) m
theorem Holds1.at {h h' : Heap} {S : Addr} {seen : List PySem.Str} {m : Nat} (x : Holds1 prog w h S seen m) (k : ∀ o, h.get? S = some o → h'.get? S = some o) : Holds1 prog w h' S seen m := by
  obtain ⟨o, es, ep, t, ho, r⟩ := x; exact ⟨o, es, ep, t, k o ho, r⟩
theorem set_loopS (W : WalksS prog w A.in1 I fp wr G n P St) {S : Addr} (nf : S ∉ fp) : ∀ (xs seen : List PySem.Str) (i m : Nat) (s : Shared), i + xs.length = n → (∀ j x, xs[j]? = some x → ∀ v, P (i + j) v → ∃ t, v = .str x t) → m + xs.length + 1 < scanBound →
    St i s → Holds1 prog w s.heap S seen m → (∀ s' seen', Moved (S :: wr) G s s' → Holds1 prog w s'.heap S seen' (m + ddN seen xs) → R (.ok (.ret .none)) s') →
    codeAny (model prog w) A (.builtin "set.update.loop" ⟨[.ref S, .ref I], []⟩) R s := by
  have nw : S ∉ wr := fun z => nf (W.sub _ z)
  intro xs
  induction xs with
  | nil =>
    intro seen i m s e hv hb hst hS hR
    obtain rfl : i = n := e
    refine codeAny_builtin PyProof.Rows.F.entry_set_update_loop (by
      rw [Around.under_plainId PyProof.Rows.F.plain_set_update_loop _]; show wpAny _ A.in1 (pyNext (.ref I) >>= _) _ _ s
      refine wpAny_bind (W.done s _ _ hst fun s' mv => ?_); show wpAny _ A.in1 (ret Value.none) _ _ s'
      exact wpAny_pure (hR s' seen (mv.mono fun b z => .tail _ z) (hS.at fun o => mv.heap S o nw)))
  | cons x r ih =>
    intro seen i m s e hv hb hst hS hR
    have lt : i < n := by rw [List.length_cons] at e; omega
    refine codeAny_builtin PyProof.Rows.F.entry_set_update_loop (by
      rw [Around.under_plainId PyProof.Rows.F.plain_set_update_loop _]; show wpAny _ A.in1 (pyNext (.ref I) >>= _) _ _ s
      refine wpAny_bind (W.item i s _ _ lt hst fun v s' hP st' mv => ?_)
      obtain ⟨t, rfl⟩ := hv 0 x rfl v (by simpa using hP)
      show wpAny _ A.in1 (holding [Value.str x t] (setAdd S (.str x t)) >>= _) _ _ s'; refine wpAny_bind (wpAny_holding (by
        unfold setAdd; refine wpAny_holding (wpAny_bind ((strKind prog w).pyHash (k := x) (strKind_is _ _ _ _) ?_))
        refine wpAny_setAddHashed_of (knd := strKind prog w) (s := { s' with toks := s'.toks + 1 }) (strKind_is _ _ _ _) rfl (hS.at fun o => mv.heap S o nw) (by rw [List.length_cons] at hb; omega) fun h' sb hS2 => ?_
        have h2 : Holds1 prog w h' S (x :: seen) (m + if seen.contains x then 0 else 1) := PyProof.Rows.SetOf_congr hS2 (fun k => by
          rw [List.contains_cons, Bool.or_comm]; congr 1) (by cases seen.contains x <;> simp)
        refine wpAny_pure ⟨plainId_quiet PyProof.Rows.F.plain_set_update_loop _, ih (x :: seen) (i + 1) _ _ (by rw [List.length_cons] at e; omega) (fun j y hj v hP => hv (j + 1) y hj v (by rw [show i + (j + 1) = i + 1 + j by omega]; exact hP)) ?_ (W.frame _ s' _ _ st' (Nat.le_succ _) fun b hb o ho => ?_) h2 fun s2 seen' mv2 hS3 => ?_⟩
        · rw [List.length_cons] at hb; split <;> omega
        · rw [sb.2 b fun z => nf (z ▸ hb)]; exact ho
        · refine hR s2 seen' (Moved.trans W.gtrans ((mv.mono fun b z => .tail _ z).then_heap (Nat.le_succ _) fun b o hb ho => ?_) mv2) (by rw [ddN, ← Nat.add_assoc]; exact hS3)
          rw [sb.2 b fun z => hb (z ▸ .head _)]; exact ho)))
end
section
variable {prog : Program} {w : World} {A : Around} {E : Value → Shared → Prop} {s : Shared}
def setO (led : Bool) : Obj := { cls := .type "set", dict := none, data := .set #[] 0 (.fresh 0 0 led) }
set_option maxHeartbeats 3200000 in
theorem call_set_texts {l : Addr} {items : Array Value} {xs : List PySem.Str} {Q : Value → Shared → Prop} (hh : A.handled = none) (hl : s.heap.IsList l items) (hi : StrsAre items.toList xs) (hb : xs.length + 1 < scanBound)
    (h : ∀ (h' : Heap) (tk : Nat) (seen : List PySem.Str), Holds1 prog w h' s.heap.objs.size seen (ddN [] xs) → (∀ b o, b < s.heap.objs.size → s.heap.get? b = some o → h'.get? b = some o) → Q (.ref s.heap.objs.size) { s with heap := h', toks := tk }) :
    wpAny (model prog w) A (call (.type "set") [.ref l]) Q E s := by
  obtain ⟨c, tl, hmro⟩ := PySem.F.called_set.mro
  have hmade := PySem.F.called_set.made; have hsub := PySem.F.called_set.sub
  refine wpAny_call (codeAny_of_tree (show wpAny _ _ (callAny (.type "set") _) _ _ _ from wpAny_pure ⟨Code.quiet_builtin _ (by decide +kernel), codeAny_builtin PySem.F.entry_type_call ?_⟩))
  rw [Around.under_plain (weight_type_call_type "set" [.ref l] []) rfl]
  have h1 := PySem.F.called_set.notType; have h2 := PySem.F.called_set.canCreate; have hct := PySem.F.typeCall_set_1 (.ref l)
  repeat (any_goals (first | assumption | wp_step))
  refine codeAny_mono (code_set_new_1 (.ref l) (E := E) (Q₁ := fun obj s₁ => ∃ led : Bool, obj = .ref s.heap.objs.size ∧ s₁ = { s with heap := s.heap.push (setO led) }) fun led => ⟨led, rfl, rfl⟩) fun r s₁ hr => ?_
  match r, hr with
  | .ok (.ret obj), hr =>
    obtain ⟨led, rfl, rfl⟩ := hr
    have hS : (s.heap.push (setO led)).get? s.heap.objs.size = some (setO led) := Heap.get?_push_size _ rfl
    have hT : Shared.TypeIs { s with heap := s.heap.push (setO led) } (.ref s.heap.objs.size) "set" := ⟨_, hS, rfl⟩
    have hli := PySem.F.called_set.init.lookup; have hbi := PySem.F.called_set.init.bind (.ref s.heap.objs.size)
    repeat (any_goals (first | assumption | wp_step))
    refine codeAny_mono (codeAny_call_builtin (R := wants (fun r s₂ => r = .none ∧ ∃ h' tk seen, s₂ = { s with heap := h', toks := tk } ∧ Holds1 prog w h' s.heap.objs.size seen (ddN [] xs) ∧ (∀ b o, b < s.heap.objs.size → s.heap.get? b = some o → h'.get? b = some o)) E) PySem.F.called_set.init.plain PySem.F.entry_set_init (check_set_init_1 hT ?_)) fun r₂ s₂ hr₂ => ?_
    · obtain ⟨⟨ocls, odict, odata, oslots⟩, hol, hcl, nl, hdl⟩ := hl
      simp only at hcl hdl
      subst hcl hdl
      have hol' : (s.heap.push (setO led)).get? l = some { cls := .type "list", dict := odict, data := .seq items nl, slots := oslots } := Heap.get?_push_of_some _ hol
      have hsls := PySem.F.sub_list_set; have hslf := PySem.F.sub_list_frozenset
      have hne : (Value.type "list" == Value.type "dict") = false := by decide
      have hl1 : (s.heap.push (setO led)).IsList l items := ⟨_, hol', rfl, nl, rfl⟩
      unfold Builtin.«set.__init__» noKeywords Builtin.Frozenset.updateFrom; generalize hPI : pyIter = PI; wp_walk; subst hPI
      refine wpAny_pyIter_list hl1 (wpAny_bind (wpAny_runValue ?_))
      have hlS : l < s.heap.objs.size := Heap.lt_size hol
      have z1 : (s.heap.push (setO led)).objs.size = s.heap.objs.size + 1 := Heap.size_push _ _
      have hneI : l ≠ (s.heap.push (setO led)).objs.size := by rw [z1]; exact Nat.ne_of_lt (Nat.lt_succ_of_lt hlS)
      have hsz : xs.length = items.size := by rw [← StrsAre.len_eq hi, Array.length_toList]
      refine set_loopS ((Walks.list (A := A.in1.in1.in1) (by simp [hh]) _ l hneI items).toS) (S := s.heap.objs.size) (by rw [z1]; simp only [List.mem_cons, List.not_mem_nil, or_false, not_or]; exact ⟨Nat.ne_of_lt (Nat.lt_succ_self _), Nat.ne_of_gt hlS⟩) xs [] 0 0 _ (by omega) (fun j x hj v hP => ?_) (by omega) ⟨⟨_, Heap.get?_push_size _ rfl, rfl, rfl⟩, (hl1.push _)⟩ ?_ ?_
      · have hj2 : j < xs.length := (List.getElem?_eq_some_iff.mp hj).1
        obtain ⟨t, e⟩ := SS.strs_at hi j v (by rw [Array.getElem?_toList]; simpa using hP)
        refine ⟨t, ?_⟩
        rw [e, List.getD_eq_getElem?_getD, hj]; rfl
      · exact PyProof.Rows.SetOf_congr ((PyProof.Rows.setObjOf_fresh (knd := PySem.strKind prog w) led).setOf (Heap.get?_push_of_some _ hS) (by unfold scanBound; omega)) (fun _ => rfl) rfl
      · intro s' seen' hm hS'
        obtain ⟨h', g', d', tk', os'⟩ := s'
        obtain rfl : g' = s.gens := hm.gens
        obtain rfl : d' = s.drawn := hm.drawn
        obtain rfl : os' = s.os := hm.os
        refine wpAny_pure (show wpAny _ _ (ret Value.none) _ _ _ from wpAny_pure ⟨rfl, h', tk', seen', rfl, by simpa using hS', fun b o hb e => ?_⟩)
        exact hm.heap b o (by rw [z1]; simp only [List.mem_cons, List.not_mem_nil, or_false, not_or]; exact ⟨Nat.ne_of_lt hb, Nat.ne_of_lt (Nat.lt_succ_of_lt hb)⟩) (Heap.get?_push_of_some _ (Heap.get?_push_of_some _ e))
    · match r₂, hr₂ with
      | .ok (.ret r), hr₂ =>
        obtain ⟨rfl, h', tk, seen, rfl, hS', hk'⟩ := hr₂
        repeat (any_goals (first | assumption | wp_step))
        exact h _ _ _ hS' hk'
      | .error e, hr₂ => exact hr₂
  | .error e, hr => exact hr
end
section
variable {X : Cx}
def tLenSetS (K : PySem.W.Frag) (ta : TE) : TE := fun σ H Q => ta σ H fun x H1 => ∃ l, ∃ xs : List PySem.Str, x = .ref l ∧ SqL K H1 l (xs.map V.str) ∧ xs.length ≤ 1000 ∧ Q (.int (ddN [] xs : Nat)) H1
theorem ddN_le : ∀ (xs seen : List PySem.Str), ddN seen xs ≤ xs.length
  | [], _ => Nat.le_refl _
  | x :: r, seen => by
    have := ddN_le r (x :: seen)
    rw [ddN, List.length_cons]
    split <;> omega
theorem pe_lenSetS {a : Expr} {ta : TE} {p p2 q pos : Pos} (hc : X.calm = true) (hg : Gl X "len") (hm : X.mg "len" = none) (hg2 : Gl X "set") (hm2 : X.mg "set" = none) (ha : PE X a ta)
    (na : starEach [a] X.env = (false, eval a X.env) :: starEach [] X.env := by rfl) : PE X (.Call (.Name "len" p) [.Call (.Name "set" p2) [a] [] q] [] pos) (tLenSetS X.K ta) := by
  refine ⟨fun pins s σ H Q I h => Call_ (ld_blt I hg hm boot_len (PyProof.Rows.callWith_builtin1 (PyProof.Rows.args_cons ?_ rfl) rfl rfl))⟩
  refine Call_ (ld_blt I hg2 hm2 boot_set (PyProof.Rows.callWith_type1 (PyProof.Rows.args_cons (thn (ha.run pins s σ H _ I h) fun v s1 ⟨x, H1, I1, r1, l, xs, ex, hq, h1, q1⟩ => PyProof.Rows.args_nil ?_) na) na rfl))
  subst ex
  cases r1
  obtain ⟨its, r, pl, hz⟩ := I1.list hq
  refine call_set_texts (I1.ok.hd hc) pl.isList (by simpa using strsAre_of r) (by unfold scanBound; omega) fun h' tk seen hS hk => PyProof.Rows.args_nil ?_
  obtain ⟨o, es, ep, t, ho, hex, hd, _, _, _, hf, hn⟩ := hS
  have I2 : Inv X pins σ H1 { s1 with heap := h', toks := tk } := I1.kept fun b o e => hk b o (Heap.lt_size e) e
  have := ddN_le xs []
  exact call_len_set ho hex hd hf (by rw [hn]; omega) ⟨.int (ddN [] xs : Nat), H1, I2.tok _, ⟨_, by rw [hn]⟩, q1⟩
end
end M
namespace M
open PySem PySem.Spec L2
/-! ### places within owned trees -/
inductive Stp where
  | fld (f : PySem.Str) | key (k : Key) | idx (j : Nat)
def lookF {α : Type} (f : PySem.Str) : List (PySem.Str × α) → Option α
  | [] => none
  | (g, x) :: r => if g = f then some x else lookF f r
def lookK {α : Type} (k : Key) : List (Key × α) → Option α
  | [] => none
  | (g, x) :: r => if g = k then some x else lookK k r
def putF {α : Type} (f : PySem.Str) (y : α) : List (PySem.Str × α) → List (PySem.Str × α)
  | [] => [(f, y)]
  | (g, x) :: r => if g = f then (g, y) :: r else (g, x) :: putF f y r
def putKt {α : Type} (k : Key) (y : α) : List (Key × α) → List (Key × α)
  | [] => [(k, y)]
  | (g, x) :: r => if g = k then (g, y) :: r else (g, x) :: putKt k y r
def T.get1 : T → Stp → Option T
  | .obj _ fs, .fld f => lookF f fs
  | .dic ks, .key k => lookK k ks
  | .lst ts, .idx j => ts[j]?
  | _, _ => none
def T.put1 : T → Stp → T → T
  | .obj C fs, .fld f, u => .obj C (putF f u fs)
  | .dic ks, .key k, u => .dic (putKt k u ks)
  | .lst ts, .idx j, u => .lst (ts.set j u)
  | t, _, _ => t
def T.at : T → List Stp → Option T
  | t, [] => some t
  | t, s :: r => (t.get1 s).bind fun u => u.at r
def T.put : T → List Stp → T → T
  | _, [], u => u
  | t, s :: r, u => match t.get1 s with | some x => t.put1 s (x.put r u) | none => t
/-- the value at a place -/
inductive Ref (H : Hp) : V → List Stp → V → Prop
  | here {v : V} : Ref H v [] v
  | fld {p dx C : Addr} {fvs : List (PySem.Str × V)} {f : PySem.Str} {v x : V} {r : List Stp} : H p = some (.ins C dx fvs) → lookF f fvs = some v → Ref H v r x → Ref H (.ref p) (.fld f :: r) x
  | key {p : Addr} {kvs : List (Key × V)} {k : Key} {v x : V} {r : List Stp} : H p = some (.dK kvs) → lookK k kvs = some v → Ref H v r x → Ref H (.ref p) (.key k :: r) x
  | idx {p : Addr} {vs : List V} {j : Nat} {v x : V} {r : List Stp} : H p = some (.lst vs) → vs[j]? = some v → Ref H v r x → Ref H (.ref p) (.idx j :: r) x
section
variable {K : PySem.W.Frag}
theorem Ref.up {H H' : Hp} (s : Same H H') {v x : V} {r : List Stp} (h : Ref H v r x) : Ref H' v r x := by
  induction h with
  | here => exact .here
  | fld a b _ ih => exact .fld (s _ _ a) b ih
  | key a b _ ih => exact .key (s _ _ a) b ih
  | idx a b _ ih => exact .idx (s _ _ a) b ih
theorem Ref.trans {H : Hp} {v x y : V} {r q : List Stp} (h : Ref H v r x) (g : Ref H x q y) : Ref H v (r ++ q) y := by
  induction h with
  | here => exact g
  | fld a b _ ih => exact .fld a b (ih g)
  | key a b _ ih => exact .key a b (ih g)
  | idx a b _ ih => exact .idx a b (ih g)
theorem OwL.dig {F : Hp} : ∀ {vs : List V} {h : Hp} {ts : List T} {j : Nat} {t : T}, OwL K F vs h ts → ts[j]? = some t → ∃ v h1 r, vs[j]? = some v ∧ OwT K F v h1 t ∧ Dj h1 r ∧ h = jn h1 r ∧
    ∀ F' h1' t', Le F F' → OwT K F' v h1' t' → Dj h1' r → OwL K F' vs (jn h1' r) (ts.set j t')
  | _, _, _, j, _, .nil, e => by simp at e
  | _, _, _, 0, _, .cons (h1 := h1) (h2 := h2) a b d, e => by
    simp at e; subst e
    exact ⟨_, h1, h2, rfl, a, d, rfl, fun F' h1' t' l o q => .cons o (b.le l) q⟩
  | _, _, _, j + 1, _, .cons (h1 := h1) (h2 := h2) a b d, e => by
    obtain ⟨v, g1, r, ev, w, dj, rfl, f⟩ := OwL.dig (j := j) b (by simpa using e)
    refine ⟨v, g1, jn h1 r, by simpa using ev, w, Dj.jn_r d.symm.of_jn_l dj, ?_, fun F' h1' t' l o q => ?_⟩
    · rw [← jn_assoc, jn_comm (d.symm.of_jn_l).symm, jn_assoc]
    · have dq : Dj h1 (jn h1' r) := Dj.jn_r (q.symm.of_jn_l) (d.symm.of_jn_r).symm
      have := OwL.cons (a.le l) (f F' h1' t' l o q.symm.of_jn_r.symm) dq
      rw [← jn_assoc, jn_comm q.symm.of_jn_l, jn_assoc] at this
      simpa using this
theorem OwK.dig {F : Hp} {k : Key} : ∀ {vs : List (Key × V)} {h : Hp} {ts : List (Key × T)} {t : T}, OwK K F vs h ts → lookK k ts = some t → ∃ v h1 r, lookK k vs = some v ∧ OwT K F v h1 t ∧ Dj h1 r ∧ h = jn h1 r ∧
    ∀ F' h1' t', Le F F' → OwT K F' v h1' t' → Dj h1' r → OwK K F' vs (jn h1' r) (putKt k t' ts)
  | _, _, _, _, .nil, e => by simp [lookK] at e
  | _, _, _, _, .cons (k := g) (h1 := h1) (h2 := h2) a b d, e => by
    by_cases hg : g = k
    · simp [lookK, hg] at e; subst e
      exact ⟨_, h1, h2, by simp [lookK, hg], a, d, rfl, fun F' h1' t' l o q => by
        have := OwK.cons (k := g) o (b.le l) q
        simpa [putKt, hg] using this⟩
    · simp [lookK, hg] at e
      obtain ⟨v, g1, r, ev, w, dj, rfl, f⟩ := OwK.dig b e
      refine ⟨v, g1, jn h1 r, by simpa [lookK, hg] using ev, w, Dj.jn_r d.symm.of_jn_l dj, ?_, fun F' h1' t' l o q => ?_⟩
      · rw [← jn_assoc, jn_comm (d.symm.of_jn_l).symm, jn_assoc]
      · have dq : Dj h1 (jn h1' r) := Dj.jn_r (q.symm.of_jn_l) (d.symm.of_jn_r).symm
        have := OwK.cons (k := g) (a.le l) (f F' h1' t' l o q.symm.of_jn_r.symm) dq
        rw [← jn_assoc, jn_comm q.symm.of_jn_l, jn_assoc] at this
        simpa [putKt, hg] using this
theorem OwF.dig {F : Hp} {k : PySem.Str} : ∀ {vs : List (PySem.Str × V)} {h : Hp} {ts : List (PySem.Str × T)} {t : T}, OwF K F vs h ts → lookF k ts = some t → ∃ v h1 r, lookF k vs = some v ∧ OwT K F v h1 t ∧ Dj h1 r ∧ h = jn h1 r ∧
    ∀ F' h1' t', Le F F' → OwT K F' v h1' t' → Dj h1' r → OwF K F' vs (jn h1' r) (putF k t' ts)
  | _, _, _, _, .nil, e => by simp [lookF] at e
  | _, _, _, _, .cons (k := g) (h1 := h1) (h2 := h2) a b d, e => by
    by_cases hg : g = k
    · simp [lookF, hg] at e; subst e
      exact ⟨_, h1, h2, by simp [lookF, hg], a, d, rfl, fun F' h1' t' l o q => by
        have := OwF.cons (k := g) o (b.le l) q
        simpa [putF, hg] using this⟩
    · simp [lookF, hg] at e
      obtain ⟨v, g1, r, ev, w, dj, rfl, f⟩ := OwF.dig b e
      refine ⟨v, g1, jn h1 r, by simpa [lookF, hg] using ev, w, Dj.jn_r d.symm.of_jn_l dj, ?_, fun F' h1' t' l o q => ?_⟩
      · rw [← jn_assoc, jn_comm (d.symm.of_jn_l).symm, jn_assoc]
      · have dq : Dj h1 (jn h1' r) := Dj.jn_r (q.symm.of_jn_l) (d.symm.of_jn_r).symm
        have := OwF.cons (k := g) (a.le l) (f F' h1' t' l o q.symm.of_jn_r.symm) dq
        rw [← jn_assoc, jn_comm q.symm.of_jn_l, jn_assoc] at this
        simpa [putF, hg] using this
theorem OwT.dig1 {F : Hp} {v : V} {h : Hp} {t u : T} {s : Stp} (w : OwT K F v h t) (e : t.get1 s = some u) : ∃ v1 h1 r, Ref h v [s] v1 ∧ OwT K F v1 h1 u ∧ Dj h1 r ∧ h = jn h1 r ∧
    ∀ F' h1' u', Le F F' → OwT K F' v1 h1' u' → Dj h1' r → OwT K F' v (jn h1' r) (t.put1 s u') := by
  cases w with
  | nd r => cases s <;> cases e
  | lf r => cases s <;> cases e
  | lst w np =>
    rename_i p vs h0 ts
    cases s with
    | fld f => cases e
    | key k => cases e
    | idx j =>
      obtain ⟨v1, h1, r, ev, w1, dj, rfl, f⟩ := w.dig e
      have n1 := (jn_none.mp np).1
      refine ⟨v1, h1, upd r p (.lst vs), .idx upd_same ev .here, w1, (dj.symm.upd n1).symm, jn_upd_r n1, fun F' h1' u' l o q => ?_⟩
      have n2 : h1' p = none := q.symm.of_upd
      have dq : Dj h1' r := (q.symm.un_upd (jn_none.mp np).2).symm
      rw [← jn_upd_r n2]
      exact .lst (f F' h1' u' l o dq) (jn_none.mpr ⟨n2, (jn_none.mp np).2⟩)
  | tup w np => cases s <;> cases e
  | dic w np =>
    rename_i p vs h0 ts
    cases s with
    | fld f => cases e
    | idx k => cases e
    | key k =>
      obtain ⟨v1, h1, r, ev, w1, dj, rfl, f⟩ := w.dig e
      have n1 := (jn_none.mp np).1
      refine ⟨v1, h1, upd r p (.dK vs), .key upd_same ev .here, w1, (dj.symm.upd n1).symm, jn_upd_r n1, fun F' h1' u' l o q => ?_⟩
      have n2 : h1' p = none := q.symm.of_upd
      have dq : Dj h1' r := (q.symm.un_upd (jn_none.mp np).2).symm
      rw [← jn_upd_r n2]
      exact .dic (f F' h1' u' l o dq) (jn_none.mpr ⟨n2, (jn_none.mp np).2⟩)
  | obj w np nd ne =>
    rename_i p dx C vs h0 ts
    cases s with
    | key f => cases e
    | idx k => cases e
    | fld f =>
      obtain ⟨v1, h1, r, ev, w1, dj, rfl, g⟩ := w.dig e
      obtain ⟨n1, m1⟩ := jn_none.mp np
      obtain ⟨n2, m2⟩ := jn_none.mp nd
      have d2 : Dj h1 (upd r dx (.own p)) := (dj.symm.upd n2).symm
      refine ⟨v1, h1, upd (upd r dx (.own p)) p (.ins C dx vs), .fld upd_same ev .here, w1, (d2.symm.upd n1).symm, ?_, fun F' h1' u' l o q => ?_⟩
      · rw [jn_upd_r n2, jn_upd_r n1]
      · have k1 : h1' p = none := q.symm.of_upd
        have q2 : Dj h1' (upd r dx (.own p)) := (q.symm.un_upd (by rw [upd_ne ne.symm]; exact m1)).symm
        have k2 : h1' dx = none := q2.symm.of_upd
        have q3 : Dj h1' r := (q2.symm.un_upd m2).symm
        rw [← jn_upd_r k1, ← jn_upd_r k2]
        exact .obj (g F' h1' u' l o q3) (jn_none.mpr ⟨k1, m1⟩) (jn_none.mpr ⟨k2, m2⟩) ne
theorem OwT.dig {F : Hp} : ∀ {π : List Stp} {v : V} {h : Hp} {t u : T}, OwT K F v h t → t.at π = some u → ∃ v1 h1 r, Ref h v π v1 ∧ OwT K F v1 h1 u ∧ Dj h1 r ∧ h = jn h1 r ∧
    ∀ F' h1' u', Le F F' → OwT K F' v1 h1' u' → Dj h1' r → OwT K F' v (jn h1' r) (t.put π u')
  | [], v, h, t, u, w, e => by
    simp [T.at] at e; subst e
    exact ⟨v, h, emp, .here, w, Dj.emp_r, jn_emp.symm, fun F' h1' u' l o q => by rw [jn_emp]; exact o⟩
  | s :: π, v, h, t, u, w, e => by
    simp only [T.at] at e
    cases e1 : t.get1 s with
    | none => rw [e1] at e; cases e
    | some x =>
      rw [e1] at e
      obtain ⟨v1, h1, r, rf, w1, dj, rfl, f⟩ := w.dig1 e1
      obtain ⟨v2, h2, r2, rf2, w2, dj2, rfl, f2⟩ := OwT.dig (π := π) w1 (show x.at π = some u from e)
      refine ⟨v2, h2, jn r2 r, rf.trans (rf2.up Same.jn_l), w2, Dj.jn_r dj2 dj.of_jn_l, jn_assoc, fun F' h1' u' l o q => ?_⟩
      have q2 : Dj h1' r2 := q.symm.of_jn_l.symm
      have q3 : Dj h1' r := q.symm.of_jn_r.symm
      rw [← jn_assoc]
      have := f F' (jn h1' r2) (x.put π u') l (f2 F' h1' u' l o q2) (Dj.jn_l q3 dj.of_jn_r)
      show OwT K F' v (jn (jn h1' r2) r) (match t.get1 s with | some x => t.put1 s (x.put π u') | none => t)
      rw [e1]
      exact this
/-- an owned thing at a place: what it is, and what may be made of it -/
theorem St.dig {G F H : Hp} {ms : List MV} {σ : List (Option V)} {i : Nat} {p : Addr} {t u : T} {π : List Stp} (S : St K G F H ms σ) (e : ms[i]? = some (.ot p t)) (a : t.at π = some u) :
    ∃ v1 h1, Ref H (.ref p) π v1 ∧ OwT K F v1 h1 u ∧ Same h1 H ∧ ∀ q o o' h1' u', h1 q = some o → Same h1' (upd h1 q o') → h1' q = some o' → OwT K F v1 h1' u' → St K G F (upd H q o') (ms.set i (.ot p (t.put π u'))) σ := by
  obtain ⟨h, x, sh, d1, d2⟩ := S.own
  obtain ⟨g1, g2, rfl, dj, w, f, _⟩ := x.focus e
  obtain ⟨v1, h1, r, rf, w1, dj1, rfl, f1⟩ := w.dig a
  have s1 : Same h1 H := Same.jn_l.trans (Same.jn_l.trans sh)
  have s2 : Same r H := (Same.jn_r dj1).trans (Same.jn_l.trans sh)
  have s3 : Same g2 H := (Same.jn_r dj).trans sh
  refine ⟨v1, h1, rf.up (Same.jn_l.trans sh), w1, s1, fun q o o' h1' u' hq hs ho hw => ?_⟩
  have nF : F q = none := d1.of_jn_l.of_jn_l.none hq
  have nG : G q = none := d2.of_jn_l.of_jn_l.none hq
  have n2 : g2 q = none := dj.of_jn_l.none hq
  have nr : r q = none := dj1.none hq
  have up : ∀ {A : Hp}, A q = none → Same A H → Same A (upd H q o') := fun na s b u z => by
    rw [upd_ne (ne_of_none z na)]; exact s _ _ z
  have dd : ∀ {A : Hp}, A q = none → Dj h1 A → Dj h1' A := fun na d b => by
    by_cases hb : b = q
    · subst hb; exact .inr na
    · cases z : h1' b with
      | none => exact .inl rfl
      | some y =>
        have := hs _ _ z
        rw [upd_ne hb] at this
        exact .inr (d.none this)
  refine ⟨up nG S.g, up nF S.f, S.fg, jn (jn h1' r) g2, f F _ _ (Le.of (Same.refl _)) (f1 F h1' u' (Le.of (Same.refl _)) hw (dd nr dj1)) (Dj.jn_l (dd n2 dj.of_jn_l) dj.of_jn_r), Same.jn (Same.jn ?_ (up nr s2)) (up n2 s3),
    Dj.jn_l (Dj.jn_l (dd nF d1.of_jn_l.of_jn_l) d1.of_jn_l.of_jn_r) d1.of_jn_r, Dj.jn_l (Dj.jn_l (dd nG d2.of_jn_l.of_jn_l) d2.of_jn_l.of_jn_r) d2.of_jn_r⟩
  intro b y z
  have := hs _ _ z
  by_cases hb : b = q
  · subst hb; rw [upd_same] at this ⊢; exact this
  · rw [upd_ne hb] at this ⊢; exact s1 _ _ this
end
end M
namespace M
open PySem PySem.Spec PyProof.Rows L2
/-! ### != of equal dicts -/
def rNeK (K : PySem.W.Frag) : R2 := fun x y H Q => ∃ a b ka kb, x = .ref a ∧ y = .ref b ∧ Rd H a (.dK ka) ∧ Rd H b (.dK kb) ∧ ka.length = kb.length ∧
  (∀ p ∈ ka, ∃ u d e, valV kb p.1 = some u ∧ Dp K H p.2 d ∧ Dp K H u e ∧ SeqAt.shaped d = true ∧ SeqAt.shaped e = true ∧ PyData.eqv d e = true) ∧ Q (.bl false) H
def rNeB (K : PySem.W.Frag) : R2 := fun x y H Q => rNeA K x y H Q ∨ rNeK K x y H Q
section
variable {X : Cx} {pins : List (Addr × Obj)} {σ : L2.St} {H : Hp} {s : Shared}
theorem valAt_of {k : Key} : ∀ {kb : List (Key × V)} {vb : List (Key × Value)}, KV kb vb → ∀ {u : V}, valV kb k = some u → ∃ y, valueAt vb k = some y ∧ RelV u y
  | _, _, .nil, u, h => by cases h
  | (k1, v1) :: kb, (k2, y2) :: vb, .cons r t, u, h => by
    obtain ⟨e, rv⟩ := r
    simp only at e; subst e
    by_cases hk : k1 = k
    · have : u = v1 := by simp [valV, List.find?_cons, hk] at h; exact h.symm
      subst this
      exact ⟨y2, by simp [valueAt, List.find?_cons, hk], rv⟩
    · have h' : valV kb k = some u := by simpa [valV, List.find?_cons, hk] using h
      obtain ⟨y, e, r⟩ := valAt_of t h'
      exact ⟨y, by simpa [valueAt, List.find?_cons, hk] using e, r⟩
theorem hits_eq (I : Inv X pins σ H s) {A : Around} (hu : A.units + 64 < cLine) {kb : List (Key × V)} {vb : List (Key × Value)} (rb : KV kb vb) : ∀ {ka : List (Key × V)} {va : List (Key × Value)}, KV ka va →
    (∀ p ∈ ka, ∃ u d e, valV kb p.1 = some u ∧ Dp X.K H p.2 d ∧ Dp X.K H u e ∧ SeqAt.shaped d = true ∧ SeqAt.shaped e = true ∧ PyData.eqv d e = true) → PySem.W.KeqHits A s vb va true
  | _, _, .nil, _ => .nil
  | (k1, v1) :: ka, (k2, y2) :: va, .cons r t, h => by
    obtain ⟨e, rv⟩ := r
    simp only at e; subst e
    obtain ⟨u, d, e, hv, p1, p2, s1, s2, eq⟩ := h _ List.mem_cons_self
    obtain ⟨y, ey, ry⟩ := valAt_of rb hv
    obtain ⟨as, r1⟩ := Dp.reads I d v1 y2 p1 rv
    obtain ⟨bs, r2⟩ := Dp.reads I e u y p2 ry
    have := PySem.W.KeqHits.hit (k := k1) (r := va) ey (SeqAt.eqAt_reads d e A s y2 y as bs r1 r2 (SeqAt.canLay_of_shaped s1) (SeqAt.canLay_of_shaped s2) (SeqAt.room_of_shaped s1 hu)) (hits_eq I hu rb t fun p hp => h p (List.mem_cons_of_mem _ hp))
    rw [eq] at this
    exact this
end
section
variable {X : Cx}
theorem op_neK (hu : X.A.units + 65 < cLine) : OpR X (compareOp .NotEq) (rNeK X.K) := by
  intro pins s σ H x y v u Q I rx ry h
  obtain ⟨a, b, ka, kb, rfl, rfl, ha, hb, hl, hp, q⟩ := h
  cases rx
  cases ry
  obtain ⟨_, ya, va, ra, da⟩ := (show ObjOk X.prog X.w H s.heap a (.dK ka) from ha.ok I.hok)
  obtain ⟨_, yb, vb, rb, db⟩ := (show ObjOk X.prog X.w H s.heap b (.dK kb) from hb.ok I.hok)
  refine PySem.W.keq_ne (r := true) ya yb da db (by omega) (fun _ => hits_eq I (by show X.A.units + 1 + 64 < cLine; omega) rb ra hp) ?_
  have e : va.length = vb.length := by rw [← ra.length, ← rb.length]; exact hl
  refine ⟨.bl false, H, I, ?_, q⟩
  rw [e]; simp; rfl
theorem op_neB (hu : X.A.units + 65 < cLine) : OpR X (compareOp .NotEq) (rNeB X.K) := OpR.or (op_neA (by omega)) (op_neK hu)
end
section
variable {K : PySem.W.Frag} {P : D → Prop}
theorem opD.orl {r1 r2 : R2} {a b : D} (h : opD K r1 a b P) : opD K (fun x y H Q => r1 x y H Q ∨ r2 x y H Q) a b P := fun x y F H Q r1 r2 s k => .inl (h x y F H Q r1 r2 s k)
theorem RpK.length {F : Hp} : ∀ {vs : List (Key × V)} {ds : List (Key × D)}, RpK K F vs ds → vs.length = ds.length
  | _, _, .nil => rfl
  | _, _, .cons _ t => by simp [RpK.length t]
theorem RpK.mem {F : Hp} {p : Key × V} : ∀ {vs : List (Key × V)} {ds : List (Key × D)}, RpK K F vs ds → p ∈ vs → ∃ d, (p.1, d) ∈ ds ∧ Rp K F p.2 d
  | _, _, .nil, h => by cases h
  | _, _, .cons r t, h => by
    cases h with
    | head => exact ⟨_, List.mem_cons_self, r⟩
    | tail _ h =>
      obtain ⟨d, m, q⟩ := RpK.mem t h
      exact ⟨d, List.mem_cons_of_mem _ m, q⟩
/-- two dicts alike: the same keys with the same data -/
def sameK (a b : List (Key × D)) : Prop := a.length = b.length ∧ ∀ q ∈ a, q.2.sh = true ∧ ∃ e, valD b q.1 = some e ∧ e.sh = true ∧ PyData.eqv q.2.py e.py = true
theorem o_neK {a b : List (Key × D)} (hs : sameK a b) (h : P (.bl false)) : opD K (rNeB K) (.dic a) (.dic b) P := by
  intro x y F H Q r1 r2 s k
  cases r1 with
  | dic e1 q1 =>
    cases r2 with
    | dic e2 q2 =>
      refine .inr ⟨_, _, _, _, rfl, rfl, (Le.of s).rdD e1, (Le.of s).rdD e2, by rw [q1.length, q2.length]; exact hs.1, fun p hp => ?_, k _ _ F H h .refl (.bl _)⟩
      obtain ⟨d, m, rd⟩ := q1.mem hp
      obtain ⟨sd, e, ve, se, eq⟩ := hs.2 _ m
      simp only at sd ve eq
      rcases RpK.val (k := p.1) q2 with ⟨_, z⟩ | ⟨u, e', v1, v2, re⟩
      · rw [z] at ve; cases ve
      · rw [ve] at v2; cases v2
        exact ⟨u, d.py, e.py, v1, Dp.up s (rd.dp (D.sh_lay sd)), Dp.up s (re.dp (D.sh_lay se)), sd, se, eq⟩
end
/-! ### min of a list of rows -/
def rMinD (K : PySem.W.Frag) : List V → Hp → VK → Prop := fun xs H Q => ∃ (a : Addr) (vs : List V) (x : PyData) (ds : List PyData), xs = [.ref a] ∧ SqL K H a vs ∧ DpAll K H vs (x :: ds) ∧ PySem.W.AlikeAll (x :: ds) ∧ PyData.depthAll (x :: ds) ≤ 60 ∧
  ∀ (i : Nat) (v : V), vs[i]? = some v → (x :: ds)[i]? = some (PySem.W.minD x ds) → Q v H
section
variable {X : Cx} {pins : List (Addr × Obj)} {σ : L2.St} {H : Hp} {s : Shared}
theorem minD_mem : ∀ (ds : List PyData) (x : PyData), PySem.W.minD x ds ∈ x :: ds
  | [], x => by simp [PySem.W.minD]
  | y :: ds, x => by
    have := minD_mem ds (if PySem.W.dataLt y x then y else x)
    show PySem.W.minD (if PySem.W.dataLt y x then y else x) ds ∈ _
    rcases List.mem_cons.mp this with e | e
    · rw [e]
      split
      · exact .tail _ (.head _)
      · exact .head _
    · exact .tail _ (.tail _ e)
theorem dpAll_at : ∀ {vs : List V} {ds : List PyData}, DpAll X.K H vs ds → ∀ {us : List Value}, Vals vs us → ∀ (i : Nat) (u : Value), us[i]? = some u → ∃ v d, vs[i]? = some v ∧ ds[i]? = some d ∧ RelV v u ∧ Dp X.K H v d
  | _, _, .nil, _, .nil, i, u, h => by simp at h
  | _, _, .cons a b, _, .cons r t, 0, u, h => by simp at h; subst h; exact ⟨_, _, rfl, rfl, r, a⟩
  | _, _, .cons a b, _, .cons r t, i + 1, u, h => by
    obtain ⟨v, d, m, n, q, p⟩ := dpAll_at b t i u (by simpa using h)
    exact ⟨v, d, by simpa using m, by simpa using n, q, p⟩
theorem call_minD {X : Cx} (hc : X.calm = true) (hu : X.A.units + 65 < cLine) : CallR X (.builtin "min") (rMinD X.K) := by
  intro pins s σ H xs us Q I r h
  obtain ⟨a, vs, x, ds, rfl, hs, hd, al, dp, q⟩ := h
  obtain ⟨u, rfl, rx⟩ := vals1 r
  cases rx
  obtain ⟨its, rv, hl, _⟩ := I.list hs
  obtain ⟨as, ra⟩ := Dp.readsAll I _ _ its hd rv
  refine PySem.W.min_list_data (I.ok.hd hc) hl.isList (show ReadsAll s.heap its.toArray.toList (x :: ds) as from ra) al (by omega) fun i v h' tk bs hv hr hk => ?_
  obtain ⟨w, d, mw, md, rw_, pw⟩ := dpAll_at hd rv i v (by simpa using hv)
  obtain ⟨cs, rd⟩ := Dp.reads I d w v pw rw_
  have e := PySem.W.alike_unique _ _ _ _ _ (al.1 d (List.mem_of_getElem? md) _ (minD_mem ds x)) (Reads.keeps hk rd) hr
  exact ⟨w, H, I.kept hk, rw_, q i w mw (by rw [md, e])⟩
end
section
variable {K : PySem.W.Frag} {P : D → Prop}
/-- rows of whole numbers -/
def rowD (r : List Nat) : D := .lst (r.map fun k : Nat => D.int (k : Int))
theorem pys_ints (r : List Nat) : pys (r.map fun k : Nat => D.int ((k : Nat) : Int)) = r.map fun k : Nat => PyData.int (k : Int) := by
  induction r with
  | nil => simp [pys]
  | cons a r ih => simp [pys, D.py, ih]
theorem rowD_py (r : List Nat) : (rowD r).py = .list (r.map fun k : Nat => .int (k : Int)) := by
  unfold rowD; rw [D.py, pys_ints]
theorem pys_rows (rs : List (List Nat)) : pys (rs.map rowD) = rs.map fun r => (rowD r).py := by
  induction rs with
  | nil => simp [pys]
  | cons a r ih => simp [pys, ih]
theorem depth_ints : ∀ r : List Nat, PyData.depthAll (r.map fun k : Nat => PyData.int (k : Int)) ≤ 1
  | [] => by simp [PyData.depthAll]
  | a :: r => by
    have := depth_ints r
    simp only [List.map_cons, PyData.depthAll, PyData.depth]; omega
theorem depth_rows : ∀ rs : List (List Nat), PyData.depthAll (rs.map fun r => (rowD r).py) ≤ 3
  | [] => by simp [PyData.depthAll]
  | a :: r => by
    have := depth_rows r
    have := depth_ints a
    simp only [List.map_cons, PyData.depthAll, rowD_py, PyData.depth]; simp only [rowD_py] at *; omega
theorem alike_ints : ∀ a b : List Nat, PySem.W.alikeAll (a.map fun k : Nat => PyData.int (k : Int)) (b.map fun k : Nat => PyData.int (k : Int)) = true
  | [], _ => by simp [PySem.W.alikeAll]
  | _ :: _, [] => by simp [PySem.W.alikeAll]
  | _ :: a, _ :: b => by simp [PySem.W.alikeAll, PySem.W.alike, alike_ints a b]
theorem lay_ints : ∀ r : List Nat, PyData.canLayAll0 (r.map fun k : Nat => PyData.int (k : Int)) = true
  | [] => by simp [PyData.canLayAll0]
  | a :: r => by simp [PyData.canLayAll0, PyData.canLay0, lay_ints r]
theorem lay_rows : ∀ rs : List (List Nat), PyData.canLayAll0 (rs.map fun r => (rowD r).py) = true
  | [] => by simp [PyData.canLayAll0]
  | a :: r => by simp [PyData.canLayAll0, rowD_py, PyData.canLay0, lay_ints a]; simpa [rowD_py] using lay_rows r
def minRow (x : List Nat) (rs : List (List Nat)) : List Nat := rs.foldl (fun a y => if decide (y.map (fun k : Nat => (k : Int)) < a.map (fun k : Nat => (k : Int))) then y else a) x
theorem minD_rows : ∀ (rs : List (List Nat)) (x : List Nat), PySem.W.minD (rowD x).py (rs.map fun r => (rowD r).py) = (rowD (minRow x rs)).py
  | [], x => rfl
  | y :: rs, x => by
    have e : PySem.W.dataLt (rowD y).py (rowD x).py = decide (y.map (fun k : Nat => (k : Int)) < x.map (fun k : Nat => (k : Int))) := by
      rw [rowD_py, rowD_py, PySem.W.dataLt_list]
      have := PySem.W.dataLt_ints (y.map fun k : Nat => (k : Int)) (x.map fun k : Nat => (k : Int))
      rw [List.map_map, List.map_map] at this
      exact this
    show PySem.W.minD (if PySem.W.dataLt (rowD y).py (rowD x).py then (rowD y).py else (rowD x).py) (rs.map fun r => (rowD r).py) = (rowD (minRow (if decide (y.map (fun k : Nat => (k : Int)) < x.map (fun k : Nat => (k : Int))) then y else x) rs)).py
    rw [e]
    cases decide (y.map (fun k : Nat => (k : Int)) < x.map (fun k : Nat => (k : Int))) with
    | true => exact minD_rows rs y
    | false => exact minD_rows rs x
end
section
variable {K : PySem.W.Frag} {P : D → Prop}
theorem RpL.atV {F : Hp} {i : Nat} {v : V} : ∀ {vs : List V} {ds : List D}, RpL K F vs ds → vs[i]? = some v → ∃ d, ds[i]? = some d ∧ Rp K F v d := by
  induction i with
  | zero =>
    intro vs ds r h
    cases r with
    | nil => simp at h
    | cons a b => simp at h; subst h; exact ⟨_, rfl, a⟩
  | succ i ih =>
    intro vs ds r h
    cases r with
    | nil => simp at h
    | cons a b => simpa using ih b (by simpa using h)
theorem row_inj {a b : List Nat} (h : (rowD a).py = (rowD b).py) : a = b := by
  rw [rowD_py, rowD_py] at h
  injection h with h
  exact List.map_inj_right (fun x y e => by injection e with e; exact Int.ofNat.inj e) |>.mp h
theorem c_minRows {x : List Nat} {rs : List (List Nat)} (h : P (rowD (minRow x rs))) : cbD K (rMinD K) [.lst ((x :: rs).map rowD)] P := by
  intro xs F H Q r s k
  cases r with
  | cons r1 r2 =>
    cases r2
    have la := lay_rows (x :: rs)
    cases r1 with
    | lst e q =>
      rename_i a vs
      have d1 := DpAll.up s (q.dp (by rw [pys_rows]; exact la))
      rw [pys_rows] at d1
      refine ⟨a, vs, _, _, rfl, SqL.of (s _ _ e), d1, ⟨fun a ha b hb => ?_, fun a ha => ?_⟩, Nat.le_trans (depth_rows (x :: rs)) (by decide), fun i v hv hm => ?_⟩
      · obtain ⟨a', _, rfl⟩ := List.mem_map.mp (show a ∈ (x :: rs).map fun r => (rowD r).py from ha)
        obtain ⟨b', _, rfl⟩ := List.mem_map.mp (show b ∈ (x :: rs).map fun r => (rowD r).py from hb)
        simp only [rowD_py, PySem.W.alike]
        exact alike_ints _ _
      · obtain ⟨a', _, rfl⟩ := List.mem_map.mp (show a ∈ (x :: rs).map fun r => (rowD r).py from ha)
        simp [rowD_py]
      · obtain ⟨d, hd, rd⟩ := q.atV hv
        have hm' : ((x :: rs).map fun r => (rowD r).py)[i]? = some (PySem.W.minD (rowD x).py (rs.map fun r => (rowD r).py)) := hm
        rw [minD_rows, List.getElem?_map] at hm'
        rw [List.getElem?_map] at hd
        cases ei : (x :: rs)[i]? with
        | none => rw [ei] at hd; cases hd
        | some r0 =>
          rw [ei] at hd hm'
          simp only [Option.map_some, Option.some.injEq] at hd hm'
          subst hd
          have := row_inj hm'
          subst this
          exact k _ _ F H h .refl rd
end
/-! ### list(range(..)), len(set(..)), {} -/
section
variable {K : PySem.W.Frag} {n : Nat} {ms : List MV} {X : XP}
theorem RpL.rng {F : Hp} (a : Int) : ∀ (l : List Nat), RpL K F (l.map fun i => V.int (a + (i : Nat))) (l.map fun i => D.int (a + (i : Nat)))
  | [] => .nil
  | _ :: l => .cons (.int _) (RpL.rng a l)
/-- list(range(n)) -/
theorem wd_lstRg1 {ta : WX → TE} {P : D → List MV → Prop} (h : wpD K n ta ms (fun d m1 => ∃ k : Int, d = .int k ∧ 0 ≤ k ∧ k ≤ 10000 ∧ P (.lst ((List.range k.toNat).map fun i : Nat => .int (i : Nat))) m1) X) : wpD K n (fun W => tLstRg (tRg1 (ta W))) ms P X := by
  intro W G F H σ gv Q hn S k x
  refine h W G F H σ gv _ hn S (fun d v m1 g1 F1 H1 ho S1 r1 e1 => ?_) x
  obtain ⟨j, rfl, h0, h1, p⟩ := ho
  cases r1
  refine ⟨j, rfl, RgOk.of_le (by omega) (by omega) (by omega) h0, fun q hq => ?_⟩
  have S2 := S1.new (o := .lst (rgV 0 j)) hq
  refine k _ _ m1 g1 _ _ p S2 (.lst upd_same ?_) (e1.trans (same_new (S1.f.free hq)))
  have := RpL.rng (K := K) (F := upd F1 q (.lst (rgV 0 j))) 0 (List.range j.toNat)
  generalize upd F1 q (.lst (rgV 0 j)) = F9 at this ⊢
  unfold rgV
  simpa using this
theorem wd_lenSet {ta : WX → TE} {P : D → List MV → Prop} (h : wpD K n ta ms (fun d m1 => ∃ xs : List PySem.Str, d = .lst (xs.map .str) ∧ xs.length ≤ 1000 ∧ P (.int (ddN [] xs : Nat)) m1) X) : wpD K n (fun W => tLenSetS K (ta W)) ms P X := by
  intro W G F H σ gv Q hn S k x
  refine h W G F H σ gv _ hn S (fun d v m1 g1 F1 H1 ho S1 r1 e1 => ?_) x
  obtain ⟨xs, rfl, hl, p⟩ := ho
  cases r1 with
  | lst e q =>
    have : ∀ {vs : List V} {xs : List PySem.Str}, RpL K F1 vs (xs.map .str) → vs = xs.map V.str := by
      intro vs
      induction vs with
      | nil =>
        intro xs q
        cases xs with
        | nil => rfl
        | cons => cases q
      | cons v vs ih =>
        intro xs q
        cases xs with
        | nil => cases q
        | cons x xs =>
          cases q with
          | cons a b =>
            cases a
            rw [ih b]; rfl
    have ev := this q
    subst ev
    exact ⟨_, xs, rfl, SqL.of (S1.f _ _ e), hl, k _ _ m1 g1 F1 H1 p S1 (.int _) e1⟩
theorem wn_dic0 {P : Addr → T → List MV → Prop} (h : ∀ p, P p (.dic []) ms) : wpN K n (fun _ => tDNewK) ms P X := by
  intro W G F H σ gv Q hn S k x p hp
  exact k _ _ ms gv F _ (h p) (S.newOwn hp (.dic .nil rfl)) (Same.refl _)
theorem wd_dic0 {P : D → List MV → Prop} (h : P (.dic []) ms) : wpD K n (fun _ => tDNewK) ms P X := by
  intro W G F H σ gv Q hn S k x p hp
  exact k _ _ ms gv _ _ h (S.new hp) (.dic (.inl upd_same) .nil) (same_new (S.f.free hp))
/-- {k: v} -/
theorem wd_disp1 {tk tv : WX → TE} {P : D → List MV → Prop} (h : wpD K n tk ms (fun a m1 => ∃ k, keyD a = some k ∧ wpD K n tv m1 (fun d m2 => P (.dic [(k, d)]) m2) X) X) : wpD K n (fun W => tDisp [(tk W, tv W)]) ms P X := by
  intro W G F H σ gv Q hn S kk x p hp
  have S0 : St K (upd G p (.dK [])) F (upd H p (.dK [])) ms (σ ++ gv) := by
    obtain ⟨h0, w, sh, d1, d2⟩ := S.own
    refine ⟨fun b u e => ?_, S.f.trans (same_new hp), (S.fg.symm.upd (S.f.free hp)).symm, h0, w, sh.trans (same_new hp), d1, (d2.symm.upd (sh.free hp)).symm⟩
    by_cases hb : b = p
    · subst hb; rw [upd_same] at e ⊢; exact e
    · rw [upd_ne hb] at e ⊢; exact S.g _ _ e
  have back : ∀ {F' H' : Hp} {m : List MV} {g : List (Option V)}, St K (upd G p (.dK [])) F' H' m (σ ++ g) → St K G F' H' m (σ ++ g) := fun S' => by
    have hG : G p = none := S.g.free hp
    obtain ⟨h0, w, sh, d1, d2⟩ := S'.own
    exact ⟨(same_new hG).trans S'.g, S'.f, (S'.fg.symm.un_upd hG).symm, h0, w, sh, d1, (d2.symm.un_upd hG).symm⟩
  refine h W _ F _ σ gv _ hn S0 (fun a v1 m1 g1 F1 H1 ho S1 r1 e1 => ?_) (fun c m g F' H' q S' e => x c m g F' H' q (back S') e)
  obtain ⟨k, ek, ho⟩ := ho
  refine ho W _ F1 H1 σ g1 _ hn S1 (fun d v2 m2 g2 F2 H2 ho S2 r2 e2 => ?_) (fun c m g F' H' q S' e => x c m g F' H' q (back S') (e1.trans e))
  have hp2 : H2 p = some (.dK []) := S2.g _ _ upd_same
  refine ⟨hp2, [(k, v2)], ?_, (by decide : 1 ≤ 15), ?_⟩
  · rw [(r1.key ek)]; rfl
  · have hF : F2 p = none := S2.fg.symm.none upd_same
    have hG : G p = none := S.g.free hp
    have em : mergeK [] [(k, v2)] = [(k, v2)] := rfl
    rw [em]
    have S3 : St K G (upd F2 p (.dK [(k, v2)])) (upd H2 p (.dK [(k, v2)])) m2 (σ ++ g2) := by
      obtain ⟨h0, w, sh, d1, d2⟩ := S2.own
      have hh : h0 p = none := d2.symm.none upd_same
      have up : ∀ {A : Hp}, A p = none → Same A H2 → Same A (upd H2 p (.dK [(k, v2)])) := fun na s b u z => by
        rw [upd_ne (ne_of_none z na)]; exact s _ _ z
      refine ⟨up hG ((same_new hG).trans S2.g), fun b u e => ?_, Dj.upd (S2.fg.symm.un_upd hG).symm hG, h0, w.up (same_new hF), up hh sh, (d1.symm.upd hh).symm, (d2.symm.un_upd hG).symm⟩
      by_cases hb : b = p
      · subst hb; rw [upd_same] at e ⊢; exact e
      · rw [upd_ne hb] at e ⊢; exact S2.f _ _ e
    refine kk _ _ m2 g2 _ _ ho S3 (.dic (.inl upd_same) (.cons (r2.up (same_new hF)) .nil)) ((e1.trans e2).trans (same_new hF))
/-! ### d[k] = v, an owned dict -/
def putM {α : Type} (k : Key) (y : α) (l : List (Key × α)) : List (Key × α) :=
  if (l.any fun kv => decide (kv.1 = k)) = true then l.map (fun kv => if kv.1 = k then (kv.1, y) else kv) else l ++ [(k, y)]
theorem OwK.len {F : Hp} : ∀ {vs : List (Key × V)} {h : Hp} {ts : List (Key × T)}, OwK K F vs h ts → vs.length = ts.length
  | _, _, _, .nil => rfl
  | _, _, _, .cons _ t _ => by simp [OwK.len t]
theorem OwK.any {F : Hp} {k : Key} : ∀ {vs : List (Key × V)} {h : Hp} {ts : List (Key × T)}, OwK K F vs h ts → (vs.any fun kv => decide (kv.1 = k)) = ts.any fun kv => decide (kv.1 = k)
  | _, _, _, .nil => rfl
  | _, _, _, .cons _ t _ => by simp [OwK.any (k := k) t]
theorem OwK.setAll {F : Hp} {k : Key} {v : V} {d : D} (r : Rp K F v d) : ∀ {vs : List (Key × V)} {h : Hp} {ts : List (Key × T)}, OwK K F vs h ts → ∃ h', OwK K F (vs.map fun kv => if kv.1 = k then (kv.1, v) else kv) h' (ts.map fun kv => if kv.1 = k then (kv.1, .lf d) else kv) ∧ Same h' h
  | _, _, _, .nil => ⟨emp, .nil, Same.refl _⟩
  | _, _, _, .cons (k := g) (h1 := g1) a b dj => by
    obtain ⟨h', w, s⟩ := OwK.setAll (k := k) r b
    by_cases hg : g = k
    · refine ⟨jn emp h', ?_, ?_⟩
      · have := OwK.cons (k := g) (OwT.lf r) w Dj.emp_l
        simpa [hg] using this
      · rw [emp_jn]; exact s.trans (Same.jn_r dj)
    · refine ⟨jn g1 h', ?_, ?_⟩
      · have := OwK.cons (k := g) a w (dj.symm.sub s).symm
        simpa [hg] using this
      · exact Same.jn Same.jn_l (s.trans (Same.jn_r dj))
theorem OwK.snoc {F : Hp} {k : Key} {v : V} {d : D} (r : Rp K F v d) : ∀ {vs : List (Key × V)} {h : Hp} {ts : List (Key × T)}, OwK K F vs h ts → OwK K F (vs ++ [(k, v)]) h (ts ++ [(k, .lf d)])
  | _, _, _, .nil => by
    have z := OwK.cons (k := k) (OwT.lf r) OwK.nil Dj.emp_l
    rw [emp_jn] at z
    exact z
  | _, _, _, .cons a b d => .cons a (OwK.snoc r b) d
theorem OwK.put {F : Hp} {k : Key} {v : V} {d : D} (r : Rp K F v d) {vs : List (Key × V)} {h : Hp} {ts : List (Key × T)} (w : OwK K F vs h ts) : ∃ h', OwK K F (putK vs k v) h' (putM k (.lf d) ts) ∧ Same h' h := by
  unfold putK putM
  rw [w.any]
  split
  · exact w.setAll r
  · exact ⟨h, w.snoc r, Same.refl _⟩
/-- what an owned dict holds, and what becomes of it -/
theorem St.dic {G F H : Hp} {σ : List (Option V)} {i : Nat} {p : Addr} {ts : List (Key × T)} (S : St K G F H ms σ) (e : ms[i]? = some (.ot p (.dic ts))) : ∃ vs h, H p = some (.dK vs) ∧ OwK K F vs h ts ∧
    ∀ vs' ts', (∃ h', OwK K F vs' h' ts' ∧ Same h' h) → St K G F (upd H p (.dK vs')) (ms.set i (.ot p (.dic ts'))) σ := by
  obtain ⟨v1, h1, rf, w, s1, f⟩ := S.dig (π := []) e rfl
  cases rf
  cases w with
  | dic w0 np =>
    rename_i vs h0
    refine ⟨vs, h0, s1 _ _ upd_same, w0, fun vs' ts' ⟨h', w', s'⟩ => ?_⟩
    refine f p _ (.dK vs') (upd h' p (.dK vs')) (.dic ts') upd_same (fun b u z => ?_) upd_same (.dic w' (s'.free np))
    by_cases hb : b = p
    · subst hb; rw [upd_same] at z ⊢; exact z
    · rw [upd_ne hb] at z ⊢; rw [upd_ne hb]; exact s' _ _ z
variable {N : List MV → Prop} {R : MV → List MV → Prop}
/-- the expression names an owned thing -/
theorem ws_dput {td ty tv : WX → TE} (h : wpD K n tv ms (fun d m1 => wpD K n td m1 (fun x m2 => ∃ p, x = .raw (.ref p) ∧ wpD K n ty m2 (fun kd m3 => ∃ k i ts, keyD kd = some k ∧ m3[i]? = some (.ot p (.dic ts)) ∧ ts.length < 1000000 ∧ N (m3.set i (.ot p (.dic (putM k (.lf d) ts))))) X) X) X) :
    wpS K n (fun W => sDPut (td W) (ty W) (tv W)) ms N R X := by
  intro W G F H σ gv E hn S k r x
  refine h W G F H σ gv _ hn S (fun d v m1 g1 F1 H1 ho S1 r1 e1 => ?_) (fun c m g F' H' p S' e => x c m σ g F' H' p hn S' e)
  refine ho W G F1 H1 σ g1 _ hn S1 (fun d2 v2 m2 g2 F2 H2 ho S2 r2 e2 => ?_) (fun c m g F' H' p S' e => x c m σ g F' H' p hn S' (e1.trans e))
  obtain ⟨p, rfl, ho⟩ := ho
  cases r2
  refine ho W G F2 H2 σ g2 _ hn S2 (fun d3 v3 m3 g3 F3 H3 ho S3 r3 e3 => ?_) (fun c m g F' H' p S' e => x c m σ g F' H' p hn S' ((e1.trans e2).trans e))
  obtain ⟨k3, i, ts, ek, ei, hl, hN⟩ := ho
  have := r3.key ek
  subst this
  obtain ⟨vs, h0, hp, w, f⟩ := S3.dic ei
  refine ⟨p, _, rfl, .inl ⟨vs, k3, hp, rfl, ?_, rfl⟩, ?_⟩
  · rw [w.len, sizeLine_eq]; omega
  · exact k _ σ g3 F3 _ hN hn (f _ _ (w.put (r1.up (e2.trans e3)))) ((e1.trans e2).trans e3)
end
end M
namespace M
open PySem PySem.Spec PyProof.Rows L2
/-! ### list(xs): a copy; a def that calls itself -/
def rListO (K : PySem.W.Frag) : List V → Hp → VK → Prop := fun xs H Q => ∃ p ys, xs = [.ref p] ∧ (SqL K H p ys ∨ SqT K H p ys) ∧ ∀ l, H l = none → Q (.ref l) (upd H l (.lst ys))
theorem call_listO {X : Cx} : CallR X (.type "list") (rListO X.K) := call_list_of
section
variable {K : PySem.W.Frag} {P : D → Prop}
theorem c_listO {ds : List D} {d : D} (hd : d = .lst ds ∨ d = .sq ds ∨ d = .tup ds) (h : P (.lst ds)) : cbD K (rListO K) [d] P := by
  intro xs F H Q r s k
  cases r with
  | cons r1 r2 =>
    cases r2
    rcases hd with rfl | rfl | rfl
    · cases r1 with
      | lst e q =>
        refine ⟨_, _, rfl, .inl (SqL.of (s _ _ e)), fun l hl => k _ _ _ _ h (.new .refl hl) (.lst upd_same (q.up (same_new (s.free hl))))⟩
    · cases r1 with
      | sq e q =>
        refine ⟨_, _, rfl, .inl ((Le.of s).sqL e), fun l hl => k _ _ _ _ h (.new .refl hl) (.lst upd_same (q.up (same_new (s.free hl))))⟩
    · cases r1 with
      | tup e q =>
        refine ⟨_, _, rfl, .inr ((Le.of s).sqT e), fun l hl => k _ _ _ _ h (.new .refl hl) (.lst upd_same (q.up (same_new (s.free hl))))⟩
end
theorem ite_t {b : Bool} {A B : Prop} (h : b = true) (x : A) : if b = true then A else B := by rw [if_pos h]; exact x
theorem ite_f {b : Bool} {A B : Prop} (h : b = false) (x : B) : if b = true then A else B := by rw [h, if_neg Bool.false_ne_true]; exact x
theorem ite_b {b : Bool} {A B : Prop} (x : b = true → A) (y : b = false → B) : if b = true then A else B := by
  cases b with
  | true => exact ite_t rfl (x rfl)
  | false => exact ite_f rfl (y rfl)
/-- a <= e <= b -/
theorem wt_rng {K : PySem.W.Frag} {n : Nat} {ms : List MV} {X : XP} {a b : Int} {tx : WX → TE} {P : Bool → List MV → Prop} (h : wpD K n tx ms (fun d m1 => ∃ v : Int, d = .int v ∧ P (decide (a ≤ v) && decide (v ≤ b)) m1) X) :
    wpT K n (fun W => tTest (tChain (rI0 fun i j => .bl (decide (i ≤ j))) (rI0 fun i j => .bl (decide (i ≤ j))) (tC (.int a)) (tx W) (tC (.int b)))) ms P X := by
  refine wt_test (wd_chain (wd_int (h.mono (fun d m1 ⟨v, e, p⟩ => ?_) fun _ _ z => z)))
  subst e
  refine o_I0b ⟨_, rfl, ?_⟩
  cases h1 : decide (a ≤ v) with
  | true =>
    rw [if_pos rfl]
    refine wd_int (o_I0b ⟨_, rfl, ?_⟩)
    rw [h1, Bool.true_and] at p
    exact p
  | false =>
    rw [if_neg Bool.false_ne_true]
    rw [h1, Bool.false_and] at p
    exact ⟨_, rfl, p⟩
theorem ok_none {P : Program} {w : World} {K : PySem.W.Frag} {mg : PySem.Str → Option Value} {base : Heap} {x : PySem.Str} {st : Stmt} {ps : List PySem.Str} {k : Nat} {fs : FS} (Dd : Df K mg x st ps) (h0 : ∀ ms P X, ¬ fs ms P X) : Ok P w K mg base x ps k (SpM K fs) := by
  obtain ⟨f, fd, F, hm, hb⟩ := Dd.ex
  refine ⟨f, fd, ⟨fun vs H Q E h => ?_, fun A outer s H args us vs Q E hr he hb hv h => ?_⟩, hm, F.kp, hb⟩
  · obtain ⟨_, _, ms, P, X, _, h, _⟩ := h
    exact (h0 _ _ _ h).elim
  · obtain ⟨_, _, ms, P, X, _, h, _⟩ := h
    exact (h0 _ _ _ h).elim
end M
namespace M
open PySem PySem.Spec PyProof.Rows L2
/-! ### what is never reached -/
def tNever : TS := fun _ _ _ => False
theorem pss_never {X : Cx} {ss : List Stmt} : PSs X ss tNever := ⟨fun _ _ _ _ _ _ h => h.elim⟩
/-! ### {k: v, ..}, d[k] of data -/
section
variable {K : PySem.W.Frag} {n : Nat} {ms : List MV} {X : XP}
def wpPs (K : PySem.W.Frag) (n : Nat) (t : WX → List (TE × TE)) (ms : List MV) (P : List (Key × D) → List MV → Prop) (X : XP) : Prop :=
  ∀ (W : WX) (G F H : Hp) (σ gv : List (Option V)) (Q : List (V × V) → Hp → Prop), σ.length = n → St K G F H ms (σ ++ gv) →
    (∀ kds kvs ms' gv' F' H', P kds ms' → St K G F' H' ms' (σ ++ gv') → RpK K F' kvs kds → Same F F' → Q (kvs.map fun kv => (kV kv.1, kv.2)) H') →
    (∀ c ms' gv' F' H', X c ms' → St K G F' H' ms' (σ ++ gv') → Same F F' → W c none σ H') → tPairs (t W) σ H Q
theorem wps_nil {P : List (Key × D) → List MV → Prop} (h : P [] ms) : wpPs K n (fun _ => []) ms P X := by
  intro W G F H σ gv Q hn S k x
  exact k [] [] ms gv F H h S .nil (Same.refl _)
theorem wps_cons {ta tb : WX → TE} {tr : WX → List (TE × TE)} {P : List (Key × D) → List MV → Prop} (h : wpD K n ta ms (fun a m1 => ∃ k, keyD a = some k ∧ wpD K n tb m1 (fun d m2 => wpPs K n tr m2 (fun r m3 => P ((k, d) :: r) m3) X) X) X) : wpPs K n (fun W => (ta W, tb W) :: tr W) ms P X := by
  intro W G F H σ gv Q hn S k x
  refine h W G F H σ gv _ hn S (fun a v1 m1 g1 F1 H1 ho S1 r1 e1 => ?_) x
  obtain ⟨key, ek, ho⟩ := ho
  have := r1.key ek
  subst this
  refine ho W G F1 H1 σ g1 _ hn S1 (fun d v2 m2 g2 F2 H2 ho S2 r2 e2 => ?_) (fun c m g F' H' p S' e => x c m g F' H' p S' (e1.trans e))
  refine ho W G F2 H2 σ g2 _ hn S2 (fun kds kvs m3 g3 F3 H3 p S3 r3 e3 => ?_) (fun c m g F' H' p S' e => x c m g F' H' p S' ((e1.trans e2).trans e))
  exact k _ ((key, v2) :: kvs) m3 g3 F3 H3 p S3 (.cons (r2.up e3) r3) ((e1.trans e2).trans e3)
theorem RpK.keys {F : Hp} : ∀ {kvs : List (Key × V)} {kds : List (Key × D)}, RpK K F kvs kds → kvs.map (·.1) = kds.map (·.1)
  | _, _, .nil => rfl
  | _, _, .cons _ t => by simp [RpK.keys t]
theorem merge_new : ∀ (more acc : List (Key × V)), (∀ k ∈ more.map (·.1), k ∉ acc.map (·.1)) → (more.map (·.1)).Nodup → mergeK acc more = acc ++ more
  | [], acc, _, _ => by simp [mergeK]
  | (k, v) :: more, acc, h, nd => by
    obtain ⟨h1, h2⟩ := List.nodup_cons.mp nd
    have e : putK acc k v = acc ++ [(k, v)] := by
      unfold putK
      rw [if_neg]
      intro z
      rw [List.any_eq_true] at z
      obtain ⟨q, hq, e⟩ := z
      exact h k (by simp) (List.mem_map.mpr ⟨q, hq, of_decide_eq_true e⟩)
    show mergeK (putK acc k v) more = _
    rw [e, merge_new more (acc ++ [(k, v)]) (fun k' hk' z => ?_) h2]
    · simp
    · rw [List.map_append, List.mem_append] at z
      rcases z with z | z
      · exact h k' (List.mem_cons_of_mem _ hk') z
      · simp at z; subst z; exact h1 hk'
theorem ghost {G F H : Hp} {σ gv : List (Option V)} {p : Addr} {o : HO} (S : St K G F H ms (σ ++ gv)) (hp : H p = none) : St K (upd G p o) F (upd H p o) ms (σ ++ gv) := by
  obtain ⟨h0, w, sh, d1, d2⟩ := S.own
  refine ⟨fun b u e => ?_, S.f.trans (same_new hp), (S.fg.symm.upd (S.f.free hp)).symm, h0, w, sh.trans (same_new hp), d1, (d2.symm.upd (sh.free hp)).symm⟩
  by_cases hb : b = p
  · subst hb; rw [upd_same] at e ⊢; exact e
  · rw [upd_ne hb] at e ⊢; exact S.g _ _ e
theorem unghost {G F H : Hp} {σ : List (Option V)} {p : Addr} {o : HO} (hG : G p = none) (S : St K (upd G p o) F H ms σ) : St K G F H ms σ := by
  obtain ⟨h0, w, sh, d1, d2⟩ := S.own
  exact ⟨(same_new hG).trans S.g, S.f, (S.fg.symm.un_upd hG).symm, h0, w, sh, d1, (d2.symm.un_upd hG).symm⟩
/-- a thing that was laid ahead gets its content, and is data from here on -/
theorem ghost_fz {G F H : Hp} {σ : List (Option V)} {p : Addr} {o o' : HO} (hG : G p = none) (S : St K (upd G p o) F H ms σ) : F p = none ∧ St K G (upd F p o') (upd H p o') ms σ := by
  have hF : F p = none := S.fg.symm.none upd_same
  obtain ⟨h0, w, sh, d1, d2⟩ := S.own
  have hh : h0 p = none := d2.symm.none upd_same
  have up : ∀ {A : Hp}, A p = none → Same A H → Same A (upd H p o') := fun na s b u z => by
    rw [upd_ne (ne_of_none z na)]; exact s _ _ z
  refine ⟨hF, up hG ((same_new hG).trans S.g), fun b u e => ?_, Dj.upd (S.fg.symm.un_upd hG).symm hG, h0, w.up (same_new hF), up hh sh, (d1.symm.upd hh).symm, (d2.symm.un_upd hG).symm⟩
  by_cases hb : b = p
  · subst hb; rw [upd_same] at e ⊢; exact e
  · rw [upd_ne hb] at e ⊢; exact S.f _ _ e
theorem wd_disp {t : WX → List (TE × TE)} {P : D → List MV → Prop} (h : wpPs K n t ms (fun kds m1 => kds.length ≤ 15 ∧ (kds.map (·.1)).Nodup ∧ P (.dic kds) m1) X) : wpD K n (fun W => tDisp (t W)) ms P X := by
  intro W G F H σ gv Q hn S kk x p hp
  have hG : G p = none := S.g.free hp
  refine h W _ F _ σ gv _ hn (ghost S hp) (fun kds kvs m1 g1 F1 H1 ho S1 r1 e1 => ?_) (fun c m g F' H' q S' e => x c m g F' H' q (unghost hG S') e)
  obtain ⟨hl, nd, hP⟩ := ho
  refine ⟨S1.g _ _ upd_same, kvs, rfl, by rw [r1.length]; exact hl, ?_⟩
  have em : mergeK [] kvs = kvs := by
    have := merge_new kvs [] (by simp) (by rw [r1.keys]; exact nd)
    simpa using this
  rw [em]
  obtain ⟨hF, S2⟩ := ghost_fz (o' := .dK kvs) hG S1
  exact kk _ _ m1 g1 _ _ hP S2 (.dic (.inl upd_same) (r1.up (same_new hF))) (e1.trans (same_new hF))
/-- d[k], data -/
theorem wd_dget {td ty : WX → TE} {P : D → List MV → Prop} (h : wpD K n td ms (fun a m1 => ∃ kds, a = .dic kds ∧ wpD K n ty m1 (fun b m2 => ∃ k d, keyD b = some k ∧ valD kds k = some d ∧ P d m2) X) X) : wpD K n (fun W => tDGet (td W) (ty W)) ms P X := by
  intro W G F H σ gv Q hn S kk x
  refine h W G F H σ gv _ hn S (fun a v m1 g1 F1 H1 ho S1 r1 e1 => ?_) x
  obtain ⟨kds, rfl, ho⟩ := ho
  cases r1 with
  | dic hd r =>
    rename_i ad kvs
    refine ho W G F1 H1 σ g1 _ hn S1 (fun b v2 m2 g2 F2 H2 ho S2 r2 e2 => ?_) (fun c m g F' H' p S' e => x c m g F' H' p S' (e1.trans e))
    obtain ⟨k, d, ek, ev, hP⟩ := ho
    have := r2.key ek
    subst this
    rcases RpK.val (k := k) r with ⟨_, b⟩ | ⟨v3, d3, a, b, c⟩
    · rw [b] at ev; cases ev
    · rw [b] at ev; cases ev
      exact ⟨ad, v3, rfl, .inl ⟨kvs, k, (Le.of (e2.trans S2.f)).rdD hd, rfl, a.symm⟩, kk _ _ m2 g2 F2 H2 hP S2 (c.up e2) (e1.trans e2)⟩
end
end M
namespace M
open PySem PySem.Spec PyProof.Rows L2
/-! ### a part of an owned thing, taken out and put back -/
def T.isLf : T → Bool
  | .lf _ => true
  | _ => false
section
variable {K : PySem.W.Frag}
theorem OwT.root {F : Hp} {v : V} {h : Hp} {t : T} (w : OwT K F v h t) (n : t.isLf = false) : ∃ q, v = .ref q := by
  cases w with
  | nd => exact ⟨_, rfl⟩
  | lf => cases n
  | lst => exact ⟨_, rfl⟩
  | tup => exact ⟨_, rfl⟩
  | dic => exact ⟨_, rfl⟩
  | obj => exact ⟨_, rfl⟩
theorem St.out {G F H : Hp} {ms : List MV} {σ : List (Option V)} {i : Nat} {p : Addr} {t u : T} {π : List Stp} (S : St K G F H ms σ) (e : ms[i]? = some (.ot p t)) (a : t.at π = some u) (nl : u.isLf = false) :
    ∃ q, St K G F H (ms.set i (.ot p (t.put π (.lf (.raw (.ref q))))) ++ [.ot q u]) (σ ++ [some (.ref q)]) := by
  obtain ⟨h, x, sh, d1, d2⟩ := S.own
  obtain ⟨g1, g2, rfl, dj, w, f, _⟩ := x.focus e
  obtain ⟨v1, h1, r, rf, w1, dj1, rfl, f1⟩ := w.dig a
  obtain ⟨q, rfl⟩ := w1.root nl
  have hrest : OwT K F (.ref p) r (t.put π (.lf (.raw (.ref q)))) := by
    have := f1 F emp _ (Le.of (Same.refl _)) (.lf (.raw (.ref q))) Dj.emp_l
    rwa [emp_jn] at this
  have s2 := f F r _ (Le.of (Same.refl _)) hrest dj.of_jn_r
  have one : OwS K F [.ot q u] [some (.ref q)] h1 := by
    have := OwS.ot w1 OwS.nil Dj.emp_r
    rwa [jn_emp] at this
  have dd : Dj (jn r g2) h1 := Dj.jn_l dj1.symm dj.of_jn_l.symm
  have eh : jn (jn h1 r) g2 = jn (jn r g2) h1 := by rw [jn_assoc, jn_comm (Dj.jn_r dj1 dj.of_jn_l)]
  refine ⟨q, S.g, S.f, S.fg, _, s2.join one dd, ?_, ?_, ?_⟩
  · rw [← eh]; exact sh
  · rw [← eh]; exact d1
  · rw [← eh]; exact d2
theorem St.inn {G F H : Hp} {ms : List MV} {σ : List (Option V)} {i : Nat} {p q : Addr} {t u : T} {π : List Stp} (hl : ms.length = σ.length) (S : St K G F H (ms ++ [.ot q u]) (σ ++ [some (.ref q)])) (e : ms[i]? = some (.ot p t)) (a : t.at π = some (.lf (.raw (.ref q)))) :
    St K G F H (ms.set i (.ot p (t.put π u))) σ := by
  obtain ⟨h, x, sh, d1, d2⟩ := S.own
  obtain ⟨ha, hb, x1, x2, dab, rfl⟩ := OwS.split hl x
  obtain ⟨g1, g2, rfl, dj, w, f, _⟩ := x1.focus e
  obtain ⟨v1, h1, r, rf, w1, dj1, rfl, f1⟩ := w.dig a
  cases x2 with
  | ot wq xn dq =>
    cases xn
    rw [jn_emp] at *
    rename_i hq
    cases w1 with
    | lf rr =>
      cases rr
      rw [emp_jn] at *
      have dr : Dj hq r := dab.of_jn_l.symm
      have dg : Dj hq g2 := dab.of_jn_r.symm
      have n := f1 F hq u (Le.of (Same.refl _)) wq dr
      have m := f F _ _ (Le.of (Same.refl _)) n (Dj.jn_l dg dj)
      have eh : jn (jn hq r) g2 = jn (jn r g2) hq := by rw [jn_assoc, jn_comm (Dj.jn_r dr dg)]
      refine ⟨S.g, S.f, S.fg, _, m, ?_, ?_, ?_⟩
      · rw [eh]; exact sh
      · rw [eh]; exact d1
      · rw [eh]; exact d2
end
end M
namespace M
open PySem PySem.Spec PyProof.Rows L2
/-! ### the k-th part of an owned thing -/
def setV {α β : Type} : List (α × β) → Nat → β → List (α × β)
  | [], _, _ => []
  | (f, _) :: r, 0, u => (f, u) :: r
  | x :: r, k + 1, u => x :: setV r k u
def T.kid : T → Nat → Option T
  | .obj _ fs, k => fs[k]?.map (·.2)
  | .dic ks, k => ks[k]?.map (·.2)
  | .lst ts, k => ts[k]?
  | .tup ts, k => ts[k]?
  | .lf _, _ => none
  | .nd _ _, _ => none
def T.setKid : T → Nat → T → T
  | .obj C fs, k, u => .obj C (setV fs k u)
  | .dic ks, k, u => .dic (setV ks k u)
  | .lst ts, k, u => .lst (ts.set k u)
  | .tup ts, k, u => .tup (ts.set k u)
  | .lf d, _, _ => .lf d
  | .nd p d, _, _ => .nd p d
section
variable {K : PySem.W.Frag}
theorem OwK.kid {F : Hp} : ∀ {vs : List (Key × V)} {h : Hp} {ts : List (Key × T)} {j : Nat} {t : T}, OwK K F vs h ts → (ts[j]?.map (·.2)) = some t → ∃ v h1 r, OwT K F v h1 t ∧ Dj h1 r ∧ h = jn h1 r ∧
    ∀ F' h1' t', Le F F' → OwT K F' v h1' t' → Dj h1' r → OwK K F' vs (jn h1' r) (setV ts j t')
  | _, _, _, j, _, .nil, e => by simp at e
  | _, _, _, 0, _, .cons (h1 := h1) (h2 := h2) a b d, e => by
    simp at e; subst e
    exact ⟨_, h1, h2, a, d, rfl, fun F' h1' t' l o q => .cons o (b.le l) q⟩
  | _, _, _, j + 1, _, .cons (k := g) (h1 := h1) (h2 := h2) a b d, e => by
    obtain ⟨v, g1, r, w, dj, rfl, f⟩ := OwK.kid (j := j) b (by simpa using e)
    refine ⟨v, g1, jn h1 r, w, Dj.jn_r d.symm.of_jn_l dj, ?_, fun F' h1' t' l o q => ?_⟩
    · rw [← jn_assoc, jn_comm (d.symm.of_jn_l).symm, jn_assoc]
    · have dq : Dj h1 (jn h1' r) := Dj.jn_r (q.symm.of_jn_l) (d.symm.of_jn_r).symm
      have := OwK.cons (k := g) (a.le l) (f F' h1' t' l o q.symm.of_jn_r.symm) dq
      rw [← jn_assoc, jn_comm q.symm.of_jn_l, jn_assoc] at this
      exact this
theorem OwF.kid {F : Hp} : ∀ {vs : List (PySem.Str × V)} {h : Hp} {ts : List (PySem.Str × T)} {j : Nat} {t : T}, OwF K F vs h ts → (ts[j]?.map (·.2)) = some t → ∃ v h1 r, OwT K F v h1 t ∧ Dj h1 r ∧ h = jn h1 r ∧
    ∀ F' h1' t', Le F F' → OwT K F' v h1' t' → Dj h1' r → OwF K F' vs (jn h1' r) (setV ts j t')
  | _, _, _, j, _, .nil, e => by simp at e
  | _, _, _, 0, _, .cons (h1 := h1) (h2 := h2) a b d, e => by
    simp at e; subst e
    exact ⟨_, h1, h2, a, d, rfl, fun F' h1' t' l o q => .cons o (b.le l) q⟩
  | _, _, _, j + 1, _, .cons (k := g) (h1 := h1) (h2 := h2) a b d, e => by
    obtain ⟨v, g1, r, w, dj, rfl, f⟩ := OwF.kid (j := j) b (by simpa using e)
    refine ⟨v, g1, jn h1 r, w, Dj.jn_r d.symm.of_jn_l dj, ?_, fun F' h1' t' l o q => ?_⟩
    · rw [← jn_assoc, jn_comm (d.symm.of_jn_l).symm, jn_assoc]
    · have dq : Dj h1 (jn h1' r) := Dj.jn_r (q.symm.of_jn_l) (d.symm.of_jn_r).symm
      have := OwF.cons (k := g) (a.le l) (f F' h1' t' l o q.symm.of_jn_r.symm) dq
      rw [← jn_assoc, jn_comm q.symm.of_jn_l, jn_assoc] at this
      exact this
theorem OwT.kid {F : Hp} {v : V} {h : Hp} {t u : T} {k : Nat} (w : OwT K F v h t) (e : t.kid k = some u) : ∃ v1 h1 r, OwT K F v1 h1 u ∧ Dj h1 r ∧ h = jn h1 r ∧
    ∀ F' h1' u', Le F F' → OwT K F' v1 h1' u' → Dj h1' r → OwT K F' v (jn h1' r) (t.setKid k u') := by
  cases w with
  | nd r => cases e
  | lf r => cases e
  | lst w np =>
    rename_i p vs h0 ts
    obtain ⟨v1, h1, r, ev, w1, dj, rfl, f⟩ := w.dig e
    have n1 := (jn_none.mp np).1
    refine ⟨v1, h1, upd r p (.lst vs), w1, (dj.symm.upd n1).symm, jn_upd_r n1, fun F' h1' u' l o q => ?_⟩
    have n2 : h1' p = none := q.symm.of_upd
    have dq : Dj h1' r := (q.symm.un_upd (jn_none.mp np).2).symm
    rw [← jn_upd_r n2]
    exact .lst (f F' h1' u' l o dq) (jn_none.mpr ⟨n2, (jn_none.mp np).2⟩)
  | tup w np =>
    rename_i p vs h0 ts
    obtain ⟨v1, h1, r, ev, w1, dj, rfl, f⟩ := w.dig e
    have n1 := (jn_none.mp np).1
    refine ⟨v1, h1, upd r p (.tup vs), w1, (dj.symm.upd n1).symm, jn_upd_r n1, fun F' h1' u' l o q => ?_⟩
    have n2 : h1' p = none := q.symm.of_upd
    have dq : Dj h1' r := (q.symm.un_upd (jn_none.mp np).2).symm
    rw [← jn_upd_r n2]
    exact .tup (f F' h1' u' l o dq) (jn_none.mpr ⟨n2, (jn_none.mp np).2⟩)
  | dic w np =>
    rename_i p vs h0 ts
    obtain ⟨v1, h1, r, w1, dj, rfl, f⟩ := w.kid e
    have n1 := (jn_none.mp np).1
    refine ⟨v1, h1, upd r p (.dK vs), w1, (dj.symm.upd n1).symm, jn_upd_r n1, fun F' h1' u' l o q => ?_⟩
    have n2 : h1' p = none := q.symm.of_upd
    have dq : Dj h1' r := (q.symm.un_upd (jn_none.mp np).2).symm
    rw [← jn_upd_r n2]
    exact .dic (f F' h1' u' l o dq) (jn_none.mpr ⟨n2, (jn_none.mp np).2⟩)
  | obj w np nd ne =>
    rename_i p dx C vs h0 ts
    obtain ⟨v1, h1, r, w1, dj, rfl, g⟩ := w.kid e
    obtain ⟨n1, m1⟩ := jn_none.mp np
    obtain ⟨n2, m2⟩ := jn_none.mp nd
    have d2 : Dj h1 (upd r dx (.own p)) := (dj.symm.upd n2).symm
    refine ⟨v1, h1, upd (upd r dx (.own p)) p (.ins C dx vs), w1, (d2.symm.upd n1).symm, ?_, fun F' h1' u' l o q => ?_⟩
    · rw [jn_upd_r n2, jn_upd_r n1]
    · have k1 : h1' p = none := q.symm.of_upd
      have q2 : Dj h1' (upd r dx (.own p)) := (q.symm.un_upd (by rw [upd_ne ne.symm]; exact m1)).symm
      have k2 : h1' dx = none := q2.symm.of_upd
      have q3 : Dj h1' r := (q2.symm.un_upd m2).symm
      rw [← jn_upd_r k1, ← jn_upd_r k2]
      exact .obj (g F' h1' u' l o q3) (jn_none.mpr ⟨k1, m1⟩) (jn_none.mpr ⟨k2, m2⟩) ne
theorem St.rot {G F H : Hp} {m : List MV} {s : List (Option V)} {q : MV} {o : Option V} (S : St K G F H (q :: m) (o :: s)) : St K G F H (m ++ [q]) (s ++ [o]) := by
  refine S.sub fun h y => ?_
  have y1 : OwS K F ([q] ++ m) ([o] ++ s) h := y
  obtain ⟨a, b, p1, p2, d, rfl⟩ := OwS.split (a := [q]) (s := [o]) rfl y1
  refine ⟨_, p2.join p1 d.symm, ?_⟩
  rw [jn_comm d.symm]
  exact Same.refl _
theorem St.unrot {G F H : Hp} {m : List MV} {s : List (Option V)} {q : MV} {o : Option V} (hl : m.length = s.length) (S : St K G F H (m ++ [q]) (s ++ [o])) : St K G F H (q :: m) (o :: s) := by
  refine S.sub fun h y => ?_
  obtain ⟨a, b, p1, p2, d, rfl⟩ := OwS.split hl y
  refine ⟨_, p2.join p1 d.symm, ?_⟩
  rw [jn_comm d.symm]
  exact Same.refl _
theorem St.outK {G F H : Hp} {ms : List MV} {σ : List (Option V)} {i k : Nat} {p : Addr} {t u : T} (S : St K G F H ms σ) (e : ms[i]? = some (.ot p t)) (a : t.kid k = some u) (nl : u.isLf = false) :
    ∃ q, St K G F H (ms.set i (.ot p (t.setKid k (.lf (.raw (.ref q))))) ++ [.ot q u]) (σ ++ [some (.ref q)]) := by
  obtain ⟨h, x, sh, d1, d2⟩ := S.own
  obtain ⟨g1, g2, rfl, dj, w, f, _⟩ := x.focus e
  obtain ⟨v1, h1, r, w1, dj1, rfl, f1⟩ := w.kid a
  obtain ⟨q, rfl⟩ := w1.root nl
  have hrest : OwT K F (.ref p) r (t.setKid k (.lf (.raw (.ref q)))) := by
    have := f1 F emp _ (Le.of (Same.refl _)) (.lf (.raw (.ref q))) Dj.emp_l
    rwa [emp_jn] at this
  have s2 := f F r _ (Le.of (Same.refl _)) hrest dj.of_jn_r
  have one : OwS K F [.ot q u] [some (.ref q)] h1 := by
    have := OwS.ot w1 OwS.nil Dj.emp_r
    rwa [jn_emp] at this
  have dd : Dj (jn r g2) h1 := Dj.jn_l dj1.symm dj.of_jn_l.symm
  have eh : jn (jn h1 r) g2 = jn (jn r g2) h1 := by rw [jn_assoc, jn_comm (Dj.jn_r dj1 dj.of_jn_l)]
  refine ⟨q, S.g, S.f, S.fg, _, s2.join one dd, ?_, ?_, ?_⟩
  · rw [← eh]; exact sh
  · rw [← eh]; exact d1
  · rw [← eh]; exact d2
theorem St.innK {G F H : Hp} {ms : List MV} {σ : List (Option V)} {i k : Nat} {p q : Addr} {t u : T} (hl : ms.length = σ.length) (S : St K G F H (ms ++ [.ot q u]) (σ ++ [some (.ref q)])) (e : ms[i]? = some (.ot p t)) (a : t.kid k = some (.lf (.raw (.ref q)))) :
    St K G F H (ms.set i (.ot p (t.setKid k u))) σ := by
  obtain ⟨h, x, sh, d1, d2⟩ := S.own
  obtain ⟨ha, hb, x1, x2, dab, rfl⟩ := OwS.split hl x
  obtain ⟨g1, g2, rfl, dj, w, f, _⟩ := x1.focus e
  obtain ⟨v1, h1, r, w1, dj1, rfl, f1⟩ := w.kid a
  cases x2 with
  | ot wq xn dq =>
    cases xn
    rw [jn_emp] at *
    rename_i hq
    cases w1 with
    | lf rr =>
      cases rr
      rw [emp_jn] at *
      have dr : Dj hq r := dab.of_jn_l.symm
      have dg : Dj hq g2 := dab.of_jn_r.symm
      have n := f1 F hq u (Le.of (Same.refl _)) wq dr
      have m := f F _ _ (Le.of (Same.refl _)) n (Dj.jn_l dg dj)
      have eh : jn (jn hq r) g2 = jn (jn r g2) hq := by rw [jn_assoc, jn_comm (Dj.jn_r dr dg)]
      refine ⟨S.g, S.f, S.fg, _, m, ?_, ?_, ?_⟩
      · rw [eh]; exact sh
      · rw [eh]; exact d1
      · rw [eh]; exact d2
/-- the first is a part of another -/
theorem St.inn1 {G F H : Hp} {ms : List MV} {σ : List (Option V)} {i k : Nat} {p q : Addr} {t u : T} (S : St K G F H (.ot q u :: ms) (some (.ref q) :: σ)) (e : ms[i]? = some (.ot p t)) (a : t.kid k = some (.lf (.raw (.ref q)))) :
    St K G F H (ms.set i (.ot p (t.setKid k u))) σ := St.innK (by have := S.len; simpa using this) S.rot e a
end
/-! ### rules: a part is taken out, and put back -/
def Inn (i k j : Nat) (q : Addr) (Z : List MV → Prop) (m : List MV) : Prop := ∃ p t u, m[i]? = some (.ot p t) ∧ m[j]? = some (.ot q u) ∧ m.length = j + 1 ∧ i < j ∧ t.kid k = some (.lf (.raw (.ref q))) ∧ Z ((m.take j).set i (.ot p (t.setKid k u)))
section
variable {K : PySem.W.Frag} {n : Nat} {ms : List MV} {X : XP} {N : List MV → Prop} {R : MV → List MV → Prop}
theorem snoc_of {α : Type} : ∀ {l : List α} {j : Nat} {x : α}, l.length = j + 1 → l[j]? = some x → l = l.take j ++ [x]
  | l, j, x, hl, e => by
    have h : l.take (j + 1) = l.take j ++ l[j]?.toList := List.take_add_one
    rw [List.take_of_length_le (by omega), e] at h
    exact h
theorem inn_back {G F H : Hp} {σ gv : List (Option V)} {j i k : Nat} {q : Addr} {Z : List MV → Prop} {m : List MV} (hj : σ.length ≤ j) (S : St K G F H m (σ ++ gv)) (h : Inn i k j q Z m) : ∃ m' gv', Z m' ∧ St K G F H m' (σ ++ gv') := by
  obtain ⟨p, t, u, e1, e2, hl, hij, ek, hZ⟩ := h
  have hlen := S.len
  have e3 := S.getO e2
  have hs : σ ++ gv = σ ++ gv.take (j - σ.length) ++ [some (.ref q)] := by
    have a := snoc_of (l := σ ++ gv) (j := j) (by rw [← hlen]; exact hl) e3
    rw [List.take_append, List.take_of_length_le hj] at a
    exact a
  rw [snoc_of hl e2, hs] at S
  refine ⟨_, _, hZ, S.innK ?_ ?_ ek⟩
  · rw [List.length_take, List.length_append, List.length_take]
    rw [List.length_append] at hlen
    omega
  · rw [List.getElem?_take]; simp [hij, e1]
theorem ws_out (i k : Nat) {p : Addr} {t u : T} {ts : WX → TS} (e : ms[i]? = some (.ot p t)) (a : t.kid k = some u) (nl : u.isLf = false)
    (h : ∀ q, wpS K n ts (ms.set i (.ot p (t.setKid k (.lf (.raw (.ref q))))) ++ [.ot q u]) (Inn i k ms.length q N) (fun m => Inn i k ms.length q (R m)) (fun c => Inn i k ms.length q (X c))) : wpS K n ts ms N R X := by
  intro W G F H σ gv E hn S kk r x
  obtain ⟨q, S1⟩ := S.outK e a nl
  have hj : σ.length ≤ ms.length := by rw [S.len]; simp
  have S1' : St K G F H (ms.set i (.ot p (t.setKid k (.lf (.raw (.ref q))))) ++ [.ot q u]) (σ ++ (gv ++ [some (.ref q)])) := by rw [← List.append_assoc]; exact S1
  refine h q W G F H σ _ E hn S1' (fun m σ' g F' H' p l S' e => ?_) (fun m v ms' σ' g F' H' p l S' e => ?_) (fun c m σ' g F' H' p l S' e => ?_)
  · obtain ⟨m', g', z, S2⟩ := inn_back (by omega) S' p
    exact kk _ _ _ _ _ z l S2 e
  · obtain ⟨p0, t0, u0, e1, e2, hl, hij, ek, hZ⟩ := p
    have p2 : Inn (i + 1) k (ms.length + 1) q (fun z => ∃ z', z = m :: z' ∧ R m z') (m :: ms') := ⟨p0, t0, u0, by simpa using e1, by simpa using e2, by simpa using hl, by omega, ek, _, rfl, hZ⟩
    obtain ⟨m', g', ⟨z', rfl, hz⟩, S2⟩ := inn_back (σ := some v :: σ') (by simp; omega) S' p2
    exact r _ _ _ _ _ _ _ hz l S2 e
  · obtain ⟨m', g', z, S2⟩ := inn_back (by omega) S' p
    exact x _ _ _ _ _ _ z l S2 e
theorem wd_out (i k : Nat) {p : Addr} {t u : T} {te : WX → TE} {P : D → List MV → Prop} (e : ms[i]? = some (.ot p t)) (a : t.kid k = some u) (nl : u.isLf = false)
    (h : ∀ q, wpD K n te (ms.set i (.ot p (t.setKid k (.lf (.raw (.ref q))))) ++ [.ot q u]) (fun d => Inn i k ms.length q (P d)) (fun c => Inn i k ms.length q (X c))) : wpD K n te ms P X := by
  intro W G F H σ gv Q hn S kk x
  obtain ⟨q, S1⟩ := S.outK e a nl
  have hj : σ.length ≤ ms.length := by rw [S.len]; simp
  have S1' : St K G F H (ms.set i (.ot p (t.setKid k (.lf (.raw (.ref q))))) ++ [.ot q u]) (σ ++ (gv ++ [some (.ref q)])) := by rw [← List.append_assoc]; exact S1
  refine h q W G F H σ _ Q hn S1' (fun d v m g F' H' p S' r e => ?_) (fun c m g F' H' p S' e => ?_)
  · obtain ⟨m', g', z, S2⟩ := inn_back (by omega) S' p
    exact kk _ _ _ _ _ _ z S2 r e
  · obtain ⟨m', g', z, S2⟩ := inn_back (by omega) S' p
    exact x _ _ _ _ _ z S2 e
theorem wt_out (i k : Nat) {p : Addr} {t u : T} {te : WX → TT} {P : Bool → List MV → Prop} (e : ms[i]? = some (.ot p t)) (a : t.kid k = some u) (nl : u.isLf = false)
    (h : ∀ q, wpT K n te (ms.set i (.ot p (t.setKid k (.lf (.raw (.ref q))))) ++ [.ot q u]) (fun d => Inn i k ms.length q (P d)) (fun c => Inn i k ms.length q (X c))) : wpT K n te ms P X := by
  intro W G F H σ gv Q hn S kk x
  obtain ⟨q, S1⟩ := S.outK e a nl
  have hj : σ.length ≤ ms.length := by rw [S.len]; simp
  have S1' : St K G F H (ms.set i (.ot p (t.setKid k (.lf (.raw (.ref q))))) ++ [.ot q u]) (σ ++ (gv ++ [some (.ref q)])) := by rw [← List.append_assoc]; exact S1
  refine h q W G F H σ _ Q hn S1' (fun d m g F' H' p S' e => ?_) (fun c m g F' H' p S' e => ?_)
  · obtain ⟨m', g', z, S2⟩ := inn_back (by omega) S' p
    exact kk _ _ _ _ _ z S2 e
  · obtain ⟨m', g', z, S2⟩ := inn_back (by omega) S' p
    exact x _ _ _ _ _ z S2 e
end
end M
namespace M
open PySem PySem.Spec PyProof.Rows L2
/-! ### names of fields -/
def fixB (f : PySem.Str) : List PySem.Str → Nat → Bool
  | [], _ => false
  | g :: _, 0 => decide (g = f)
  | g :: r, k + 1 => !decide (g = f) && fixB f r k
def nofB (f : PySem.Str) (l : List PySem.Str) : Bool := l.all fun g => !decide (g = f)
theorem fix_mem {f : PySem.Str} : ∀ {l : List PySem.Str} {k : Nat}, fixB f l k = true → f ∈ l
  | [], _, h => by cases h
  | g :: _, 0, h => by simp [fixB] at h; simp [h]
  | g :: r, k + 1, h => by simp [fixB] at h; exact List.mem_cons_of_mem _ (fix_mem h.2)
theorem look_fix {β : Type} {f : PySem.Str} : ∀ {l : List (PySem.Str × β)} {k : Nat}, fixB f (l.map (·.1)) k = true → ∃ v, l[k]? = some (f, v) ∧ l.lookup f = some v
  | [], _, h => by cases h
  | (g, v) :: _, 0, h => by
    simp [fixB] at h; subst h
    exact ⟨v, rfl, by simp [List.lookup]⟩
  | (g, v) :: r, k + 1, h => by
    simp only [List.map_cons, fixB, Bool.and_eq_true, Bool.not_eq_true', decide_eq_false_iff_not] at h
    obtain ⟨v', e1, e2⟩ := look_fix (l := r) h.2
    refine ⟨v', by simpa using e1, ?_⟩
    have hb : (f == g) = false := beq_eq_false_iff_ne.mpr (Ne.symm h.1)
    rw [List.lookup, hb]; exact e2
theorem put_fix {β : Type} {f : PySem.Str} {y : β} : ∀ {l : List (PySem.Str × β)} {k : Nat}, fixB f (l.map (·.1)) k = true → putF f y l = setV l k y
  | [], _, h => by cases h
  | (g, v) :: _, 0, h => by
    simp [fixB] at h; subst h
    simp [putF, setV]
  | (g, v) :: r, k + 1, h => by
    simp only [List.map_cons, fixB, Bool.and_eq_true, Bool.not_eq_true', decide_eq_false_iff_not] at h
    simp [putF, setV, h.1, put_fix (l := r) h.2]
theorem put_new {β : Type} {f : PySem.Str} {y : β} : ∀ {l : List (PySem.Str × β)}, nofB f (l.map (·.1)) = true → putF f y l = l ++ [(f, y)]
  | [], h => rfl
  | (g, v) :: r, h => by
    simp only [List.map_cons, nofB, List.all_cons, Bool.and_eq_true, Bool.not_eq_true', decide_eq_false_iff_not] at h
    simp [putF, h.1, put_new (l := r) (show nofB f (r.map (·.1)) = true from h.2)]
theorem look_new {β : Type} {f : PySem.Str} : ∀ {l : List (PySem.Str × β)}, nofB f (l.map (·.1)) = true → l.lookup f = none
  | [], h => rfl
  | (g, v) :: r, h => by
    simp only [List.map_cons, nofB, List.all_cons, Bool.and_eq_true, Bool.not_eq_true', decide_eq_false_iff_not] at h
    have hb : (f == g) = false := beq_eq_false_iff_ne.mpr (Ne.symm h.1)
    rw [List.lookup, hb]; exact look_new (l := r) h.2
theorem putF_L2 {f : PySem.Str} {y : V} : ∀ {l : List (PySem.Str × V)}, L2.putF f y l = putF f y l
  | [] => rfl
  | (g, v) :: r => by simp only [L2.putF, putF, putF_L2 (l := r)]
/-- a class of the text: plain, without these names -/
structure ClsF (K : PySem.W.Frag) (C : Addr) (names : List PySem.Str) : Prop where
  cls : Cls K C
  na : ∀ f ∈ names, NoAttr K C f
section
variable {K : PySem.W.Frag}
theorem OwF.names {F : Hp} : ∀ {vs : List (PySem.Str × V)} {h : Hp} {ts : List (PySem.Str × T)}, OwF K F vs h ts → vs.map (·.1) = ts.map (·.1)
  | _, _, _, .nil => rfl
  | _, _, _, .cons _ t _ => by simp [OwF.names t]
theorem OwF.leaf {F : Hp} {f : PySem.Str} {d : D} : ∀ {vs : List (PySem.Str × V)} {h : Hp} {ts : List (PySem.Str × T)} {k : Nat}, OwF K F vs h ts → ts[k]? = some (f, .lf d) → ∃ v, vs[k]? = some (f, v) ∧ Rp K F v d
  | _, _, _, _, .nil, e => by simp at e
  | _, _, _, 0, .cons w t _, e => by
    simp at e
    obtain ⟨rfl, rfl⟩ := e
    cases w with
    | lf r => exact ⟨_, rfl, r⟩
  | _, _, _, k + 1, .cons w t _, e => by
    obtain ⟨v, e1, r⟩ := OwF.leaf (k := k) t (by simpa using e)
    exact ⟨v, by simpa using e1, r⟩
theorem OwF.putLf {F : Hp} {f : PySem.Str} {v : V} {d : D} (r : Rp K F v d) : ∀ {vs : List (PySem.Str × V)} {h : Hp} {ts : List (PySem.Str × T)}, OwF K F vs h ts → ∃ h', OwF K F (putF f v vs) h' (putF f (.lf d) ts) ∧ Same h' h
  | _, _, _, .nil => by
    have := OwF.cons (k := f) (OwT.lf r) OwF.nil Dj.emp_l
    rw [emp_jn] at this
    exact ⟨_, this, Same.refl _⟩
  | _, _, _, .cons (k := g) (h1 := h1) (h2 := h2) a b dj => by
    by_cases hg : g = f
    · refine ⟨jn emp h2, ?_, ?_⟩
      · have := OwF.cons (k := g) (OwT.lf r) b Dj.emp_l
        simpa [putF, hg] using this
      · rw [emp_jn]; exact Same.jn_r dj
    · obtain ⟨h', w, s⟩ := OwF.putLf (f := f) r b
      refine ⟨jn h1 h', ?_, Same.jn Same.jn_l (s.trans (Same.jn_r dj))⟩
      have := OwF.cons (k := g) a w (dj.symm.sub s).symm
      simpa [putF, hg] using this
theorem St.obj {G F H : Hp} {ms : List MV} {σ : List (Option V)} {i : Nat} {p C : Addr} {ts : List (PySem.Str × T)} (S : St K G F H ms σ) (e : ms[i]? = some (.ot p (.obj C ts))) : ∃ dx vs h, H p = some (.ins C dx vs) ∧ OwF K F vs h ts ∧
    ∀ vs' ts', (∃ h', OwF K F vs' h' ts' ∧ Same h' h) → St K G F (upd H p (.ins C dx vs')) (ms.set i (.ot p (.obj C ts'))) σ := by
  obtain ⟨v1, h1, rf, w, s1, f⟩ := S.dig (π := []) e rfl
  cases rf
  cases w with
  | obj w0 np nd ne =>
    rename_i dx vs h0
    refine ⟨dx, vs, h0, s1 _ _ upd_same, w0, fun vs' ts' ⟨h', w', s'⟩ => ?_⟩
    refine f p _ (.ins C dx vs') (upd (upd h' dx (.own p)) p (.ins C dx vs')) (.obj C ts') upd_same (fun b u z => ?_) upd_same (.obj w' (s'.free np) (s'.free nd) ne)
    by_cases hb : b = p
    · subst hb; rw [upd_same] at z ⊢; exact z
    · rw [upd_ne hb] at z ⊢
      rw [upd_ne hb]
      by_cases hx : b = dx
      · subst hx; rw [upd_same] at z ⊢; exact z
      · rw [upd_ne hx] at z ⊢; exact s' _ _ z
end
section
variable {K : PySem.W.Frag} {n : Nat} {ms : List MV} {X : XP} {N : List MV → Prop} {R : MV → List MV → Prop}
/-- o.f, o owned -/
theorem wd_fldO {te : WX → TE} {f : PySem.Str} {P : D → List MV → Prop} (h : wpD K n te ms (fun x m1 => ∃ (p : Addr) (i : Nat) (C : Addr) (names : List PySem.Str) (ts : List (PySem.Str × T)) (k : Nat) (d : D), x = .raw (.ref p) ∧ m1[i]? = some (.ot p (.obj C ts)) ∧ ClsF K C names ∧ ts.map (·.1) = names ∧ fixB f names k = true ∧ ts[k]? = some (f, .lf d) ∧ P d m1) X) :
    wpD K n (fun W => tFld K (te W) f) ms P X := by
  intro W G F H σ gv Q hn S kk x
  refine h W G F H σ gv _ hn S (fun y v m1 g1 F1 H1 ho S1 r1 e1 => ?_) x
  obtain ⟨p, i, C, names, ts, k, d, rfl, ei, c, rfl, hk, hd, hP⟩ := ho
  cases r1
  obtain ⟨dx, vs, h0, hp, w, _⟩ := S1.obj ei
  obtain ⟨v, ev, rv⟩ := w.leaf hd
  obtain ⟨v', ev', lv⟩ := look_fix (l := vs) (k := k) (by rw [w.names]; exact hk)
  rw [ev] at ev'
  cases ev'
  exact ⟨p, C, dx, vs, v, rfl, hp, c.cls, c.na _ (fix_mem hk), lv, kk d v m1 g1 F1 H1 hP S1 rv e1⟩
theorem wd_self {i k : Nat} {p C : Addr} {ts : List (PySem.Str × T)} {names : List PySem.Str} {f : PySem.Str} {d : D} {P : D → List MV → Prop} (c : ClsF K C names) (hk : fixB f names k = true) (hi : i < n) (e : ms[i]? = some (.ot p (.obj C ts))) (hn : ts.map (·.1) = names) (hd : ts[k]? = some (f, .lf d)) (h : P d ms) :
    wpD K n (fun W => tFld K (tVar i) f) ms P X :=
  wd_fldO (wd_varO e hi ⟨p, i, C, names, ts, k, d, rfl, e, c, hn, hk, hd, h⟩)
theorem RpF.leaf {F : Hp} {f : PySem.Str} {d : D} : ∀ {vs : List (PySem.Str × V)} {ts : List (PySem.Str × D)} {k : Nat}, RpF K F vs ts → ts[k]? = some (f, d) → ∃ v, vs[k]? = some (f, v) ∧ Rp K F v d
  | _, _, _, .nil, e => by simp at e
  | _, _, 0, .cons w t, e => by
    simp at e
    obtain ⟨rfl, rfl⟩ := e
    exact ⟨_, rfl, w⟩
  | _, _, k + 1, .cons w t, e => by
    obtain ⟨v, e1, r⟩ := RpF.leaf (k := k) t (by simpa using e)
    exact ⟨v, by simpa using e1, r⟩
theorem RpF.names {F : Hp} : ∀ {vs : List (PySem.Str × V)} {ts : List (PySem.Str × D)}, RpF K F vs ts → vs.map (·.1) = ts.map (·.1)
  | _, _, .nil => rfl
  | _, _, .cons _ t => by simp [RpF.names t]
/-- o.f, o data -/
theorem wd_fldD {te : WX → TE} {C : Addr} {names : List PySem.Str} {f : PySem.Str} {k : Nat} {P : D → List MV → Prop} (c : ClsF K C names) (hk : fixB f names k = true) (h : wpD K n te ms (fun x m1 => ∃ ts d, x = .obj C ts ∧ ts.map (·.1) = names ∧ ts[k]? = some (f, d) ∧ P d m1) X) :
    wpD K n (fun W => tFld K (te W) f) ms P X := by
  intro W G F H σ gv Q hn S kk x
  refine h W G F H σ gv _ hn S (fun y v m1 g1 F1 H1 ho S1 r1 e1 => ?_) x
  obtain ⟨ts, d, rfl, rfl, hd, hP⟩ := ho
  cases r1 with
  | obj ha hown w =>
    rename_i aa dxx fvs
    obtain ⟨v, ev, rv⟩ := w.leaf hd
    obtain ⟨v', ev', lv⟩ := look_fix (l := fvs) (k := k) (by rw [w.names]; exact hk)
    rw [ev] at ev'
    cases ev'
    exact ⟨_, C, _, _, v, rfl, S1.f _ _ ha, c.cls, c.na _ (fix_mem hk), lv, kk d v m1 g1 F1 H1 hP S1 rv e1⟩
/-- self.f = value, data -/
theorem ws_fldP {i : Nat} {C : Addr} {names : List PySem.Str} {f : PySem.Str} {tv : WX → TE} (c : ClsF K C names) (hf : f ∈ names) (hi : i < n) (h : wpD K n tv ms (fun d m1 => ∃ p ts, m1[i]? = some (.ot p (.obj C ts)) ∧ ts.length < 1000 ∧ N (m1.set i (.ot p (.obj C (putF f (.lf d) ts))))) X) :
    wpS K n (fun W => sFld K (tVar i) (tv W) f) ms N R X := by
  intro W G F H σ gv E hn S k r x
  refine h W G F H σ gv _ hn S (fun d v m1 g1 F1 H1 ho S1 r1 e1 => ?_) (fun c m g F' H' p S' e => x c m σ g F' H' p hn S' e)
  obtain ⟨p, ts, ei, hl, hN⟩ := ho
  have hv := get_app (by omega) (S1.getO ei)
  obtain ⟨dx, vs, h0, hp, w, f0⟩ := S1.obj ei
  refine ⟨_, hv, p, C, dx, vs, rfl, hp, c.cls, c.na _ hf, ?_, ?_⟩
  · have := w.names
    have := congrArg List.length this
    simp at this; omega
  · rw [putF_L2]
    exact k _ σ g1 F1 _ hN hn (f0 _ _ (w.putLf r1)) e1
theorem ws_setS {i k : Nat} {C : Addr} {names : List PySem.Str} {f : PySem.Str} {tv : WX → TE} (c : ClsF K C names) (hk : fixB f names k = true) (hi : i < n) (h : wpD K n tv ms (fun d m1 => ∃ p ts, m1[i]? = some (.ot p (.obj C ts)) ∧ ts.map (·.1) = names ∧ ts.length < 1000 ∧ N (m1.set i (.ot p (.obj C (setV ts k (.lf d)))))) X) :
    wpS K n (fun W => sFld K (tVar i) (tv W) f) ms N R X := by
  refine ws_fldP c (fix_mem hk) hi (h.mono (fun d m1 ⟨p, ts, e, hn, hl, hN⟩ => ⟨p, ts, e, hl, ?_⟩) fun _ _ z => z)
  rw [put_fix (by rw [hn]; exact hk)]
  exact hN
theorem ws_newS {i : Nat} {C : Addr} {names : List PySem.Str} {f : PySem.Str} {tv : WX → TE} (c : ClsF K C names) (hf : names.contains f = true) (ns : List PySem.Str) (hnf : nofB f ns = true) (hi : i < n) (h : wpD K n tv ms (fun d m1 => ∃ p ts, m1[i]? = some (.ot p (.obj C ts)) ∧ ts.map (·.1) = ns ∧ ts.length < 1000 ∧ N (m1.set i (.ot p (.obj C (ts ++ [(f, .lf d)]))))) X) :
    wpS K n (fun W => sFld K (tVar i) (tv W) f) ms N R X := by
  refine ws_fldP c (by simpa using hf) hi (h.mono (fun d m1 ⟨p, ts, e, hn, hl, hN⟩ => ⟨p, ts, e, hl, ?_⟩) fun _ _ z => z)
  rw [put_new (by rw [hn]; exact hnf)]
  exact hN
theorem putF_at {β : Type} (f : PySem.Str) (y : β) : ∀ l : List (PySem.Str × β), ∃ k, (putF f y l)[k]? = some (f, y) ∧ ∀ z, setV (putF f y l) k z = putF f z l
  | [] => ⟨0, rfl, fun z => rfl⟩
  | (g, v) :: r => by
    by_cases h : g = f
    · exact ⟨0, by simp [putF, h], fun z => by simp [putF, setV, h]⟩
    · obtain ⟨k, e1, e2⟩ := putF_at f y r
      exact ⟨k + 1, by simpa [putF, h] using e1, fun z => by simp [putF, setV, h, e2]⟩
/-- self.f = value, a new owned thing -/
theorem ws_fldN {i : Nat} {C : Addr} {names : List PySem.Str} {f : PySem.Str} {tv : WX → TE} (c : ClsF K C names) (hf : f ∈ names) (hi : i < n) (h : wpN K n tv ms (fun q u m1 => ∃ p ts, m1[i]? = some (.ot p (.obj C ts)) ∧ ts.length < 1000 ∧ N (m1.set i (.ot p (.obj C (putF f u ts))))) X) :
    wpS K n (fun W => sFld K (tVar i) (tv W) f) ms N R X := by
  intro W G F H σ gv E hn S k r x
  refine h W G F H σ gv _ hn S (fun q u m1 g1 F1 H1 ho S1 e1 => ?_) (fun c m g F' H' p S' e => x c m σ g F' H' p hn S' e)
  obtain ⟨p, ts, ei, hl, hN⟩ := ho
  have hv := get_app (by omega) (S1.tail.getO ei)
  have ei1 : (MV.ot q u :: m1)[i + 1]? = some (.ot p (.obj C ts)) := by simpa using ei
  obtain ⟨dx, vs, h0, hp, w, f0⟩ := S1.obj ei1
  refine ⟨_, hv, p, C, dx, vs, rfl, hp, c.cls, c.na _ hf, ?_, ?_⟩
  · have := w.names
    have := congrArg List.length this
    simp at this; omega
  · rw [putF_L2]
    have S2 := f0 _ _ (w.putLf (f := f) (.raw (.ref q)))
    have hi1 : i < m1.length := (List.getElem?_eq_some_iff.mp ei).1
    obtain ⟨kk, z1, z2⟩ := putF_at f (T.lf (.raw (.ref q))) ts
    have S3 : St K G F1 (upd H1 p (.ins C dx (putF f (.ref q) vs))) (.ot q u :: m1.set i (.ot p (.obj C (putF f (.lf (.raw (.ref q))) ts)))) (some (.ref q) :: (σ ++ g1)) := S2
    have S4 := St.inn1 (k := kk) S3 (i := i) (p := p) (t := .obj C (putF f (.lf (.raw (.ref q))) ts)) (by rw [List.getElem?_set]; simp [hi1]) (by simp [T.kid, z1])
    rw [List.set_set] at S4
    simp only [T.setKid, z2] at S4
    exact k _ σ g1 F1 _ hN hn S4 e1
theorem ws_setSN {i k : Nat} {C : Addr} {names : List PySem.Str} {f : PySem.Str} {tv : WX → TE} (c : ClsF K C names) (hk : fixB f names k = true) (hi : i < n) (h : wpN K n tv ms (fun q u m1 => ∃ p ts, m1[i]? = some (.ot p (.obj C ts)) ∧ ts.map (·.1) = names ∧ ts.length < 1000 ∧ N (m1.set i (.ot p (.obj C (setV ts k u))))) X) :
    wpS K n (fun W => sFld K (tVar i) (tv W) f) ms N R X := by
  refine ws_fldN c (fix_mem hk) hi ?_
  intro W G F H σ gv Q hn S kk x
  refine h W G F H σ gv Q hn S (fun q u m1 g1 F1 H1 ho S1 e1 => kk q u m1 g1 F1 H1 ?_ S1 e1) x
  obtain ⟨p, ts, e, hn, hl, hN⟩ := ho
  refine ⟨p, ts, e, hl, ?_⟩
  rw [put_fix (by rw [hn]; exact hk)]
  exact hN
theorem ws_newSN {i : Nat} {C : Addr} {names : List PySem.Str} {f : PySem.Str} {tv : WX → TE} (c : ClsF K C names) (hf : names.contains f = true) (ns : List PySem.Str) (hnf : nofB f ns = true) (hi : i < n) (h : wpN K n tv ms (fun q u m1 => ∃ p ts, m1[i]? = some (.ot p (.obj C ts)) ∧ ts.map (·.1) = ns ∧ ts.length < 1000 ∧ N (m1.set i (.ot p (.obj C (ts ++ [(f, u)]))))) X) :
    wpS K n (fun W => sFld K (tVar i) (tv W) f) ms N R X := by
  refine ws_fldN c (by simpa using hf) hi ?_
  intro W G F H σ gv Q hn S kk x
  refine h W G F H σ gv Q hn S (fun q u m1 g1 F1 H1 ho S1 e1 => kk q u m1 g1 F1 H1 ?_ S1 e1) x
  obtain ⟨p, ts, e, hn, hl, hN⟩ := ho
  refine ⟨p, ts, e, hl, ?_⟩
  rw [put_new (by rw [hn]; exact hnf)]
  exact hN
end
/-! ### methods, new instances -/
def tMethO (C : Addr) (m : PySem.Str) (sp : Sp) (E : L2.St → XK) (ta : TE) (t : TA) : TE := fun σ H Q => ta σ H fun x H1 => ∃ a dx fs, x = .ref a ∧ H1 a = some (.ins C dx fs) ∧ fs.lookup m = none ∧ t σ H1 fun vs H2 => sp (x :: vs) H2 Q (E σ)
def tMakeO (C : Addr) (sp : Sp) (E : L2.St → XK) (t : TA) : TE := fun σ H Q => t σ H fun vs H1 => ∀ x dx, H1 x = none → H1 dx = none → dx ≠ x →
  sp (.ref x :: vs) (upd (upd H1 dx (.own x)) x (.ins C dx [])) (fun v H2 => v = .non ∧ Q (.ref x) H2) (E σ)
/-- a method that keeps its promise -/
structure OkM (P : Program) (w : World) (K : PySem.W.Frag) (mg : PySem.Str → Option Value) (base : Heap) (C : Addr) (m : PySem.Str) (ps : List PySem.Str) (k : Nat) (sp : Sp) : Prop where
  ex : ∃ (f : Addr) (fd : FuncData), FnOk P w K mg base (L2.CX P w) k f fd ps sp ∧ Cls K C ∧ Meth K C m f ∧ Binds K fd ps []
/-- an __init__ that keeps its promise -/
structure OkI (P : Program) (w : World) (K : PySem.W.Frag) (mg : PySem.Str → Option Value) (base : Heap) (C : Addr) (x : PySem.Str) (ps : List PySem.Str) (k : Nat) (sp : Sp) : Prop where
  ex : ∃ (f : Addr) (fd : FuncData), FnOk P w K mg base (L2.CX P w) k f fd ps sp ∧ Mk K C f ∧ mg x = some (.ref C) ∧ Binds K fd ps []
section
variable {X : Cx} {C : Addr} {m x : PySem.Str} {ps : List PySem.Str} {k : Nat} {sp : Sp} {W : WX} {ta : TE} {t : TA} {e o : Expr} {es : List Expr} {p pos apos : Pos}
theorem pe_methO {pl : Sem Bool} (om : OkM X.prog X.w X.K X.mg X.base C m ps k sp) (hr : Room k X.A) (tk : Takes X W) (he : PE X o ta) (ha : PA X (e :: es) t)
    (hst : starEach (e :: es) X.env = (false, eval e X.env) :: starEach es X.env := by rfl) (hpl : (backTo pos (starEach es X.env)).any (·.1) = false := by rfl)
    (ht : eval (.Call (.Attribute o m apos) (e :: es) [] pos) X.env = (do
      let ov ← eval o X.env
      standAt apos.atName
      let (f, first) ← holding [ov] (getMethod ov m pl)
      callWith pos f first (backTo pos (starEach (e :: es) X.env)) (backToKw pos (keywordEach [] X.env))) := by rfl) :
    PE X (.Call (.Attribute o m apos) (e :: es) [] pos) (tMethO C m sp (WE W) ta t) := by
  obtain ⟨f, fd, F, c, hm, hb⟩ := om.ex
  refine ⟨fun pins s σ H Q I h => ?_⟩
  refine PySem.W.methodCall_KW (pl := pl) (thn (he.run pins s σ H _ I h) fun u s1 ⟨x, H1, I1, rx, a, dx, fs, ex, ea, l, q⟩ => ?_) ht
  subst ex
  obtain rfl : u = Value.ref a := rx
  refine getmeth_ok I1 ea c hm l ?_
  refine PySem.W.callWith_K (first := [.ref a]) (h₀ := X.base) I.ok.mod.kin hm.kp (thn (ha.run pos pins s1 σ H1 _ I1 q) fun us s2 ⟨vs, H2, I2, r, q2⟩ => ⟨I2.kIn, ?_⟩) hst hpl
  exact run_fnS (us := .ref a :: us) (vs := .ref a :: vs) F hr hb (passAt tk σ) I2 (.cons rfl r) q2
theorem pe_methO0 {pl : Sem Bool} (om : OkM X.prog X.w X.K X.mg X.base C m ps k sp) (hr : Room k X.A) (tk : Takes X W) (he : PE X o ta)
    (ht : eval (.Call (.Attribute o m apos) [] [] pos) X.env = (do
      let ov ← eval o X.env
      standAt apos.atName
      let (f, first) ← holding [ov] (getMethod ov m pl)
      callWith pos f first (backTo pos (starEach [] X.env)) (backToKw pos (keywordEach [] X.env))) := by rfl) :
    PE X (.Call (.Attribute o m apos) [] [] pos) (tMethO C m sp (WE W) ta tNil) := by
  obtain ⟨f, fd, F, c, hm, hb⟩ := om.ex
  refine ⟨fun pins s σ H Q I h => ?_⟩
  refine PySem.W.methodCall_KW (pl := pl) (thn (he.run pins s σ H _ I h) fun u s1 ⟨x, H1, I1, rx, a, dx, fs, ex, ea, l, q⟩ => ?_) ht
  subst ex
  obtain rfl : u = Value.ref a := rx
  refine getmeth_ok I1 ea c hm l ?_
  exact PySem.W.callWith_K0 (first := [.ref a]) I1.kIn hm.kp (run_fnS (us := [.ref a]) (vs := [.ref a]) F hr hb (passAt tk σ) I1 (.cons rfl .nil) q)
theorem run_makeS {pins : List (Addr × Obj)} {σ : L2.St} {H : Hp} {s : Shared} {Q : VK} {us : List Value} {vs : List V} {CX : CXT} {f : Addr} {fd : FuncData} {E : L2.St → XK} (M : Mk X.K C f) (F : FnOk X.prog X.w X.K X.mg X.base CX k f fd ps sp) (hr : Room (k + 1) X.A) (hb : Binds X.K fd ps [])
    (hx : PassesAt CX X σ (E σ)) (I : Inv X pins σ H s) (r : Vals vs us)
    (h : ∀ x dx, H x = none → H dx = none → dx ≠ x → sp (.ref x :: vs) (upd (upd H dx (.own x)) x (.ins C dx [])) (fun v H2 => v = .non ∧ Q (.ref x) H2) (E σ)) :
    wpAny (model X.prog X.w) X.A (call (.ref C) us) (EP X pins σ Q) X.xe s := by
  have hq := h (s.heap.objs.size + 1) s.heap.objs.size (I.hok.fresh (Nat.le_succ _)) (I.hok.fresh (Nat.le_refl _)) (Nat.ne_of_lt (Nat.lt_succ_self _))
  have I2 := Inv.made (C := C) I
  have r2 : Vals (V.ref (s.heap.objs.size + 1) :: vs) (Value.ref (s.heap.objs.size + 1) :: us) := .cons rfl r
  have hl : ((Value.ref (s.heap.objs.size + 1) :: us) ++ []).length = ps.length := by
    have e := r2.length
    rw [F.len _ _ _ _ hq] at e
    rw [List.append_nil]
    exact e.symm
  refine wpAny_call (make_map (f := f) I.kIn M.makes M.init (beq_iff_eq.mp M.fn) (codeAny_mono (F.run _ X.stack _ _ ⟨Value.ref (s.heap.objs.size + 1) :: us, []⟩ (Value.ref (s.heap.objs.size + 1) :: us) _ _ (E σ) (hr.make C us [])
    (I2.env0.make C us []) (by have := hb _ (Value.ref (s.heap.objs.size + 1) :: us) I2.kIn hl; rw [List.append_nil] at this; exact this) r2 hq) fun r s' hq' => ?_))
  cases r with
  | error e => exact hx pins _ _ e s' I2 hq'
  | ok fl =>
    cases fl with
    | ret u =>
      obtain ⟨v, H', I3, rv, ev, q3⟩ := I2.after hq'
      subst ev
      exact ⟨rv, ⟨V.ref (s.heap.objs.size + 1), H', I3, rfl, q3⟩⟩
    | next => exact False.elim hq'
    | brk => exact False.elim hq'
    | cont => exact False.elim hq'
theorem pe_makeO (oi : OkI X.prog X.w X.K X.mg X.base C x ps k sp) (hr : Room (k + 1) X.A) (hg : Gl X x) (tk : Takes X W) (ha : PA X (e :: es) t) (hdb : (x == ("__debug__" : PySem.Str)) = false := by decide)
    (he : starEach (e :: es) X.env = (false, eval e X.env) :: starEach es X.env := by rfl) (hpl : (backTo pos (starEach es X.env)).any (·.1) = false := by rfl) : PE X (.Call (.Name x p) (e :: es) [] pos) (tMakeO C sp (WE W) t) := by
  obtain ⟨f, fd, F, M, hm, hb⟩ := oi.ex
  refine ⟨fun pins s σ H Q I h => ?_⟩
  refine wpAny_Call_Name_kw (ld_glob I hg hm ?_ hdb)
  refine PySem.W.callWith_K (h₀ := X.base) I.ok.mod.kin M.kp (thn (ha.run pos pins s σ H _ I h) fun us s1 ⟨vs, H1, I1, r, q⟩ => ⟨I1.kIn, ?_⟩) he hpl
  exact run_makeS M F hr hb (passAt tk σ) I1 r q
end
end M
namespace M
open PySem PySem.Spec PyProof.Rows L2
/-! ### calls of methods, new instances, views -/
section
variable {K : PySem.W.Frag} {n : Nat} {ms : List MV} {X : XP} {N : List MV → Prop} {R : MV → List MV → Prop}
theorem wd_meth (l : List (Nat × Nat)) {C : Addr} {m : PySem.Str} {fs : FS} {te : WX → TE} {ta : WX → TA} {P : D → List MV → Prop}
    (h : wpD K n te ms (fun x m0 => ∃ (p : Addr) (i : Nat) (ts : List (PySem.Str × T)), x = .raw (.ref p) ∧ m0[i]? = some (.ot p (.obj C ts)) ∧ nofB m (ts.map (·.1)) = true ∧
      wpA K n ta m0 (fun ds m1 => ∃ a' b', Lend l ((.raw (.ref p) :: ds).map .fz) m1 a' b' ∧ fs a' (fun r a1 => ∃ a2 b2, Lend (l.map fun q => (q.2, q.1)) b' a1 b2 a2 ∧ ∃ d, r = .fz d ∧ P d b2) (fun c a1 => ∃ a2 b2, Lend (l.map fun q => (q.2, q.1)) b' a1 b2 a2 ∧ X c b2)) X) X) :
    wpD K n (fun W => tMethO C m (SpM K fs) (WE W) (te W) (ta W)) ms P X := by
  intro W G F H σ gv Q hn S k x
  refine h W G F H σ gv _ hn S (fun y v m0 g0 F0 H0 ho S0 r0 e0 => ?_) x
  obtain ⟨p, i, ts, rfl, ei, hnf, ho⟩ := ho
  cases r0
  obtain ⟨dx, vs0, h0, hp, w, _⟩ := S0.obj ei
  refine ⟨p, dx, vs0, rfl, hp, look_new (by rw [w.names]; exact hnf), ?_⟩
  refine ho W G F0 H0 σ g0 _ hn S0 (fun ds vs m1 g1 F1 H1 ho S1 r1 e1 => ?_) (fun c m g F' H' p S' e => x c m g F' H' p S' (e0.trans e))
  obtain ⟨a', b', L, hf⟩ := ho
  refine run_call (P := fun m b2 => ∃ d, m = .fz d ∧ P d b2) S1 (RpL.cons (.raw (.ref p)) r1) L hf (fun m v ms' F' H' p S' e => ?_) (fun c ms' F' H' p S' e => x c ms' g1 F' H' p S' ((e0.trans e1).trans e))
  obtain ⟨d, rfl, p⟩ := p
  exact k d v ms' g1 F' H' p S'.tail S'.headF ((e0.trans e1).trans e)
/-- o.m(..), o a name -/
theorem wd_methV (i : Nat) (l : List (Nat × Nat)) {C p : Addr} {m : PySem.Str} {names : List PySem.Str} {ts : List (PySem.Str × T)} {fs : FS} {ta : WX → TA} {P : D → List MV → Prop} (hm : nofB m names = true) (hi : i < n) (e : ms[i]? = some (.ot p (.obj C ts))) (hn : ts.map (·.1) = names)
    (h : wpA K n ta ms (fun ds m1 => ∃ a' b', Lend l ((.raw (.ref p) :: ds).map .fz) m1 a' b' ∧ fs a' (fun r a1 => ∃ a2 b2, Lend (l.map fun q => (q.2, q.1)) b' a1 b2 a2 ∧ ∃ d, r = .fz d ∧ P d b2) (fun c a1 => ∃ a2 b2, Lend (l.map fun q => (q.2, q.1)) b' a1 b2 a2 ∧ X c b2)) X) :
    wpD K n (fun W => tMethO C m (SpM K fs) (WE W) (tVar i) (ta W)) ms P X :=
  wd_meth l (wd_varO e hi ⟨p, i, ts, rfl, e, by rw [hn]; exact hm, h⟩)
/-- .. whose value is a new owned thing -/
theorem wn_methV (i : Nat) (l : List (Nat × Nat)) {C p : Addr} {m : PySem.Str} {names : List PySem.Str} {ts : List (PySem.Str × T)} {fs : FS} {ta : WX → TA} {P : Addr → T → List MV → Prop} (hm : nofB m names = true) (hi : i < n) (ei : ms[i]? = some (.ot p (.obj C ts))) (hnn : ts.map (·.1) = names)
    (h : wpA K n ta ms (fun ds m1 => ∃ a' b', Lend l ((.raw (.ref p) :: ds).map .fz) m1 a' b' ∧ fs a' (fun r a1 => ∃ a2 b2, Lend (l.map fun q => (q.2, q.1)) b' a1 b2 a2 ∧ ∃ q t, r = .ot q t ∧ P q t b2) (fun c a1 => ∃ a2 b2, Lend (l.map fun q => (q.2, q.1)) b' a1 b2 a2 ∧ X c b2)) X) :
    wpN K n (fun W => tMethO C m (SpM K fs) (WE W) (tVar i) (ta W)) ms P X := by
  intro W G F H σ gv Q hn S k x
  have hv := get_app (by omega) (S.getO ei)
  obtain ⟨dx, vs0, h0, hp, w, _⟩ := S.obj ei
  refine ⟨_, hv, p, dx, vs0, rfl, hp, look_new (by rw [w.names, hnn]; exact hm), ?_⟩
  refine h W G F H σ gv _ hn S (fun ds vs m1 g1 F1 H1 ho S1 r1 e1 => ?_) x
  obtain ⟨a', b', L, hf⟩ := ho
  refine run_call (P := fun m b2 => ∃ q t, m = .ot q t ∧ P q t b2) S1 (RpL.cons (.raw (.ref p)) r1) L hf (fun m v ms' F' H' p S' e => ?_) (fun c ms' F' H' p S' e => x c ms' g1 F' H' p S' (e1.trans e))
  obtain ⟨q, t, rfl, p⟩ := p
  have ev := S'.headO
  subst ev
  exact k q t ms' g1 F' H' p S' (e1.trans e)
/-- a new thing is data -/
theorem wd_ofN {te : WX → TE} {P : D → List MV → Prop} (h : wpN K n te ms (fun _ t m1 => P t.toD m1) X) : wpD K n te ms P X := by
  intro W G F H σ gv Q hn S k x
  refine h W G F H σ gv _ hn S (fun p t m1 g1 F1 H1 ho S1 e1 => ?_) x
  obtain ⟨F2, e2, S2⟩ := S1.freeze (i := 0) rfl
  have S2' : St K G F2 H1 (.fz t.toD :: m1) (some (.ref p) :: (σ ++ g1)) := S2
  exact k _ _ m1 g1 F2 H1 ho S2'.tail S2'.headF (e1.trans e2)
theorem St.newObj {G F H : Hp} {σ : List (Option V)} {p dx C : Addr} (S : St K G F H ms σ) (hp : H p = none) (hd : H dx = none) (ne : dx ≠ p) : St K G F (upd (upd H dx (.own p)) p (.ins C dx [])) (.ot p (.obj C []) :: ms) (some (.ref p) :: σ) := by
  obtain ⟨h, x, sh, d1, d2⟩ := S.own
  have up : ∀ {A : Hp}, Same A H → Same A (upd (upd H dx (.own p)) p (.ins C dx [])) := fun s b u e => by
    have b1 : b ≠ p := fun q => by subst q; rw [s.free hp] at e; cases e
    have b2 : b ≠ dx := fun q => by subst q; rw [s.free hd] at e; cases e
    rw [upd_ne b1, upd_ne b2]; exact s _ _ e
  have dj : ∀ {A : Hp}, Same A H → Dj (upd (upd emp dx (.own p)) p (.ins C dx [])) A := fun s => (Dj.emp_l.upd (s.free hd)).upd (s.free hp)
  refine ⟨up S.g, up S.f, S.fg, _, .ot (.obj .nil rfl rfl ne) x (dj sh), Same.jn ?_ (up sh), Dj.jn_l (dj S.f) d1, Dj.jn_l (dj S.g) d2⟩
  intro b u e
  by_cases b1 : b = p
  · subst b1; rw [upd_same] at e ⊢; exact e
  · rw [upd_ne b1] at e ⊢
    by_cases b2 : b = dx
    · subst b2; rw [upd_same] at e ⊢; exact e
    · rw [upd_ne b2] at e; cases e
theorem wn_make (l : List (Nat × Nat)) {C : Addr} {fs : FS} {ta : WX → TA} {P : Addr → T → List MV → Prop}
    (h : wpA K n ta ms (fun ds m1 => ∀ p, ∃ a' b', Lend l ((.raw (.ref p) :: ds).map .fz) (m1 ++ [.ot p (.obj C [])]) a' b' ∧
      fs a' (fun r a1 => ∃ a2 b2, Lend (l.map fun q => (q.2, q.1)) b' a1 b2 a2 ∧ r = .fz .non ∧ ∃ t, b2[m1.length]? = some (.ot p t) ∧ b2.length = m1.length + 1 ∧ P p t (b2.take m1.length))
        (fun c a1 => ∃ a2 b2, Lend (l.map fun q => (q.2, q.1)) b' a1 b2 a2 ∧ b2.length = m1.length + 1 ∧ X c (b2.take m1.length))) X) :
    wpN K n (fun W => tMakeO C (SpM K fs) (WE W) (ta W)) ms P X := by
  intro W G F H σ gv Q hn S k x
  refine h W G F H σ gv _ hn S (fun ds vs m1 g1 F1 H1 ho S1 r1 e1 => ?_) x
  intro p dx hp hd ne
  obtain ⟨a', b', L, hf⟩ := ho p
  have S2 := (S1.newObj (C := C) hp hd ne).rot
  rw [List.append_assoc] at S2
  have hlen := S1.len
  refine run_call (P := fun r b2 => r = .fz .non ∧ ∃ t, b2[m1.length]? = some (.ot p t) ∧ b2.length = m1.length + 1 ∧ P p t (b2.take m1.length)) (X := fun c b2 => b2.length = m1.length + 1 ∧ X c (b2.take m1.length)) S2 (RpL.cons (.raw (.ref p)) r1) L hf (fun m v ms' F' H' q S' e => ?_) (fun c ms' F' H' q S' e => ?_)
  · obtain ⟨rfl, t, eb, hl, hP⟩ := q
    have rv := S'.headF
    cases rv
    refine ⟨rfl, k p t _ g1 F' H' hP ?_ (e1.trans e)⟩
    have S3 := S'.tail
    rw [snoc_of hl eb, ← List.append_assoc] at S3
    refine S3.unrot ?_
    rw [List.length_take]; omega
  · obtain ⟨hl, hX⟩ := q
    refine x c _ g1 F' H' hX ?_ (e1.trans e)
    have hsp : ms' = ms'.take m1.length ++ ms'.drop m1.length := (List.take_append_drop _ _).symm
    have S3 := S'
    rw [hsp, ← List.append_assoc] at S3
    exact S3.sub fun h0 y => by
      obtain ⟨ha, hb, y1, y2, dj, rfl⟩ := OwS.split (by rw [List.length_take]; omega) y
      exact ⟨ha, y1, Same.jn_l⟩
/-- an owned argument is seen as data -/
inductive Vw : List (Nat × Nat) → List MV → List MV → List MV → Prop
  | nil {a b : List MV} : Vw [] a b a
  | cons {j i : Nat} {l : List (Nat × Nat)} {a b a' : List MV} {p : Addr} {t : T} : a[j]? = some (.fz (.raw (.ref p))) → b[i]? = some (.ot p t) → Vw l (a.set j (.fz t.toD)) b a' → Vw ((j, i) :: l) a b a'
theorem OwS.reF {F : Hp} {σ : List (Option V)} {h : Hp} {j : Nat} {p : Addr} {d : D} (x : OwS K F ms σ h) (e : ms[j]? = some (.fz (.raw (.ref p)))) (r : Rp K F (.ref p) d) : OwS K F (ms.set j (.fz d)) σ h := by
  induction x generalizing j with
  | nil => simp at e
  | un x ih =>
    cases j with
    | zero => simp at e
    | succ j => exact .un (ih (by simpa using e))
  | fz r0 x ih =>
    cases j with
    | zero =>
      simp at e
      subst e
      cases r0
      exact .fz r x
    | succ j => exact .fz r0 (ih (by simpa using e))
  | ot r0 x dd ih =>
    cases j with
    | zero => simp at e
    | succ j => exact .ot r0 (ih (by simpa using e)) dd
theorem Vw.ok {l : List (Nat × Nat)} {a b a' : List MV} (v : Vw l a b a') : ∀ {G F H F1 : Hp} {s σ : List (Option V)}, St K G F H b σ → St K G F1 H (b.map view) σ → OwS K F1 a s emp → OwS K F1 a' s emp := by
  induction v with
  | nil => intro _ _ _ _ _ _ _ _ x; exact x
  | cons ea eb _ ih =>
    rename_i j i l a b a' p t _
    intro G F H F1 s σ S S1 x
    refine ih S S1 (x.reF ea ?_)
    have e1 : (b.map view)[i]? = some (.fz t.toD) := by rw [List.getElem?_map, eb]; rfl
    obtain ⟨v, hv, r⟩ := S1.get e1
    have := S.getO eb
    rw [hv] at this
    cases this
    exact r
theorem wd_callV (l : List (Nat × Nat)) {fs : FS} {ta : WX → TA} {P : D → List MV → Prop} (h : wpA K n ta ms (fun ds m1 => ∃ a', Vw l (ds.map .fz) m1 a' ∧ fs a' (fun m _ => ∃ d, m = .fz d ∧ flat d = true ∧ P d m1) (fun c _ => X c m1)) X) :
    wpD K n (fun W => tCallS (SpM K fs) (WE W) (ta W)) ms P X := by
  intro W G F H σ gv Q hn S k x
  refine h W G F H σ gv _ hn S (fun ds vs m1 g1 F1 H1 ho S1 r1 e1 => ?_) x
  obtain ⟨a', hv, hf⟩ := ho
  obtain ⟨F2, e2, S2, back⟩ := view_core S1
  have ow := hv.ok S1 S2 ((r1.up e2).owS)
  refine ⟨G, F2, a', _, _, ⟨S2.g, S2.f, S2.fg, emp, ow, Same.emp, Dj.emp_l, Dj.emp_l⟩, hf, fun m v ms' F' H' q S' e => ?_, fun c ms' F' H' q S' e => ?_⟩
  · obtain ⟨d, rfl, hfl, p⟩ := q
    obtain ⟨F3, e3, S3⟩ := back _ _ _ _ e S'
    exact k d v m1 g1 F3 H' p S3 (S'.headF.flat hfl) (e1.trans e3)
  · obtain ⟨F3, e3, S3⟩ := back _ _ _ _ e S'
    exact x c m1 g1 F3 H' q S3 (e1.trans e3)
/-! ### lists and dicts by a name of theirs -/
theorem ws_appR {te tv : WX → TE} (h : wpD K n te ms (fun x m1 => ∃ p, x = .raw (.ref p) ∧ (∃ (i : Nat) (ts : List T), m1[i]? = some (.ot p (.lst ts))) ∧ wpD K n tv m1 (fun d m2 => ∃ (i : Nat) (ts : List T), m2[i]? = some (.ot p (.lst ts)) ∧ ts.length < 1000000 ∧ N (m2.set i (.ot p (.lst (ts ++ [.lf d]))))) X) X) :
    wpS K n (fun W => tDrop (tBM K "list" rAppend (te W) (tCons (tv W) tNil))) ms N R X := by
  intro W G F H σ gv E hn S k r x
  refine h W G F H σ gv _ hn S (fun y v m1 g1 F1 H1 ho S1 r1 e1 => ?_) (fun c m g F' H' p S' e => x c m σ g F' H' p hn S' e)
  obtain ⟨p, rfl, ⟨i0, ts0, e0⟩, ho⟩ := ho
  cases r1
  obtain ⟨vs0, hp0, _⟩ := S1.list e0
  refine ⟨.inl ⟨rfl, _, SqL.of hp0⟩, ?_⟩
  refine ho W G F1 H1 σ g1 _ hn S1 (fun d v m2 g2 F2 H2 ho S2 r2 e2 => ?_) (fun c m g F' H' p S' e => x c m σ g F' H' p hn S' (e1.trans e))
  obtain ⟨i, ts, ei, hl, hN⟩ := ho
  obtain ⟨vs, hp, hlen, f⟩ := S2.list ei
  refine ⟨p, vs, v, rfl, rfl, hp, ?_, ?_⟩
  · rw [sizeLine_eq]; omega
  · exact k _ σ g2 F2 _ hN hn (f _ _ fun h0 w => ⟨h0, w.snoc r2, Same.refl _⟩) (e1.trans e2)
/-- xs.append(a new owned thing) -/
theorem ws_appRN {te tv : WX → TE} (h : wpD K n te ms (fun x m1 => ∃ p, x = .raw (.ref p) ∧ (∃ (i : Nat) (ts : List T), m1[i]? = some (.ot p (.lst ts))) ∧ wpN K n tv m1 (fun q u m2 => ∃ (i : Nat) (ts : List T), m2[i]? = some (.ot p (.lst ts)) ∧ ts.length < 1000000 ∧ N (m2.set i (.ot p (.lst (ts ++ [u]))))) X) X) :
    wpS K n (fun W => tDrop (tBM K "list" rAppend (te W) (tCons (tv W) tNil))) ms N R X := by
  intro W G F H σ gv E hn S k r x
  refine h W G F H σ gv _ hn S (fun y v m1 g1 F1 H1 ho S1 r1 e1 => ?_) (fun c m g F' H' p S' e => x c m σ g F' H' p hn S' e)
  obtain ⟨p, rfl, ⟨i0, ts0, e0⟩, ho⟩ := ho
  cases r1
  obtain ⟨vs0, hp0, _⟩ := S1.list e0
  refine ⟨.inl ⟨rfl, _, SqL.of hp0⟩, ?_⟩
  refine ho W G F1 H1 σ g1 _ hn S1 (fun q u m2 g2 F2 H2 ho S2 e2 => ?_) (fun c m g F' H' p S' e => x c m σ g F' H' p hn S' (e1.trans e))
  obtain ⟨i, ts, ei, hl, hN⟩ := ho
  have ei1 : (MV.ot q u :: m2)[i + 1]? = some (.ot p (.lst ts)) := by simpa using ei
  obtain ⟨vs, hp, hlen, f⟩ := S2.list ei1
  refine ⟨p, vs, .ref q, rfl, rfl, hp, ?_, ?_⟩
  · rw [sizeLine_eq]; omega
  · have S3 : St K G F2 (upd H2 p (.lst (vs ++ [.ref q]))) (.ot q u :: m2.set i (.ot p (.lst (ts ++ [.lf (.raw (.ref q))])))) (some (.ref q) :: (σ ++ g2)) := f _ _ fun h0 w => ⟨h0, w.snoc (.raw (.ref q)), Same.refl _⟩
    have hi : i < m2.length := (List.getElem?_eq_some_iff.mp ei).1
    have S4 := St.inn1 (k := ts.length) S3 (i := i) (p := p) (t := .lst (ts ++ [.lf (.raw (.ref q))])) (by rw [List.getElem?_set]; simp [hi]) (by simp [T.kid])
    rw [List.set_set] at S4
    have e9 : (ts ++ [T.lf (.raw (.ref q))]).set ts.length u = ts ++ [u] := by rw [List.set_append_right _ _ (Nat.le_refl _)]; simp
    simp only [T.setKid, e9] at S4
    exact k _ σ g2 F2 _ hN hn S4 (e1.trans e2)
/-- xs.pop(0) -/
theorem wd_pop0 {te : WX → TE} {P : D → List MV → Prop} (h : wpD K n te ms (fun x m1 => ∃ (p : Addr) (i : Nat) (d : D) (ts : List T), x = .raw (.ref p) ∧ m1[i]? = some (.ot p (.lst (.lf d :: ts))) ∧ P d (m1.set i (.ot p (.lst ts)))) X) :
    wpD K n (fun W => tBM K "list" rPopAt (te W) (tCons (tC (.int 0)) tNil)) ms P X := by
  intro W G F H σ gv Q hn S k x
  refine h W G F H σ gv _ hn S (fun y v m1 g1 F1 H1 ho S1 r1 e1 => ?_) x
  obtain ⟨p, i, d, ts, rfl, ei, hP⟩ := ho
  cases r1
  obtain ⟨v1, h1, rf, w, s1, f⟩ := S1.dig (π := []) ei rfl
  cases rf
  cases w with
  | lst w0 np =>
    rename_i vs h0
    have hp : H1 p = some (.lst vs) := s1 _ _ upd_same
    refine ⟨.inl ⟨rfl, _, SqL.of hp⟩, ?_⟩
    cases w0 with
    | cons a b dj =>
      cases a with
      | lf rd =>
        rename_i v0 vs0 h2
        refine ⟨p, v0 :: vs0, 0, 0, v0, rfl, rfl, hp, by decide, by decide, by simp [seqIndex?], rfl, ?_⟩
        have S2 := f p _ (.lst vs0) (upd h2 p (.lst vs0)) (.lst ts) upd_same (fun b u z => ?_) upd_same (.lst b (by rw [emp_jn] at np; exact np))
        · exact k d v0 _ g1 F1 _ hP S2 rd e1
        · by_cases hb : b = p
          · subst hb; rw [upd_same] at z ⊢; exact z
          · rw [upd_ne hb] at z ⊢; rw [upd_ne hb, emp_jn]; exact z
/-- what an owned dict has by a key -/
def valT (ts : List (Key × T)) (k : Key) : Option T := (ts.find? fun kv => decide (kv.1 = k)).map (·.2)
theorem OwK.val {F : Hp} {k : Key} : ∀ {kvs : List (Key × V)} {h : Hp} {ts : List (Key × T)}, OwK K F kvs h ts → (valV kvs k = none ∧ valT ts k = none) ∨ ∃ v t, valV kvs k = some v ∧ valT ts k = some t ∧ ∀ d, t = .lf d → Rp K F v d
  | _, _, _, .nil => .inl ⟨rfl, rfl⟩
  | _, _, _, .cons (k := k0) (v := v0) (t := t0) w t _ => by
    by_cases h : k0 = k
    · refine .inr ⟨v0, t0, ?_, ?_, fun d e => ?_⟩
      · simp [valV, List.find?_cons, h]
      · simp [valT, List.find?_cons, h]
      · subst e; cases w with | lf r => exact r
    · rcases OwK.val (k := k) t with ⟨a, b⟩ | ⟨v, d, a, b, c⟩
      · left
        constructor
        · simpa [valV, List.find?_cons, h] using a
        · simpa [valT, List.find?_cons, h] using b
      · right
        refine ⟨v, d, ?_, ?_, c⟩
        · simpa [valV, List.find?_cons, h] using a
        · simpa [valT, List.find?_cons, h] using b
/-- d.get(k, x) of an owned dict -/
theorem wd_dget2R {td ty tx : WX → TE} {P : D → List MV → Prop}
    (h : wpD K n td ms (fun a m1 => ∃ (p : Addr), a = .raw (.ref p) ∧ (∃ (i : Nat) (ts : List (Key × T)), m1[i]? = some (.ot p (.dic ts))) ∧ wpD K n ty m1 (fun b m2 => ∃ k, keyD b = some k ∧ wpD K n tx m2 (fun c m3 => ∃ (i : Nat) (ts : List (Key × T)), m3[i]? = some (.ot p (.dic ts)) ∧ ((valT ts k = none ∧ P c m3) ∨ ∃ d, valT ts k = some (.lf d) ∧ P d m3)) X) X) X) : wpD K n (fun W => tDGet2 (td W) (ty W) (tx W)) ms P X := by
  intro W G F H σ gv Q hn S kk x
  refine h W G F H σ gv _ hn S (fun a v m1 g1 F1 H1 ho S1 r1 e1 => ?_) x
  obtain ⟨p, rfl, ⟨i0, ts0, e0⟩, ho⟩ := ho
  cases r1
  obtain ⟨vs0, _, hp0, _⟩ := S1.dic e0
  refine ⟨p, rfl, .inl ⟨vs0, .inl hp0⟩, ?_⟩
  refine ho W G F1 H1 σ g1 _ hn S1 (fun b v2 m2 g2 F2 H2 ho S2 r2 e2 => ?_) (fun c m g F' H' p S' e => x c m g F' H' p S' (e1.trans e))
  obtain ⟨k, ek, ho⟩ := ho
  have := r2.key ek
  subst this
  refine ho W G F2 H2 σ g2 _ hn S2 (fun c v3 m3 g3 F3 H3 ho S3 r3 e3 => ?_) (fun c m g F' H' p S' e => x c m g F' H' p S' ((e1.trans e2).trans e))
  obtain ⟨i, ts, ei, hv⟩ := ho
  obtain ⟨vs, h0, hp, w, _⟩ := S3.dic ei
  refine ⟨valV vs k, .inl ⟨vs, k, .inl hp, rfl, rfl⟩, ?_⟩
  rcases OwK.val (k := k) w with ⟨a, b⟩ | ⟨v, t, a, b, c⟩
  · rw [a]
    rcases hv with ⟨_, p⟩ | ⟨d, z, p⟩
    · exact kk _ _ m3 g3 F3 H3 p S3 r3 ((e1.trans e2).trans e3)
    · rw [b] at z; cases z
  · rw [a]
    rcases hv with ⟨z, _⟩ | ⟨d, z, p⟩
    · rw [b] at z; cases z
    · rw [b] at z; cases z
      exact kk _ _ m3 g3 F3 H3 p S3 (c d rfl) ((e1.trans e2).trans e3)
/-- d[k] of an owned dict: a leaf -/
theorem wd_dgetR {td ty : WX → TE} {P : D → List MV → Prop} (h : wpD K n td ms (fun a m1 => ∃ (p : Addr), a = .raw (.ref p) ∧ wpD K n ty m1 (fun b m2 => ∃ (k : Key) (i : Nat) (ts : List (Key × T)) (d : D), keyD b = some k ∧ m2[i]? = some (.ot p (.dic ts)) ∧ valT ts k = some (.lf d) ∧ P d m2) X) X) : wpD K n (fun W => tDGet (td W) (ty W)) ms P X := by
  intro W G F H σ gv Q hn S kk x
  refine h W G F H σ gv _ hn S (fun a v m1 g1 F1 H1 ho S1 r1 e1 => ?_) x
  obtain ⟨p, rfl, ho⟩ := ho
  cases r1
  refine ho W G F1 H1 σ g1 _ hn S1 (fun b v2 m2 g2 F2 H2 ho S2 r2 e2 => ?_) (fun c m g F' H' p S' e => x c m g F' H' p S' (e1.trans e))
  obtain ⟨k, i, ts, d, ek, ei, hv, hP⟩ := ho
  have := r2.key ek
  subst this
  obtain ⟨vs, h0, hp, w, _⟩ := S2.dic ei
  rcases OwK.val (k := k) w with ⟨a, b⟩ | ⟨v, t, a, b, c⟩
  · rw [b] at hv; cases hv
  · rw [b] at hv; cases hv
    exact ⟨p, v, rfl, .inl ⟨vs, k, .inl hp, rfl, a.symm⟩, kk _ _ m2 g2 F2 H2 hP S2 (c d rfl) (e1.trans e2)⟩
/-- k in d, data -/
theorem wd_din {td ty : WX → TE} {P : D → List MV → Prop} (h : wpD K n ty ms (fun b m1 => ∃ k, keyD b = some k ∧ wpD K n td m1 (fun a m2 => ∃ kds, a = .dic kds ∧ P (.bl (valD kds k).isSome) m2) X) X) : wpD K n (fun W => tDIn (ty W) (td W)) ms P X := by
  intro W G F H σ gv Q hn S kk x
  refine h W G F H σ gv _ hn S (fun b v1 m1 g1 F1 H1 ho S1 r1 e1 => ?_) x
  obtain ⟨k, ek, ho⟩ := ho
  have := r1.key ek
  subst this
  refine ho W G F1 H1 σ g1 _ hn S1 (fun a v2 m2 g2 F2 H2 ho S2 r2 e2 => ?_) (fun c m g F' H' p S' e => x c m g F' H' p S' (e1.trans e))
  obtain ⟨kds, rfl, p⟩ := ho
  cases r2 with
  | dic hd r =>
    rename_i ad kvs
    refine ⟨ad, valV kvs k, rfl, .inl ⟨kvs, k, (Le.of S2.f).rdD hd, rfl, rfl⟩, ?_⟩
    have e : (valV kvs k).isSome = (valD kds k).isSome := by
      rcases RpK.val (k := k) r with ⟨a, b⟩ | ⟨v, d, a, b, c⟩
      · rw [a, b]; rfl
      · rw [a, b]; rfl
    rw [e]
    exact kk _ _ m2 g2 F2 H2 p S2 (.bl _) (e1.trans e2)
theorem wd_dnotin {td ty : WX → TE} {P : D → List MV → Prop} (h : wpD K n ty ms (fun b m1 => ∃ k, keyD b = some k ∧ wpD K n td m1 (fun a m2 => ∃ kds, a = .dic kds ∧ P (.bl !(valD kds k).isSome) m2) X) X) : wpD K n (fun W => tDNotIn (ty W) (td W)) ms P X := by
  intro W G F H σ gv Q hn S kk x
  refine h W G F H σ gv _ hn S (fun b v1 m1 g1 F1 H1 ho S1 r1 e1 => ?_) x
  obtain ⟨k, ek, ho⟩ := ho
  have := r1.key ek
  subst this
  refine ho W G F1 H1 σ g1 _ hn S1 (fun a v2 m2 g2 F2 H2 ho S2 r2 e2 => ?_) (fun c m g F' H' p S' e => x c m g F' H' p S' (e1.trans e))
  obtain ⟨kds, rfl, p⟩ := ho
  cases r2 with
  | dic hd r =>
    rename_i ad kvs
    refine ⟨ad, valV kvs k, rfl, .inl ⟨kvs, k, (Le.of S2.f).rdD hd, rfl, rfl⟩, ?_⟩
    have e : (valV kvs k).isSome = (valD kds k).isSome := by
      rcases RpK.val (k := k) r with ⟨a, b⟩ | ⟨v, d, a, b, c⟩
      · rw [a, b]; rfl
      · rw [a, b]; rfl
    rw [e]
    exact kk _ _ m2 g2 F2 H2 p S2 (.bl _) (e1.trans e2)
end
/-! ### d.copy() -/
def tCopy (td : TE) : TE := fun σ H Q => td σ H fun x H1 => ∃ a kvs, x = .ref a ∧ Rd H1 a (.dK kvs) ∧ ∀ p, H1 p = none → Q (.ref p) (upd H1 p (.dK kvs))
theorem pe_copy {X : Cx} {o : Expr} {td : TE} {apos cpos : Pos} (ho : PE X o td) (hbase : attributeBase o "copy" X.env (eval o X.env) = eval o X.env := by rfl) (hline : (apos.endLine == cpos.line) = true := by rfl) : PE X (.Call (.Attribute o "copy" apos) [] [] cpos) (tCopy td) := by
  refine ⟨fun pins s σ H Q I h => ?_⟩
  refine wpAny_Call_method0_late hbase hline (thn (ho.run pins s σ H _ I h) fun v s1 ⟨x, H1, I1, r1, a, kvs, ex, hd, q1⟩ => ?_)
  subst ex
  cases r1
  obtain ⟨h1, h2, h3⟩ := isD_at I1 (.inl ⟨kvs, hd⟩)
  refine ⟨"dict", "dict.copy", PySem.F.plainAttrs_dict, PySem.F.slot_dict_copy, PySem.F.type_dict_copy, h1, h2, Calls.callWith_builtin rfl (PySem.evalArgs_none ?_)⟩
  obtain ⟨z, lo, vs, rel, dd⟩ := dk_rd I1.hok hd
  obtain ⟨ob, es, ep, g1, g2, g3, g4, g5, g6⟩ := id dd
  have hes : es.size = vs.length := by
    have := g5.length
    simpa using this
  refine call_copy_raw lo ⟨ob, g1, g2, g3⟩ (by rw [hes, ← rel.length]; exact z) (fun e he => ?_) fun h' hr hk => ?_
  · obtain ⟨k, hk, _⟩ := g4 e (by simpa using he)
    exact .inl ((mixKind X.prog X.w).byValue _ _ hk)
  · have hm : (s1.heap.objs.size == sysModules) = false := beq_eq_false_iff_ne.mpr (Nat.ne_of_gt I1.big)
    obtain ⟨o', e1, e2, e3⟩ := hr
    exact ⟨.ref s1.heap.objs.size, upd H1 s1.heap.objs.size (.dK kvs), I1.laid (t' := s1.toks) hk (Nat.le_refl _) (show ObjOk X.prog X.w _ _ _ (.dK kvs) from ⟨z, hm, vs, rel, o', es, 0, e1, e2, e3, g4, g5, g6⟩), rfl, q1 _ (I1.hok.fresh (Nat.le_refl _))⟩
section
variable {K : PySem.W.Frag} {n : Nat} {ms : List MV} {X : XP}
theorem owK_of {F : Hp} : ∀ {vs : List (Key × V)} {ds : List (Key × D)}, RpK K F vs ds → OwK K F vs emp (ds.map fun q => (q.1, .lf q.2))
  | _, _, .nil => .nil
  | _, _, .cons (k := k) r t => by
    have z := OwK.cons (k := k) (OwT.lf r) (owK_of t) Dj.emp_l
    rw [emp_jn] at z
    exact z
theorem wn_copy {td : WX → TE} {P : Addr → T → List MV → Prop} (h : wpD K n td ms (fun a m1 => ∃ kds, a = .dic kds ∧ ∀ p, P p (.dic (kds.map fun q => (q.1, .lf q.2))) m1) X) : wpN K n (fun W => tCopy (td W)) ms P X := by
  intro W G F H σ gv Q hn S kk x
  refine h W G F H σ gv _ hn S (fun a v1 m1 g1 F1 H1 ho S1 r1 e1 => ?_) x
  obtain ⟨kds, rfl, hp⟩ := ho
  cases r1 with
  | dic hd r =>
    refine ⟨_, _, rfl, (Le.of S1.f).rdD hd, fun p hpp => ?_⟩
    exact kk _ _ m1 g1 F1 _ (hp p) (S1.newOwn hpp (.dic (owK_of r) rfl)) e1
end
/-! ### (..) > (..) -/
def rGtD (K : PySem.W.Frag) : R2 := fun x y H Q => ∃ da db, Dp K H x da ∧ Dp K H y db ∧ PySem.W.alike da db = true ∧ da ≠ .none ∧ da.depth ≤ 60 ∧ Q (.bl (PySem.W.dataLt db da)) H
theorem op_gtD {X : Cx} (hu : X.A.units + 64 < cLine) : OpR X (compareOp .Gt) (rGtD X.K) := by
  intro pins s σ H x y v u Q I rx ry h
  obtain ⟨da, db, p1, p2, al, nn, dp, q⟩ := h
  obtain ⟨as, r1⟩ := Dp.reads I da x v p1 rx
  obtain ⟨bs, r2⟩ := Dp.reads I db y u p2 ry
  exact PySem.W.gt_data r1 r2 al nn (by have := Nat.min_le_left da.depth db.depth; omega) ⟨.bl _, H, I, rfl, q⟩
theorem o_gtD {K : PySem.W.Frag} {P : D → Prop} {a b : D} (ha : a.sh = true) (hb : b.sh = true) (al : PySem.W.alike a.py b.py = true) (nn : a.py ≠ .none) (dp : a.py.depth ≤ 60) (h : P (.bl (PySem.W.dataLt b.py a.py))) : opD K (rGtD K) a b P := by
  intro x y F H Q r1 r2 s k
  exact ⟨_, _, Dp.up s (r1.dp (D.sh_lay ha)), Dp.up s (r2.dp (D.sh_lay hb)), al, nn, dp, k _ _ F H h .refl (.bl _)⟩
end M
namespace M
open PySem PySem.Spec PyProof.Rows L2
/-! ### for k in d -/
/-- d is locked while the statement runs; unlocked behind it, however it ends. Or it is locked already. -/
def tLockX (t : WX → TS) (W : WX) : TS := fun D σ H => (∃ d u, H d = some u ∧ Mut (some u) ∧ ∀ od, t (fun c e σ' H' => H' d = some (.frz od u) ∧ W c e σ' (upd H' d u)) ⟨fun σ' H' => H' d = some (.frz od u) ∧ D.nx σ' (upd H' d u), fun v H' => H' d = some (.frz od u) ∧ D.rt v (upd H' d u), fun σ' H' => H' d = some (.frz od u) ∧ D.bk σ' (upd H' d u), fun σ' H' => H' d = some (.frz od u) ∧ D.ct σ' (upd H' d u)⟩ σ (upd H d (.frz od u))) ∨ t W D σ H
theorem takes_unlock {X : Cx} {W : WX} {d : Addr} {od : Obj} {u : HO} (tk : Takes X W) (hn : ∀ o' u', X.H_0 d ≠ some (.frz o' u')) : Takes X (fun c e σ' H' => H' d = some (.frz od u) ∧ W c e σ' (upd H' d u)) := by
  rintro x s' ⟨a, B, sI, pins, σ, H, cls, dd, e, I, nb, up, sky, na, os, ag, hd, w⟩
  refine tk x s' ⟨a, B, sI, pins, σ, upd H d u, cls, dd, e, I.unlock hd hn, nb, up, sky, ?_, os, ag, w⟩
  rw [upd_ne (fun z => by rw [z, hd] at na; cases na)]
  exact na
theorem ps_lockX {X : Cx} {st : Stmt} {t : WX → TS} {W : WX} (tk : Takes X W) (h : ∀ W', Takes X W' → PS X st (t W')) : PS X st (tLockX t W) := by
  refine ⟨fun pins s σ H D I hw => ?_⟩
  rcases hw with ⟨d, u, hd, mu, hw⟩ | hw
  · obtain ⟨od, I1⟩ := I.lock hd mu
    have hn := I.nofrz hd mu
    refine thn ((h _ (takes_unlock tk hn)).run pins s σ _ _ I1 (hw od)) fun f s1 q => ?_
    cases f with
    | next => obtain ⟨σ', H', I2, e, q⟩ := q; exact ⟨σ', _, I2.unlock e hn, q⟩
    | brk => obtain ⟨σ', H', I2, e, q⟩ := q; exact ⟨σ', _, I2.unlock e hn, q⟩
    | cont => obtain ⟨σ', H', I2, e, q⟩ := q; exact ⟨σ', _, I2.unlock e hn, q⟩
    | ret v => obtain ⟨x, σ', H', I2, r, e, q⟩ := q; exact ⟨x, σ', _, I2.unlock e hn, r, q⟩
  · exact (h W tk).run pins s σ H D I hw
def keyDV : Key → D
  | .inl i => .int i
  | .inr x => .str x
section
variable {K : PySem.W.Frag} {n : Nat} {ms : List MV} {X : XP} {N : List MV → Prop} {R : MV → List MV → Prop}
theorem rp_key {F : Hp} (k : Key) : Rp K F (kV k) (keyDV k) := by
  cases k with
  | inl i => exact .int i
  | inr x => exact .str x
theorem St.turnF {G F H : Hp} {σ : List (Option V)} {a : Addr} {o o' : HO} (S : St K G F H ms σ) (hF : F a = some o) (hl : Le F (upd F a o')) : St K G (upd F a o') (upd H a o') ms σ := by
  obtain ⟨h, x, sh, d1, d2⟩ := S.own
  have nG : G a = none := S.fg.none hF
  have nh : h a = none := d1.symm.none hF
  have up : ∀ {A : Hp}, A a = none → Same A H → Same A (upd H a o') := fun na s b u z => by
    rw [upd_ne (ne_of_none z na)]; exact s _ _ z
  refine ⟨up nG S.g, fun b u e => ?_, S.fg.upd nG, h, x.le hl, up nh sh, (d1.symm.upd nh).symm, d2⟩
  by_cases hb : b = a
  · subst hb; rw [upd_same] at e ⊢; exact e
  · rw [upd_ne hb] at e ⊢; exact S.f _ _ e
theorem for_walk {J : It} {g : TG} {tb : WX → TS} {ds : List D} {I : Nat → List MV → Prop} {W : WX} {G F H : Hp} {σ gv : List (Option V)} {E : Ends} (hn : σ.length = n) (S : St K G F H ms (σ ++ gv)) (w : Walks K J F ds) (h0 : I 0 ms)
    (hs : ∀ i d m, ds[i]? = some d → I i m → wpG K n g d m fun m2 => wpS K n tb m2 (I (i + 1)) R X)
    (k : ∀ m σ' gv' F' H', I ds.length m → σ'.length = n → St K G F' H' m (σ' ++ gv') → Same F F' → E.nx σ' H')
    (r : ∀ m v ms' σ' gv' F' H', R m ms' → σ'.length = n → St K G F' H' (m :: ms') (some v :: (σ' ++ gv')) → Same F F' → E.rt v H')
    (x : ∀ c ms' σ' gv' F' H', X c ms' → σ'.length = n → St K G F' H' ms' (σ' ++ gv') → Same F F' → W c none σ' H') : tFor (fun _ H Q => Q J H) g (tb W) E σ H := by
  let Pv : Nat → L2.St → Hp → Prop := fun i σ' H' => ∃ m gv' F', I i m ∧ σ'.length = n ∧ St K G F' H' m (σ' ++ gv') ∧ Same F F'
  refine ⟨fun i m σ' H' => i + m = ds.length ∧ Pv i σ' H', ⟨ds.length, by omega, ms, gv, F, h0, hn, S, Same.refl _⟩, fun i m σ' H' hW => ?_⟩
  obtain ⟨em, m2, g2, F2, hI, hn2, S2, e2⟩ := hW
  cases q : ds[i]? with
  | none =>
    have hi : ds.length ≤ i := List.getElem?_eq_none_iff.mp q
    have hi' : i = ds.length := by omega
    subst hi'
    exact .inl ⟨((w.up e2) _ H' S2.f).2 rfl, k m2 σ' g2 F2 H' hI hn2 S2 e2⟩
  | some d =>
    have hi : i < ds.length := (List.getElem?_eq_some_iff.mp q).1
    obtain ⟨hgo, hy⟩ := ((w.up e2) i H' S2.f).1 d q
    refine .inr ⟨hgo, Pv (i + 1), fun σ3 H3 hP => ⟨m - 1, by omega, by omega, hP⟩, fun y H3 hyl => ?_⟩
    obtain ⟨rfl, ry⟩ := hy y H3 hyl
    refine hs i d m2 q hI G F2 H3 σ' g2 y _ hn2 S2 ry fun m3 σ3 h3 hn3 S3 => ?_
    exact h3 W G F2 H3 σ3 g2 _ hn3 S3 (fun m4 σ4 g4 F4 H4 p4 l4 S4 e4 => ⟨m4, g4, F4, p4, l4, S4, e2.trans e4⟩) (fun mm v m4 σ4 g4 F4 H4 p4 l4 S4 e4 => r mm v m4 σ4 g4 F4 H4 p4 l4 S4 (e2.trans e4)) fun c m4 σ4 g4 F4 H4 p4 l4 S4 e4 => x c m4 σ4 g4 F4 H4 p4 l4 S4 (e2.trans e4)
theorem walks_keys {F : Hp} {a : Addr} {o : Obj} {kvs : List (Key × V)} (h : F a = some (.frz o (.dK kvs))) : Walks K (Itk a o kvs) F (kvs.map fun kv => keyDV kv.1) := by
  intro i H s
  refine ⟨fun d hd => ?_, fun hi => ⟨s _ _ h, by simp at hi; omega⟩⟩
  rw [List.getElem?_map] at hd
  cases q : kvs[i]? with
  | none => rw [q] at hd; cases hd
  | some kv =>
    rw [q] at hd
    cases hd
    refine ⟨⟨s _ _ h, (List.getElem?_eq_some_iff.mp q).1⟩, fun x H' hy => ?_⟩
    obtain ⟨rfl, k, v, e, rfl⟩ := hy
    rw [q] at e
    cases e
    exact ⟨rfl, rp_key _⟩
theorem keys_eq {F : Hp} : ∀ {kvs : List (Key × V)} {kds : List (Key × D)}, RpK K F kvs kds → (kvs.map fun kv => keyDV kv.1) = kds.map fun kv => keyDV kv.1
  | _, _, .nil => rfl
  | _, _, .cons _ t => by simp [keys_eq t]
/-- the loop over the keys of a dict that a name has (data) -/
theorem ws_forKeys' (b : Bool) {i : Nat} {g : TG} {tb : WX → TS} {kds : List (Key × D)} (hi : i < n) (e : ms[i]? = some (.fz (.dic kds))) (I : Nat → List MV → Prop) (h0 : I 0 ms)
    (hs : ∀ j d m, (kds.map fun kv => keyDV kv.1)[j]? = some d → I j m → wpG K n g d m fun m2 => wpS K n tb m2 (I (j + 1)) R X) (hd : ∀ m, I kds.length m → N m) :
    wpS K n (fun W => tLockX (fun W => tFor (if b then iKeys (tVar i) else iKeysM (tVar i)) g (tb W)) W) ms N R X := by
  intro W G F H σ gv E hn S kk rr xx
  obtain ⟨v, hv, rv⟩ := S.get e
  have hv' := get_app (by omega) hv
  cases rv with
  | dic hr rk =>
    rename_i a kvs
    have hl : kvs.length = kds.length := rk.length
    have ek := keys_eq rk
    have hs' : ∀ j d m, (kvs.map fun kv => keyDV kv.1)[j]? = some d → I j m → wpG K n g d m fun m2 => wpS K n tb m2 (I (j + 1)) R X := by rw [ek]; exact hs
    rcases hr with hr | ⟨o, hr⟩
    · left
      refine ⟨a, .dK kvs, S.f _ _ hr, trivial, fun od => ?_⟩
      have le1 : Le F (upd F a (.frz od (.dK kvs))) := fun b u z => by
        by_cases hb : b = a
        · subst hb; rw [hr] at z; cases z
          exact .inr (.inl ⟨od, kvs, rfl, upd_same⟩)
        · exact .inl (by rw [upd_ne hb]; exact z)
      have S1 := S.turnF hr le1
      have fin : ∀ {m : List MV} {σ' : List (Option V)} {F' H' : Hp}, St K G F' H' m σ' → Same (upd F a (.frz od (.dK kvs))) F' → H' a = some (.frz od (.dK kvs)) ∧ ∃ F2, Same F F2 ∧ St K G F2 (upd H' a (.dK kvs)) m σ' := fun {m σ' F' H'} S' e => by
        have hF' : F' a = some (.frz od (.dK kvs)) := e _ _ upd_same
        have le2 : Le F' (upd F' a (.dK kvs)) := fun b u z => by
          by_cases hb : b = a
          · subst hb; rw [hF'] at z; cases z
            exact .inr (.inr ⟨od, kvs, rfl, upd_same⟩)
          · exact .inl (by rw [upd_ne hb]; exact z)
        refine ⟨S'.f _ _ hF', _, fun b u z => ?_, S'.turnF hF' le2⟩
        by_cases hb : b = a
        · subst hb; rw [hr] at z; cases z; exact upd_same
        · rw [upd_ne hb]; exact e _ _ (by rw [upd_ne hb]; exact z)
      have core := for_walk (E := ⟨fun σ' H' => H' a = some (.frz od (.dK kvs)) ∧ E.nx σ' (upd H' a (.dK kvs)), fun v H' => H' a = some (.frz od (.dK kvs)) ∧ E.rt v (upd H' a (.dK kvs)), fun σ' H' => H' a = some (.frz od (.dK kvs)) ∧ E.bk σ' (upd H' a (.dK kvs)), fun σ' H' => H' a = some (.frz od (.dK kvs)) ∧ E.ct σ' (upd H' a (.dK kvs))⟩) (W := fun c e σ' H' => H' a = some (.frz od (.dK kvs)) ∧ W c e σ' (upd H' a (.dK kvs))) hn S1 (walks_keys (K := K) (upd_same (H := F) (a := a))) h0 hs' (fun m σ' g' F' H' p l S' e => by
          obtain ⟨f1, F2, f2, f3⟩ := fin S' e
          exact ⟨f1, kk m σ' g' _ _ (hd m (by simpa [hl] using p)) l f3 f2⟩) (fun m v ms' σ' g' F' H' p l S' e => by
          obtain ⟨f1, F2, f2, f3⟩ := fin S' e
          exact ⟨f1, rr m v ms' σ' g' _ _ p l f3 f2⟩) (fun c ms' σ' g' F' H' p l S' e => by
          obtain ⟨f1, F2, f2, f3⟩ := fin S' e
          exact ⟨f1, xx c ms' σ' g' _ _ p l f3 f2⟩)
      cases b
      · exact ⟨_, hv', a, od, kvs, rfl, upd_same, core⟩
      · exact ⟨_, hv', a, od, rfl, .inl ⟨kvs, upd_same, core⟩⟩
    · right
      have core := for_walk (E := E) (W := W) hn S (walks_keys (K := K) hr) h0 hs' (fun m σ' g' F' H' p l S' e => kk m σ' g' F' H' (hd m (by simpa [hl] using p)) l S' e) rr xx
      cases b
      · exact ⟨_, hv', a, o, kvs, rfl, S.f _ _ hr, core⟩
      · exact ⟨_, hv', a, o, rfl, .inl ⟨kvs, S.f _ _ hr, core⟩⟩
theorem ws_forKeysM {i : Nat} {g : TG} {tb : WX → TS} {kds : List (Key × D)} (hi : i < n) (e : ms[i]? = some (.fz (.dic kds))) (I : Nat → List MV → Prop) (h0 : I 0 ms)
    (hs : ∀ j d m, (kds.map fun kv => keyDV kv.1)[j]? = some d → I j m → wpG K n g d m fun m2 => wpS K n tb m2 (I (j + 1)) R X) (hd : ∀ m, I kds.length m → N m) :
    wpS K n (fun W => tLockX (fun W => tFor (iKeysM (tVar i)) g (tb W)) W) ms N R X := ws_forKeys' false hi e I h0 hs hd
theorem ws_forKeys {i : Nat} {g : TG} {tb : WX → TS} {kds : List (Key × D)} (hi : i < n) (e : ms[i]? = some (.fz (.dic kds))) (I : Nat → List MV → Prop) (h0 : I 0 ms)
    (hs : ∀ j d m, (kds.map fun kv => keyDV kv.1)[j]? = some d → I j m → wpG K n g d m fun m2 => wpS K n tb m2 (I (j + 1)) R X) (hd : ∀ m, I kds.length m → N m) :
    wpS K n (fun W => tLockX (fun W => tFor (iKeys (tVar i)) g (tb W)) W) ms N R X := ws_forKeys' true hi e I h0 hs hd
end
end M
namespace M
open PySem PySem.Spec PyProof.Rows L2
section
variable {K : PySem.W.Frag} {n : Nat} {ms : List MV} {X : XP} {N : List MV → Prop} {R : MV → List MV → Prop}
theorem OwK.isS {F : Hp} {k : Key} {vs : List (Key × V)} {h : Hp} {ts : List (Key × T)} (w : OwK K F vs h ts) : (valV vs k).isSome = (valT ts k).isSome := by
  rcases OwK.val (k := k) w with ⟨a, b⟩ | ⟨v, t, a, b, c⟩
  · rw [a, b]; rfl
  · rw [a, b]; rfl
/-- k in d, d owned -/
theorem wd_dinR {td ty : WX → TE} {P : D → List MV → Prop} (h : wpD K n ty ms (fun b m1 => ∃ k, keyD b = some k ∧ wpD K n td m1 (fun a m2 => ∃ (p : Addr) (i : Nat) (ts : List (Key × T)), a = .raw (.ref p) ∧ m2[i]? = some (.ot p (.dic ts)) ∧ P (.bl (valT ts k).isSome) m2) X) X) : wpD K n (fun W => tDIn (ty W) (td W)) ms P X := by
  intro W G F H σ gv Q hn S kk x
  refine h W G F H σ gv _ hn S (fun b v1 m1 g1 F1 H1 ho S1 r1 e1 => ?_) x
  obtain ⟨k, ek, ho⟩ := ho
  have := r1.key ek
  subst this
  refine ho W G F1 H1 σ g1 _ hn S1 (fun a v2 m2 g2 F2 H2 ho S2 r2 e2 => ?_) (fun c m g F' H' p S' e => x c m g F' H' p S' (e1.trans e))
  obtain ⟨p, i, ts, rfl, ei, hP⟩ := ho
  cases r2
  obtain ⟨vs, h0, hp, w, _⟩ := S2.dic ei
  refine ⟨p, valV vs k, rfl, .inl ⟨vs, k, .inl hp, rfl, rfl⟩, ?_⟩
  rw [w.isS]
  exact kk _ _ m2 g2 F2 H2 hP S2 (.bl _) (e1.trans e2)
theorem wd_dnotinR {td ty : WX → TE} {P : D → List MV → Prop} (h : wpD K n ty ms (fun b m1 => ∃ k, keyD b = some k ∧ wpD K n td m1 (fun a m2 => ∃ (p : Addr) (i : Nat) (ts : List (Key × T)), a = .raw (.ref p) ∧ m2[i]? = some (.ot p (.dic ts)) ∧ P (.bl !(valT ts k).isSome) m2) X) X) : wpD K n (fun W => tDNotIn (ty W) (td W)) ms P X := by
  intro W G F H σ gv Q hn S kk x
  refine h W G F H σ gv _ hn S (fun b v1 m1 g1 F1 H1 ho S1 r1 e1 => ?_) x
  obtain ⟨k, ek, ho⟩ := ho
  have := r1.key ek
  subst this
  refine ho W G F1 H1 σ g1 _ hn S1 (fun a v2 m2 g2 F2 H2 ho S2 r2 e2 => ?_) (fun c m g F' H' p S' e => x c m g F' H' p S' (e1.trans e))
  obtain ⟨p, i, ts, rfl, ei, hP⟩ := ho
  cases r2
  obtain ⟨vs, h0, hp, w, _⟩ := S2.dic ei
  refine ⟨p, valV vs k, rfl, .inl ⟨vs, k, .inl hp, rfl, rfl⟩, ?_⟩
  rw [w.isS]
  exact kk _ _ m2 g2 F2 H2 hP S2 (.bl _) (e1.trans e2)
/-- len(d), len(xs), owned -/
theorem wd_lenR {te : WX → TE} {P : D → List MV → Prop} (h : wpD K n te ms (fun a m2 => ∃ (p : Addr) (i : Nat), a = .raw (.ref p) ∧ ((∃ ts : List (Key × T), m2[i]? = some (.ot p (.dic ts)) ∧ P (.int ts.length) m2) ∨ ∃ ts : List T, m2[i]? = some (.ot p (.lst ts)) ∧ P (.int ts.length) m2)) X) : wpD K n (fun W => tCB (rLenA K) (tCons (te W) tNil)) ms P X := by
  intro W G F H σ gv Q hn S kk x
  refine h W G F H σ gv _ hn S (fun a v2 m2 g2 F2 H2 ho S2 r2 e2 => ?_) x
  obtain ⟨p, i, rfl, ho⟩ := ho
  cases r2
  rcases ho with ⟨ts, ei, hP⟩ | ⟨ts, ei, hP⟩
  · obtain ⟨vs, h0, hp, w, _⟩ := S2.dic ei
    refine .inr ⟨p, vs, rfl, hp, ?_⟩
    rw [w.len]
    exact kk _ _ m2 g2 F2 H2 hP S2 (.int _) e2
  · obtain ⟨vs, hp, hl, _⟩ := S2.list ei
    refine .inl ⟨_, vs.length, rfl, .inl ⟨vs, SqL.of hp, rfl⟩, ?_⟩
    rw [hl]
    exact kk _ _ m2 g2 F2 H2 hP S2 (.int _) e2
/-- the truth of an owned list -/
theorem wt_truR {te : WX → TE} {P : Bool → List MV → Prop} (h : wpD K n te ms (fun a m2 => ∃ (p : Addr) (i : Nat) (ts : List T), a = .raw (.ref p) ∧ m2[i]? = some (.ot p (.lst ts)) ∧ P (!ts.isEmpty) m2) X) : wpT K n (fun W => tTru K (te W)) ms P X := by
  intro W G F H σ gv Q hn S kk x
  refine h W G F H σ gv _ hn S (fun a v2 m2 g2 F2 H2 ho S2 r2 e2 => ?_) x
  obtain ⟨p, i, ts, rfl, ei, hP⟩ := ho
  cases r2
  obtain ⟨vs, hp, hl, _⟩ := S2.list ei
  refine ⟨!ts.isEmpty, .inl ⟨vs, SqL.of hp, ?_⟩, kk _ m2 g2 F2 H2 hP S2 e2⟩
  cases ts <;> cases vs <;> first | rfl | simp at hl
/-- list(xs) of an owned list -/
theorem wn_listR {te : WX → TE} {P : Addr → T → List MV → Prop} (h : wpD K n te ms (fun a m2 => ∃ (p : Addr) (i : Nat) (ds : List D), a = .raw (.ref p) ∧ m2[i]? = some (.ot p (.lst (ds.map .lf))) ∧ ∀ q, P q (.lst (ds.map .lf)) m2) X) : wpN K n (fun W => tCB (rListO K) (tCons (te W) tNil)) ms P X := by
  intro W G F H σ gv Q hn S kk x
  refine h W G F H σ gv _ hn S (fun a v2 m2 g2 F2 H2 ho S2 r2 e2 => ?_) x
  obtain ⟨p, i, ds, rfl, ei, hP⟩ := ho
  cases r2
  obtain ⟨v1, h1, rf, w, s1, f⟩ := S2.dig (π := []) ei rfl
  cases rf
  cases w with
  | lst w0 np =>
    rename_i vs h0
    have hp : H2 p = some (.lst vs) := s1 _ _ upd_same
    refine ⟨p, vs, rfl, .inl (SqL.of hp), fun l hl => ?_⟩
    have rl : ∀ {vs : List V} {h : Hp} {ds : List D}, OwL K F2 vs h (ds.map .lf) → RpL K F2 vs ds := by
      intro vs
      induction vs with
      | nil =>
        intro h ds w
        cases ds with
        | nil => exact .nil
        | cons => cases w
      | cons v vs ih =>
        intro h ds w
        cases ds with
        | nil => cases w
        | cons d ds =>
          cases w with
          | cons a b _ =>
            cases a with
            | lf r => exact .cons r (ih b)
    exact kk l _ m2 g2 F2 _ (hP l) (S2.newOwn hl (.lst (owL_of (rl w0)) rfl)) e2
/-- list(xs), data: a new owned list -/
theorem wn_listD {te : WX → TE} {P : Addr → T → List MV → Prop} (h : wpD K n te ms (fun a m2 => ∃ (ds : List D), (a = .lst ds ∨ a = .tup ds) ∧ ∀ q, P q (.lst (ds.map .lf)) m2) X) : wpN K n (fun W => tCB (rListO K) (tCons (te W) tNil)) ms P X := by
  intro W G F H σ gv Q hn S kk x
  refine h W G F H σ gv _ hn S (fun a v2 m2 g2 F2 H2 ho S2 r2 e2 => ?_) x
  obtain ⟨ds, hd, hP⟩ := ho
  rcases hd with rfl | rfl
  · cases r2 with
    | lst e r => exact ⟨_, _, rfl, .inl (SqL.of (S2.f _ _ e)), fun l hl => kk l _ m2 g2 F2 _ (hP l) (S2.newOwn hl (.lst (owL_of r) rfl)) e2⟩
  · cases r2 with
    | tup e r => exact ⟨_, _, rfl, .inr ((Le.of S2.f).sqT e), fun l hl => kk l _ m2 g2 F2 _ (hP l) (S2.newOwn hl (.lst (owL_of r) rfl)) e2⟩
end
end M
namespace M
open PySem PySem.Spec PyProof.Rows L2
abbrev rStrI : List V → Hp → VK → Prop := fun xs H Q => ∃ i : Int, xs = [.int i] ∧ i.natAbs.log2 < 1920 ∧ Q (.str (toString i)) H
def strI (i : Int) : PySem.Str := (toString i : String)
section
variable {K : PySem.W.Frag} {n : Nat} {ms : List MV} {X : XP} {N : List MV → Prop} {R : MV → List MV → Prop}
theorem c_strI {P : D → Prop} {i : Int} (hl : i.natAbs ≤ 1000000) (h : P (.str (strI i))) : cbD K rStrI [.int i] P := by
  intro xs F H Q r s k
  cases r with
  | cons r1 r2 =>
    cases r2
    cases r1
    refine ⟨i, rfl, ?_, k _ _ F H h .refl (.str _)⟩
    by_cases h0 : i.natAbs = 0
    · rw [h0]; decide
    · exact (Nat.log2_lt h0).mpr (Nat.lt_of_le_of_lt hl (Nat.lt_of_lt_of_le (by decide : (1000000 : Nat) < 2 ^ 20) (Nat.pow_le_pow_right (by decide) (by decide))))
theorem OwL.at {F : Hp} {d : D} : ∀ {vs : List V} {h : Hp} {ts : List T} {j : Nat}, OwL K F vs h ts → ts[j]? = some (.lf d) → ∃ v, vs[j]? = some v ∧ Rp K F v d
  | _, _, _, _, .nil, e => by simp at e
  | _, _, _, 0, .cons a b _, e => by
    simp at e; subst e
    cases a with
    | lf r => exact ⟨_, rfl, r⟩
  | _, _, _, j + 1, .cons a b _, e => by
    obtain ⟨v, e1, r⟩ := OwL.at (j := j) b (by simpa using e)
    exact ⟨v, by simpa using e1, r⟩
theorem St.listO {G F H : Hp} {σ : List (Option V)} {i : Nat} {p : Addr} {ts : List T} (S : St K G F H ms σ) (e : ms[i]? = some (.ot p (.lst ts))) : ∃ vs h, H p = some (.lst vs) ∧ OwL K F vs h ts := by
  obtain ⟨v1, h1, rf, w, s1, f⟩ := S.dig (π := []) e rfl
  cases rf
  cases w with
  | lst w0 np => exact ⟨_, _, s1 _ _ upd_same, w0⟩
/-- xs[j], xs owned: a leaf -/
theorem wd_ixR {te tj : WX → TE} {P : D → List MV → Prop} (h : wpD K n te ms (fun x m1 => ∃ p, x = .raw (.ref p) ∧ wpD K n tj m1 (fun dj m2 => ∃ (j : Int) (i : Nat) (ts : List T) (d : D), dj = .int j ∧ m2[i]? = some (.ot p (.lst ts)) ∧ L2.atI ts j = some (.lf d) ∧ P d m2) X) X) :
    wpD K n (fun W => tOp (rIxA K) (te W) (tj W)) ms P X := by
  intro W G F H σ gv Q hn S k x
  refine h W G F H σ gv _ hn S (fun y v m1 g1 F1 H1 ho S1 r1 e1 => ?_) x
  obtain ⟨p, rfl, ho⟩ := ho
  cases r1
  refine ho W G F1 H1 σ g1 _ hn S1 (fun dj v2 m2 g2 F2 H2 ho S2 r2 e2 => ?_) (fun c m g F' H' p S' e => x c m g F' H' p S' (e1.trans e))
  obtain ⟨j, i, ts, d, rfl, ei, hj, hP⟩ := ho
  cases r2
  obtain ⟨vs, h0, hp, w⟩ := S2.listO ei
  have hl := owL_len w
  unfold L2.atI at hj
  cases q : ixN ts.length j with
  | none => rw [q] at hj; cases hj
  | some j' =>
    rw [q] at hj
    obtain ⟨v, ev, rv⟩ := w.at hj
    refine .inl ⟨p, vs, j, v, rfl, rfl, SqL.of hp, ?_, k d v m2 g2 F2 H2 hP S2 rv (e1.trans e2)⟩
    unfold L2.atI
    rw [hl, q]
    exact ev
theorem OwL.lfs {F : Hp} : ∀ {vs : List V} {h : Hp} {ds : List D}, OwL K F vs h (ds.map .lf) → RpL K F vs ds := by
  intro vs
  induction vs with
  | nil =>
    intro h ds w
    cases ds with
    | nil => exact .nil
    | cons => cases w
  | cons v vs ih =>
    intro h ds w
    cases ds with
    | nil => cases w
    | cons d ds =>
      cases w with
      | cons a b _ =>
        cases a with
        | lf r => exact .cons r (ih b)
/-- xs[lo:hi], xs owned, of leaves -/
theorem wd_slR {te : WX → TE} {tl th : WX → TO} {P : D → List MV → Prop}
    (h : wpD K n te ms (fun a m1 => ∃ p, a = .raw (.ref p) ∧ wpO K n tl m1 (fun lo m2 => wpO K n th m2 (fun hi m3 => ∃ (i : Nat) (ds : List D), m3[i]? = some (.ot p (.lst (ds.map .lf))) ∧ P (.lst (cutD ds lo hi)) m3) X) X) X) : wpD K n (fun W => L2.tSl (rSlA' K) (te W) (tl W) (th W)) ms P X := by
  intro W G F H σ gv Q hn S k x
  refine h W G F H σ gv _ hn S (fun a v m1 g1 F1 H1 ho S1 r1 e1 => ?_) x
  obtain ⟨p, rfl, ho⟩ := ho
  cases r1
  refine ho W G F1 H1 σ g1 _ hn S1 (fun lo m2 g2 F2 H2 ho2 S2 e2 => ?_) (fun c m g F' H' p S' e => x c m g F' H' p S' (e1.trans e))
  refine ho2 W G F2 H2 σ g2 _ hn S2 (fun hi m3 g3 F3 H3 ho3 S3 e3 => ?_) (fun c m g F' H' p S' e => x c m g F' H' p S' ((e1.trans e2).trans e))
  obtain ⟨i, ds, ei, hP⟩ := ho3
  obtain ⟨vs, h0, hp, w⟩ := S3.listO ei
  have rl := w.lfs
  refine .inl ⟨p, vs, rfl, SqL.of hp, fun q hq => ?_⟩
  have nF := S3.f.free hq
  refine k _ _ m3 g3 _ _ hP (S3.new hq) (.lst upd_same (RpL.up ?_ (same_new nF))) (((e1.trans e2).trans e3).trans (same_new nF))
  unfold cutV cutD
  rw [rl.length]
  exact RpL.take _ (RpL.drop _ rl)
end
end M
namespace M
open PySem PySem.Spec PyProof.Rows L2
/-! ### the law's draws -/
def FsOk (K : PySem.W.Frag) (np nn : Nat) (fs : FS) (t : WX → TS) : Prop :=
  ∀ ms P X, fs ms P X → ms.length = np ∧ wpS K nn t (ms ++ List.replicate (nn - np) .un) (fun me => ∃ ms', Back ms me ms' ∧ P (.fz .non) ms') (fun m me => ∃ ms', Back ms me ms' ∧ P m ms') (fun c me => ∃ ms', Back ms me ms' ∧ X c ms')
abbrev scr (sc : List Int) : MV := .fz (.sq (sc.map .int))
def zeros (n : Nat) : T := .lst ((List.replicate n (.int 0)).map .lf)
def fs__law_cell (K : PySem.W.Frag) : FS := fun ms P X => ∃ sc k, ms = [scr sc, .fz (.int k)] ∧ sc.length ≤ 63 ∧ ∀ z, P (.fz (.int z)) ms
/-- _law_cell: slots 0 script, 1 k -/
def t__law_cell (K : PySem.W.Frag) : WX → TS := fun W => (tSeq (tIfS (tTru K (tVar 0)) (tRet (tOp (rIxA K) (tVar 0) (tOp (rI (fun _ j => 0 < j) fun i j => .int (i % j)) (tVar 1) (tCB (rLenA K) (tCons (tVar 0) tNil))))) tNext) (tRet (tC (.int 0))))
theorem atI_mod {α : Type} (xs : List α) (k : Int) (h : xs ≠ []) : ∃ x, L2.atI xs (k % (xs.length : Int)) = some x := by
  have hl : 0 < xs.length := List.length_pos_iff.mpr h
  have h1 : 0 ≤ k % (xs.length : Int) := Int.emod_nonneg _ (by omega)
  have h2 : k % (xs.length : Int) < xs.length := Int.emod_lt_of_pos _ (by omega)
  unfold L2.atI ixN
  rw [if_pos h1, if_pos h2]
  have h3 : (k % (xs.length : Int)).toNat < xs.length := by omega
  exact ⟨xs[(k % (xs.length : Int)).toNat], by simp [h3]⟩
theorem h__law_cell {K : PySem.W.Frag} : FsOk K 2 2 (fs__law_cell K) (t__law_cell K) := by
  intro ms P X hf
  obtain ⟨sc, k, rfl, hl, hP⟩ := hf
  refine ⟨rfl, ?_⟩
  unfold t__law_cell
  refine ws_seq (ws_if (wt_tru (wd_var rfl (by decide) ⟨_, rfl, ?_⟩)))
  have bk : Back [scr sc, .fz (.int k)] [scr sc, .fz (.int k)] [scr sc, .fz (.int k)] := .fz (.fz .nil)
  cases sc with
  | nil => exact ws_next (ws_ret (wd_int ⟨_, bk, hP 0⟩))
  | cons a r =>
    refine ws_ret (wd_op (wd_var rfl (by decide) (wd_op (wd_var rfl (by decide) (wd_cb (wa_cons (wd_var rfl (by decide) (wa_nil (c_len rfl (by simp at hl ⊢; omega) ?_)))))))))
    refine o_Ii (by simp) ?_
    obtain ⟨x, hx⟩ := atI_mod ((a :: r).map D.int) k (by simp)
    have hx' := hx
    obtain ⟨z, rfl⟩ : ∃ z, x = D.int z := by
      unfold L2.atI at hx
      cases q : ixN ((a :: r).map D.int).length (k % (((a :: r).map D.int).length : Int)) with
      | none => rw [q] at hx; cases hx
      | some j =>
        rw [q] at hx
        obtain ⟨y, _, e⟩ := List.mem_map.mp (List.mem_of_getElem? hx)
        exact ⟨y, e.symm⟩
    exact o_ixQ hx' ⟨_, bk, hP z⟩
def fs__law_mix (K : PySem.W.Frag) : FS := fun ms P X => ∃ sc k, ms = [scr sc, .fz (.int k)] ∧ sc.length ≤ 63 ∧ ∀ z, P (.fz (.int z)) ms
/-- _law_mix: slots 0 script, 1 k, 2 number -/
def t__law_mix (K : PySem.W.Frag) : WX → TS := fun W => (tSeq (tAsg (tOp (rI (fun _ j => 0 < j) fun i j => .int (i % j)) (tOp (rAddA K) (tCallS (SpM K (fs__law_cell K)) (WE W) (tCons (tVar 0) (tCons (tVar 1) tNil))) (tOp rMulA (tC (.int 104729)) (tOp (rAddA K) (tVar 1) (tC (.int 1))))) (tC (.int 4294967291))) (gName 2)) (tSeq (tAsg (tOp (rI (fun _ j => 0 < j) fun i j => .int (i % j)) (tOp (rI CPow fun i j => .int (i ^ j.toNat)) (tVar 2) (tC (.int 5))) (tC (.int 4294967279))) (gName 2)) (tRet (tOp (rI (fun _ j => 0 < j) fun i j => .int (i % j)) (tOp (rAddA K) (tOp rMulA (tOp (rI CDiv fun i j => .int (i / j)) (tVar 2) (tC (.int 64))) (tC (.int 69621))) (tVar 2)) (tC (.int 4294967231))))))
theorem cell_mono {K : PySem.W.Frag} (a : List MV) (Q Q' : MV → List MV → Prop) (Y Y' : XP) (h : ∀ m b, Q m b → Q' m b) (_ : ∀ c b, Y c b → Y' c b) (f : fs__law_cell K a Q Y) : fs__law_cell K a Q' Y' := by
  obtain ⟨sc, k, rfl, hl, hP⟩ := f
  exact ⟨sc, k, rfl, hl, fun z => h _ _ (hP z)⟩
theorem h__law_mix {K : PySem.W.Frag} : FsOk K 2 3 (fs__law_mix K) (t__law_mix K) := by
  intro ms P X hf
  obtain ⟨sc, k, rfl, hl, hP⟩ := hf
  refine ⟨rfl, ?_⟩
  unfold t__law_mix
  refine ws_seq (ws_set (by decide) (wd_op (wd_op (wd_call0 (wa_cons (wd_var rfl (by decide) (wa_cons (wd_var rfl (by decide) (wa_nil ⟨sc, k, rfl, hl, fun z => ⟨_, rfl, ?_⟩⟩))))) cell_mono))))
  refine wd_op (wd_int (wd_op (wd_var rfl (by decide) (wd_int (o_addI (o_mulI (.inl ⟨by decide, by decide⟩) (o_addI (wd_int (o_Ii (by decide) ?_)))))))))
  refine ws_seq (ws_set (by decide) (wd_op (wd_op (wd_var rfl (by decide) (wd_int (o_Ii ?_ (wd_int (o_Ii (by decide) ?_))))))))
  · refine ⟨by decide, by decide, ?_⟩
    have h1 := Int.emod_nonneg (z + 104729 * (k + 1)) (show (4294967291 : Int) ≠ 0 by decide)
    have h2 := Int.emod_lt_of_pos (z + 104729 * (k + 1)) (show (0 : Int) < 4294967291 by decide)
    omega
  generalize hn : ((z + 104729 * (k + 1)) % 4294967291) ^ (5 : Int).toNat % 4294967279 = n2
  have h1 : 0 ≤ n2 := by rw [← hn]; exact Int.emod_nonneg _ (by decide)
  have h2 : n2 < 4294967279 := by rw [← hn]; exact Int.emod_lt_of_pos _ (by decide)
  refine ws_ret (wd_op (wd_op (wd_op (wd_op (wd_var rfl (by decide) (wd_int (o_Ii ⟨by decide, by decide⟩ (wd_int (o_mulI (.inr ⟨by decide, by decide⟩) (wd_var rfl (by decide) (o_addI (wd_int (o_Ii (by decide) ?_)))))))))))))
  exact ⟨_, .fz (.fz .nil), hP _⟩
/-- the next draw: something below many; the town grows -/
def fs__law_draw (K : PySem.W.Frag) : FS := fun ms P X => ∃ sc t n m, ms = [scr sc, .ot t (zeros n), .fz (.int m)] ∧ sc.length ≤ 63 ∧ n < 90000 ∧ 0 < m ∧ ∀ z, 0 ≤ z → z < m → P (.fz (.int z)) [scr sc, .ot t (zeros (n + 1)), .fz (.int m)]
/-- _law_draw: slots 0 script, 1 town, 2 many -/
def t__law_draw (K : PySem.W.Frag) : WX → TS := fun W => (tSeq (tDrop (tBM K "list" rAppend (tVar 1) (tCons (tC (.int 0)) tNil))) (tRet (tOp (rI (fun _ j => 0 < j) fun i j => .int (i % j)) (tOp (rI CDiv fun i j => .int (i / j)) (tCallS (SpM K (fs__law_mix K)) (WE W) (tCons (tVar 0) (tCons (tCB (rLenA K) (tCons (tVar 1) tNil)) tNil))) (tC (.int 8))) (tVar 2))))
theorem zeros_succ (n : Nat) : T.lst ((List.replicate n (D.int 0)).map .lf ++ [.lf (.int 0)]) = zeros (n + 1) := by
  unfold zeros
  rw [List.replicate_succ', List.map_append]
  rfl
theorem mix_mono {K : PySem.W.Frag} (a : List MV) (Q Q' : MV → List MV → Prop) (Y Y' : XP) (h : ∀ m b, Q m b → Q' m b) (_ : ∀ c b, Y c b → Y' c b) (f : fs__law_mix K a Q Y) : fs__law_mix K a Q' Y' := by
  obtain ⟨sc, k, rfl, hl, hP⟩ := f
  exact ⟨sc, k, rfl, hl, fun z => h _ _ (hP z)⟩
theorem h__law_draw {K : PySem.W.Frag} : FsOk K 3 3 (fs__law_draw K) (t__law_draw K) := by
  intro ms P X hf
  obtain ⟨sc, t, n, m, rfl, hl, hn, hm, hP⟩ := hf
  refine ⟨rfl, ?_⟩
  unfold t__law_draw
  refine ws_seq (ws_append (by decide) rfl (wd_int ⟨_, rfl, by simp; omega, ?_⟩))
  rw [zeros_succ]
  refine ws_ret (wd_op (wd_op (wd_call0 (wa_cons (wd_var rfl (by decide) (wa_cons (wd_view (wd_cb (wa_cons (wd_var rfl (by decide) (wa_nil (c_len (m := n + 1) ?_ (by omega) ⟨rfl, ?_⟩)))))) ))) mix_mono)))
  · show lenD (T.toD (zeros (n + 1))) = _
    unfold zeros
    rw [toD_lst]
    simp [lenD]
  refine wa_nil ⟨sc, _, rfl, hl, fun z => ⟨_, rfl, ?_⟩⟩
  refine wd_int (o_Ii ⟨by decide, by decide⟩ (wd_var rfl (by decide) (o_Ii hm ?_)))
  exact ⟨_, .fz (.ot (.fz .nil)), hP _ (Int.emod_nonneg _ (by omega)) (Int.emod_lt_of_pos _ hm)⟩
/-- one of some -/
def fs__law_pick (K : PySem.W.Frag) : FS := fun ms P X => ∃ sc t n ds, ms = [scr sc, .ot t (zeros n), .fz (.lst ds)] ∧ sc.length ≤ 63 ∧ n < 90000 ∧ 0 < ds.length ∧ ds.length ≤ 1000 ∧ ∀ d, d ∈ ds → P (.fz d) [scr sc, .ot t (zeros (n + 1)), .fz (.lst ds)]
/-- _law_pick: slots 0 script, 1 town, 2 some -/
def t__law_pick (K : PySem.W.Frag) : WX → TS := fun W => (tRet (tOp (rIxA K) (tVar 2) (tCallS (SpM K (fs__law_draw K)) (WE W) (tCons (tVar 0) (tCons (tVar 1) (tCons (tCB (rLenA K) (tCons (tVar 2) tNil)) tNil))))))
theorem h__law_pick {K : PySem.W.Frag} : FsOk K 3 3 (fs__law_pick K) (t__law_pick K) := by
  intro ms P X hf
  obtain ⟨sc, t, n, ds, rfl, hl, hn, hm, hm2, hP⟩ := hf
  refine ⟨rfl, ?_⟩
  unfold t__law_pick
  refine ws_ret (wd_op (wd_var rfl (by decide) (wd_call [(1, 1)] (wa_cons (wd_var rfl (by decide) (wa_cons (wd_varO rfl (by decide) (wa_cons (wd_cb (wa_cons (wd_var rfl (by decide) (wa_nil (c_len rfl (by omega) ?_)))))))))))))
  refine wa_nil ⟨_, _, .cons rfl rfl .nil, sc, t, n, _, rfl, hl, hn, by omega, fun z h0 h1 => ⟨_, _, .cons rfl rfl .nil, _, rfl, ?_⟩⟩
  have hz : z.toNat < ds.length := by omega
  refine o_ixL (d := ds[z.toNat]) ?_ ⟨_, .fz (.ot (.fz .nil)), hP _ (List.getElem_mem hz)⟩
  unfold L2.atI ixN
  rw [if_pos h0, if_pos h1]
  simp [hz]
end M
namespace M
open PySem PySem.Spec PyProof.Rows L2
/-! ### texts as lists of signs -/
def isW (c : Nat) : Bool := (97 ≤ c && c ≤ 122) || (48 ≤ c && c ≤ 57)
/-- a sign that may stand in a text -/
def okc (c : Nat) : Bool := 32 ≤ c && c < 127 && c != 37
def S (l : List Nat) : PySem.Str := ⟨l.toArray⟩
theorem S_cps (x : PySem.Str) : S x.cps.toList = x := by cases x; simp [S]
/-- what is a text -/
def isTextB (x : PySem.Str) : Bool := decide (x.length ≤ 60) && x.cps.toList.all okc
/-- look_text: refuses what is no text -/
def fs_look_text (K : PySem.W.Frag) : FS := fun ms P X => ∃ x, ms = [.fz (.str x)] ∧ x.length ≤ 1000 ∧ (isTextB x = true → P (.fz .non) ms) ∧ (isTextB x = false → X (.ref (He.ga K "BadText")) ms)
/-- look_text: slots 0 text, 1 sign -/
def t_look_text (K : PySem.W.Frag) : WX → TS := fun W => (tIfS (tOr (tTest (tOp (rI0 fun i j => .bl (decide (j < i))) (tCB (rLenA K) (tCons (tVar 0) tNil)) (tC (.int 60)))) (tNot (tB (tCB (rAll K) (tCons (tLcW (iStr (tVar 0)) (gName 1) (fun W => tYes) (fun W => (tAndV (tChain (rI0 fun i j => .bl (decide (i ≤ j))) (rI0 fun i j => .bl (decide (i < j))) (tC (.int 32)) (tCB rOrd (tCons (tVar 1) tNil)) (tC (.int 127))) (tOp (rNeA K) (tCB rOrd (tCons (tVar 1) tNil)) (tC (.int 37))))) [1]) tNil))))) (fun _ σ H => W (.ref (He.ga K "BadText")) none σ H) tNext)
theorem h_look_text {K : PySem.W.Frag} : FsOk K 1 2 (fs_look_text K) (t_look_text K) := by
  intro ms P X hf
  obtain ⟨x, rfl, hl, hP, hX⟩ := hf
  refine ⟨rfl, ?_⟩
  unfold t_look_text
  refine ws_if (wt_or (wt_test (wd_op (wd_cb (wa_cons (wd_var rfl (by decide) (wa_nil (c_len rfl (by omega) (wd_int (o_I0b ⟨_, rfl, ?_⟩)))))))))) 
  by_cases h60 : x.length ≤ 60
  · rw [if_neg (by simp; omega)]
    refine wt_not (wt_B (wd_cb (wa_cons (wd_lc (by simp) (gok_name (by simp)) (wi_str (wd_var rfl (by decide) ⟨x, rfl, ?_⟩))))))
    refine ⟨by simp [sgnD]; unfold Str.length at hl; omega, fun i acc m => acc = ((x.cps.toList.take i).map fun c => D.bl (okc c)) ∧ m = [.fz (.str x), .un], ⟨rfl, rfl⟩, ?_, ?_⟩
    · rintro i d acc m hd ⟨rfl, rfl⟩
      obtain ⟨c, hc, rfl⟩ : ∃ c, x.cps.toList[i]? = some c ∧ d = .str ⟨#[c]⟩ := by
        unfold sgnD at hd
        rw [List.getElem?_map] at hd
        cases q : x.cps.toList[i]? with
        | none => rw [q] at hd; cases hd
        | some c => rw [q] at hd; exact ⟨c, rfl, (Option.some.inj hd).symm⟩
      refine wg_name (by decide) ?_
      refine wt_yes ?_
      rw [if_pos rfl]
      have hnext : ((x.cps.toList.take (i + 1)).map fun c => D.bl (okc c)) = ((x.cps.toList.take i).map fun c => D.bl (okc c)) ++ [D.bl (okc c)] := by
        rw [List.take_add_one, hc]
        simp
      refine wd_andV (wd_chain (wd_int (wd_cb (wa_cons (wd_var rfl (by decide) (wa_nil (c_ord (o_I0b ⟨_, rfl, ?_⟩))))))))
      by_cases h1 : 32 ≤ c
      · rw [if_pos (by simp; omega)]
        refine wd_int (o_I0b ⟨_, rfl, ?_⟩)
        by_cases h2 : c < 127
        · rw [if_pos (by simp; omega)]
          refine wd_op (wd_cb (wa_cons (wd_var rfl (by decide) (wa_nil (c_ord (wd_int (o_neI ⟨?_, rfl⟩)))))))
          rw [hnext]
          congr 3
          unfold okc
          by_cases h3 : c = 37
          · subst h3; decide
          · have : ¬ ((c : Int) = 37) := by omega
            simp [h1, h2, h3, this]
        · rw [if_neg (by simp; omega)]
          refine ⟨?_, rfl⟩
          rw [hnext]
          congr 3
          unfold okc
          simp [h2]
      · rw [if_neg (by simp; omega)]
        refine ⟨_, rfl, ?_⟩
        rw [if_neg (by simp)]
        refine ⟨?_, rfl⟩
        rw [hnext]
        congr 3
        unfold okc
        simp [h1]
    · rintro acc m ⟨rfl, rfl⟩
      have e : ((x.cps.toList.take (sgnD x).length).map fun c => D.bl (okc c)) = (x.cps.toList.map okc).map .bl := by
        rw [List.take_of_length_le (by simp [sgnD]), List.map_map]
        rfl
      rw [e]
      refine wa_nil (c_all ⟨_, rfl, ?_⟩)
      have e2 : (x.cps.toList.map okc).all id = x.cps.toList.all okc := by simp [List.all_map]
      rw [e2]
      cases q : x.cps.toList.all okc with
      | true =>
        rw [if_neg (by simp)]
        exact ws_next ⟨_, .fz .nil, hP (by simp [isTextB, h60, q])⟩
      | false =>
        rw [if_pos (by simp)]
        exact ws_raise ⟨_, .fz .nil, hX (by simp [isTextB, q])⟩
  · rw [if_pos (by simp; omega), if_pos rfl]
    exact ws_raise ⟨_, .fz .nil, hX (by simp [isTextB, h60])⟩
end M
namespace M
open PySem PySem.Spec PyProof.Rows L2
/-! ### the words of a text -/
def wstep (s : List (List Nat) × List Nat) (c : Nat) : List (List Nat) × List Nat := if isW c = true then (s.1, s.2 ++ [c]) else if s.2 = [] then s else (s.1 ++ [s.2], [])
def wstate (l : List Nat) : List (List Nat) × List Nat := l.foldl wstep ([], [])
def wordsL (l : List Nat) : List (List Nat) := ((wstate l).1 ++ [(wstate l).2]).filter fun w => decide (w ≠ [])
def lowL (x : PySem.Str) : List Nat := x.cps.toList.map lo1
def wordsOf (x : PySem.Str) : List PySem.Str := (wordsL (lowL x)).map S
def strsD (l : List PySem.Str) : D := .lst (l.map .str)
theorem letters_in : ∀ c : Fin 128, (!(Builtin.Str.occurrences (PySem.Str.ofString "abcdefghijklmnopqrstuvwxyz0123456789") ⟨#[c.val]⟩ 0 (PySem.Str.ofString "abcdefghijklmnopqrstuvwxyz0123456789").length 1).isEmpty) = isW c.val := by decide +kernel
theorem wstate_snoc (l : List Nat) (c : Nat) : wstate (l ++ [c]) = wstep (wstate l) c := by simp [wstate, List.foldl_append]
theorem S_append (a b : List Nat) : S a ++ S b = S (a ++ b) := by
  show Str.append _ _ = _
  simp [S, Str.append]
theorem S_len (a : List Nat) : (S a).length = a.length := by simp [S, Str.length]
theorem S_inj {a b : List Nat} (h : S a = S b) : a = b := by
  have := congrArg (fun x : PySem.Str => x.cps.toList) h
  simpa [S] using this
theorem wfold_len : ∀ (l : List Nat) (s : List (List Nat) × List Nat), (l.foldl wstep s).1.length ≤ s.1.length + l.length ∧ (l.foldl wstep s).2.length ≤ s.2.length + l.length
  | [], s => ⟨Nat.le_refl _, Nat.le_refl _⟩
  | c :: l, s => by
    have ih := wfold_len l (wstep s c)
    have h : (wstep s c).1.length ≤ s.1.length + 1 ∧ (wstep s c).2.length ≤ s.2.length + 1 := by
      unfold wstep
      split
      · simp
      · split
        · omega
        · simp
    simp only [List.foldl_cons, List.length_cons]
    omega
theorem wstate_len (l : List Nat) : (wstate l).1.length ≤ l.length ∧ (wstate l).2.length ≤ l.length := by
  have := wfold_len l ([], [])
  simpa [wstate] using this
theorem lo1_lt {c : Nat} (h : okc c = true) : lo1 c < 128 := by
  unfold okc at h
  simp at h
  unfold lo1
  split <;> omega
def fs_words_of (K : PySem.W.Frag) : FS := fun ms P X => ∃ x, ms = [.fz (.str x)] ∧ x.length ≤ 1000 ∧ (isTextB x = true → P (.fz (strsD (wordsOf x))) ms) ∧ (isTextB x = false → X (.ref (He.ga K "BadText")) ms)
/-- words_of: slots 0 text, 1 found, 2 sign, 3 word -/
def t_words_of (K : PySem.W.Frag) : WX → TS := fun W => (tSeq (tDrop (tCallS (SpM K (fs_look_text K)) (WE W) (tCons (tVar 0) tNil))) (tSeq (tAsg (tLst (tCons (tC (.str "")) tNil)) (gName 1)) (tSeq (tFor (iStr (tM0 rLower (tVar 0))) (gName 2) (tIfS (tTest (tOp (rInA K) (tVar 2) (tC (.str "abcdefghijklmnopqrstuvwxyz0123456789")))) (tAsg (tOp (rAddA K) (tOp (rIxA K) (tVar 1) (tUn (rU fun i => .int (-i)) (tC (.int 1)))) (tVar 2)) (gSub (tVar 1) (tUn (rU fun i => .int (-i)) (tC (.int 1))) rSetL)) (tIfS (tTest (tOp (rNeA K) (tOp (rIxA K) (tVar 1) (tUn (rU fun i => .int (-i)) (tC (.int 1)))) (tC (.str "")))) (tDrop (tBM K "list" rAppend (tVar 1) (tCons (tC (.str "")) tNil))) tNext))) (tRet (tLcW (iList K (tVar 1)) (gName 3) (fun W => (tTest (tOp (rNeA K) (tVar 3) (tC (.str ""))))) (fun W => (tVar 3)) [3])))))
abbrev foundT (p : Addr) (s : List (List Nat) × List Nat) : MV := .ot p (.lst (((s.1 ++ [s.2]).map fun w => D.str (S w)).map .lf))
theorem atI_last {α : Type} (l : List α) (x : α) : L2.atI (l ++ [x]) (-1) = some x := by
  unfold L2.atI ixN
  rw [if_neg (by decide), if_pos (by simp; omega)]
  have : (-1 + ((l ++ [x]).length : Int)).toNat = l.length := by simp; omega
  rw [this]
  simp
theorem ixN_last {n : Nat} (h : 0 < n) : ixN n (-1) = some (n - 1) := by
  unfold ixN
  rw [if_neg (by decide), if_pos (by omega)]
  congr 1
  omega
theorem h_words_of {K : PySem.W.Frag} : FsOk K 1 4 (fs_words_of K) (t_words_of K) := by
  intro ms P X hf
  obtain ⟨x, rfl, hl, hP, hX⟩ := hf
  refine ⟨rfl, ?_⟩
  unfold t_words_of
  refine ws_seq (ws_drop (wd_call [] (wa_cons (wd_var rfl (by decide) (wa_nil ⟨_, _, .nil, x, rfl, hl, fun ht => ⟨_, _, .nil, _, rfl, ?_⟩, fun ht => ⟨_, _, .nil, _, .fz .nil, hX ht⟩⟩)))))
  have ht2 : x.length ≤ 60 ∧ ∀ c ∈ x.cps.toList, okc c = true := by
    unfold isTextB at ht
    rw [Bool.and_eq_true, decide_eq_true_eq, List.all_eq_true] at ht
    exact ht
  have hlow : Txt.lower x = S (lowL x) := by
    rw [lower_ascii fun c hc => by have := ht2.2 c hc; unfold okc at this; simp at this; omega]
    unfold lowL S
    congr 1
    apply Array.ext'
    simp
  refine ws_seq (ws_setN (by decide) (wn_lst (wa_cons (wd_str (wa_nil ⟨by decide, fun p => ?_⟩)))))
  refine ws_seq (ws_for (wi_str (wd_m0 (wd_var rfl (by decide) ⟨x, rfl, b_lower (by omega) ⟨_, rfl, ?_⟩⟩))))
  rw [hlow]
  have e1 : sgnD (S (lowL x)) = (lowL x).map fun c => D.str (S [c]) := by simp [sgnD, S]
  rw [e1]
  refine ⟨fun i m => ∃ z, m = [.fz (.str x), foundT p (wstate ((lowL x).take i)), z, .un], ⟨.un, rfl⟩, ?_, ?_⟩
  · rintro i d m hd ⟨z, rfl⟩
    obtain ⟨c, hc, rfl⟩ : ∃ c, (lowL x)[i]? = some c ∧ d = .str (S [c]) := by
      rw [List.getElem?_map] at hd
      cases q : (lowL x)[i]? with
      | none => rw [q] at hd; cases hd
      | some c => rw [q] at hd; exact ⟨c, rfl, (Option.some.inj hd).symm⟩
    have hc128 : c < 128 := by
      obtain ⟨c0, h0, rfl⟩ := List.mem_map.mp (List.mem_of_getElem? hc)
      exact lo1_lt (ht2.2 c0 h0)
    have hst : wstate ((lowL x).take (i + 1)) = wstep (wstate ((lowL x).take i)) c := by
      rw [List.take_add_one, hc]
      exact wstate_snoc _ _
    have hlen := wstate_len ((lowL x).take i)
    have hll : ((lowL x).take i).length ≤ 60 := by
      have : (lowL x).length ≤ 60 := by simpa [lowL, Str.length] using ht2.1
      rw [List.length_take]; omega
    generalize wstate ((lowL x).take i) = s at *
    obtain ⟨s1, s2⟩ := s
    dsimp only at hlen
    have hat : L2.atI ((s1 ++ [s2]).map fun w => D.str (S w)) (-1) = some (.str (S s2)) := by
      rw [List.map_append]
      exact atI_last _ _
    refine wg_name (by decide) ?_
    refine ws_if (wt_test (wd_op (wd_var rfl (by decide) (wd_str (o_inS ⟨_, rfl, ?_⟩)))))
    have hin : (!(Builtin.Str.occurrences (PySem.Str.ofString "abcdefghijklmnopqrstuvwxyz0123456789") (S [c]) 0 (PySem.Str.ofString "abcdefghijklmnopqrstuvwxyz0123456789").length 1).isEmpty) = isW c := letters_in ⟨c, hc128⟩
    rw [hin]
    cases hw : isW c with
    | true =>
      rw [if_pos rfl]
      refine ws_setL (p := p) (by decide) (wd_op (wd_view (wd_op (wd_var rfl (by decide) (wd_un (wd_int ?_))))))
      refine un_negI ?_
      rw [toD_lst]
      refine o_ixL hat ⟨rfl, wd_var rfl (by decide) (o_addS (by rw [S_len, S_len]; simp; omega) ⟨⟨_, rfl⟩, wd_un (wd_int (un_negI ⟨_, _, _, rfl, rfl, ixN_last (by simp), ?_⟩))⟩)⟩
      refine ⟨.fz (.str (S [c])), ?_⟩
      rw [hst]
      simp only [wstep, hw, if_true]
      simp only [foundT, S_append]
      congr 2
      simp
    | false =>
      rw [if_neg (by simp)]
      refine ws_if (wt_view (wt_test (wd_op (wd_op (wd_var rfl (by decide) (wd_un (wd_int (un_negI ?_)))) ))))
      rw [toD_lst]
      refine o_ixL hat (wd_str (o_neS ⟨_, rfl, ?_⟩))
      have hemp : (decide (S s2 = PySem.Str.ofString "")) = decide (s2 = []) := by
        apply decide_eq_decide.mpr
        constructor
        · intro h; exact S_inj (b := []) h
        · intro h; rw [h]; rfl
      rw [hemp]
      by_cases h2 : s2 = []
      · rw [if_neg (by simp [h2])]
        refine ws_next ⟨.fz (.str (S [c])), ?_⟩
        rw [hst]
        simp [wstep, hw, h2]
      · rw [if_pos (by simp [h2])]
        refine ws_append (by decide) rfl (wd_str ⟨_, rfl, by simp; omega, .fz (.str (S [c])), ?_⟩)
        rw [hst]
        simp only [wstep, hw, h2, if_false]
        simp [foundT, S]
        rfl
  · rintro m ⟨z, rfl⟩
    have e2 : (lowL x).take ((lowL x).map fun c => D.str (S [c])).length = lowL x := by simp
    rw [e2]
    refine ws_freeze 1 rfl (ws_ret (wd_lcMap (by decide) (gok_name (by decide)) (wi_list (wd_var rfl (by decide) ⟨_, toD_lst _, ?_⟩))))
    have hl60 : (lowL x).length ≤ 60 := by simpa [lowL, Str.length] using ht2.1
    have hlen := wstate_len (lowL x)
    refine ⟨by simp; omega, fun d => match d with | .str y => decide (y ≠ S []) | _ => false, id, fun d hd => ?_, ?_⟩
    · obtain ⟨w, _, rfl⟩ := List.mem_map.mp hd
      refine wg_name (by decide) (wt_test (wd_op (wd_var rfl (by decide) (wd_str (o_neS ⟨_, rfl, ?_⟩)))))
      refine ⟨?_, rfl, fun _ => wd_var rfl (by decide) ⟨rfl, rfl⟩⟩
      simp only [decide_not]
      rfl
    · refine ⟨_, .fz .nil, ?_⟩
      have e3 : (List.map id (List.filter (fun d : D => match d with | .str y => decide (y ≠ S []) | _ => false) (((wstate (lowL x)).1 ++ [(wstate (lowL x)).2]).map fun w => D.str (S w)))) = (wordsOf x).map .str := by
        unfold wordsOf wordsL
        rw [List.map_id, List.filter_map, List.map_map]
        congr 1
        apply List.filter_congr
        intro w _
        show decide (S w ≠ S []) = decide (w ≠ [])
        apply decide_eq_decide.mpr
        constructor
        · intro h q; exact h (by rw [q])
        · intro h q; exact h (S_inj q)
      rw [e3]
      exact hP ht
end M
namespace M
open PySem PySem.Spec PyProof.Rows L2
/-! ### words turned -/
def turnsL : List (PySem.Str × PySem.Str) := [("i", "you"), ("me", "you"), ("my", "your"), ("mine", "yours"), ("am", "are"), ("you", "i"), ("your", "my"), ("yours", "mine")]
def turnW (w : PySem.Str) : PySem.Str := ((turnsL.find? fun q => decide (q.1 = w)).map (·.2)).getD w
def fs_turned (K : PySem.W.Frag) : FS := fun ms P X => ∃ ws : List PySem.Str, ms = [.fz (strsD ws)] ∧ ws.length ≤ 1000 ∧ P (.fz (strsD (ws.map turnW))) ms
/-- turned: slots 0 words, 1 table, 2 word -/
def t_turned (K : PySem.W.Frag) : WX → TS := fun W => (tSeq (tAsg (tCB (rDictT K) (tCons (tC (.ref (He.ga K "TURNS"))) tNil)) (gName 1)) (tRet (tLcW (iList K (tVar 0)) (gName 2) (fun W => tYes) (fun W => (tDGet2 (tVar 1) (tVar 2) (tVar 2))) [2])))
theorem turns_merge : mergeK [] (turnsL.map fun q => (Sum.inr q.1, V.str q.2)) = turnsL.map fun q => (Sum.inr q.1, V.str q.2) := by decide +kernel
theorem valD_turns (w : PySem.Str) : ∀ l : List (PySem.Str × PySem.Str), (valD (l.map fun q => (Sum.inr q.1, D.str q.2)) (Sum.inr w)).getD (.str w) = .str (((l.find? fun q => decide (q.1 = w)).map (·.2)).getD w)
  | [] => rfl
  | q :: l => by
    by_cases h : q.1 = w
    · simp [valD, List.find?_cons, h]
    · have h' : ¬ ((Sum.inr q.1 : Key) = Sum.inr w) := fun z => h (Sum.inr.inj z)
      have ih := valD_turns w l
      simpa [valD, List.find?_cons, h, h'] using ih
theorem h_turned {K : PySem.W.Frag} (kp : KPairs K (He.ga K "TURNS") turnsL) : FsOk K 1 3 (fs_turned K) (t_turned K) := by
  intro ms P X hf
  obtain ⟨ws, rfl, hl, hP⟩ := hf
  refine ⟨rfl, ?_⟩
  unfold t_turned
  refine ws_seq (ws_set (by decide) (wd_cb (wa_cons (wd_c (fun _ => .raw _) (wa_nil (c_dictT kp turns_merge ?_))))))
  refine ws_ret (wd_lcMap (by decide) (gok_name (by decide)) (wi_list (wd_var rfl (by decide) ⟨_, rfl, ?_⟩)))
  refine ⟨by simp; omega, fun _ => true, fun d => match d with | .str w => .str (turnW w) | d => d, fun d hd => ?_, ?_⟩
  · obtain ⟨w, _, rfl⟩ := List.mem_map.mp hd
    refine wg_name (by decide) (wt_yes ⟨rfl, rfl, fun _ => wd_dget2 (wd_var rfl (by decide) ⟨_, rfl, wd_var rfl (by decide) ⟨_, rfl, wd_var rfl (by decide) ⟨?_, rfl⟩⟩⟩)⟩)
    exact valD_turns w turnsL
  · refine ⟨_, .fz .nil, ?_⟩
    have e : (List.map (fun d : D => match d with | .str w => D.str (turnW w) | d => d) (List.filter (fun _ => true) (ws.map .str))) = (ws.map turnW).map .str := by
      rw [List.filter_eq_self.mpr (by simp), List.map_map, List.map_map]
      rfl
    rw [e]
    exact hP
theorem atI_zero {α : Type} (x : α) (l : List α) : L2.atI (x :: l) 0 = some x := by
  unfold L2.atI ixN
  rw [if_pos (by decide), if_pos (by simp)]
  rfl
/-- the law's own turning -/
def fs__law_turned (K : PySem.W.Frag) : FS := fs_turned K
/-- _law_turned: slots 0 words, 1 pairs, 2 found, 3 word, 4 spots, 5 k -/
def t__law_turned (K : PySem.W.Frag) : WX → TS := fun W => (tSeq (tAsg (tM1 rSplit (tC (.str "i you me you my your mine yours am are you i your my yours mine")) (tC (.str " "))) (gName 1)) (tSeq (tAsg (tLst tNil) (gName 2)) (tSeq (tFor (iList K (tVar 0)) (gName 3) (tSeq (tAsg (tLcW (iRng3 (tCons (tC (.int 0)) (tCons (tCB (rLenA K) (tCons (tVar 1) tNil)) (tCons (tC (.int 2)) tNil)))) (gName 5) (fun W => (tTest (tOp (rEqA K) (tOp (rIxA K) (tVar 1) (tVar 5)) (tVar 3)))) (fun W => (tVar 5)) [5]) (gName 4)) (tDrop (tBM K "list" rAppend (tVar 2) (tCons (tIf (tTest (tOp (rNeA K) (tVar 4) (tLst tNil))) (tOp (rIxA K) (tVar 1) (tOp (rAddA K) (tOp (rIxA K) (tVar 4) (tC (.int 0))) (tC (.int 1)))) (tVar 3)) tNil))))) (tRet (tVar 2)))))
def pairsL : List PySem.Str := ["i", "you", "me", "you", "my", "your", "mine", "yours", "am", "are", "you", "i", "your", "my", "yours", "mine"]
theorem pairs_split : Txt.split "i you me you my your mine yours am are you i your my yours mine" " " = pairsL := by decide +kernel
/-- the places of a word among the firsts -/
def spotsOf (w : PySem.Str) : List Nat := (List.range 8).filter fun k => decide ((pairsL.getD (2 * k) "") = w)
theorem spots_turn (w : PySem.Str) : turnW w = match spotsOf w with | [] => w | k :: _ => pairsL.getD (2 * k + 1) "" := by
  unfold turnW spotsOf turnsL
  show _ = match (List.filter (fun k => decide (pairsL.getD (2 * k) "" = w)) [0, 1, 2, 3, 4, 5, 6, 7]) with | [] => w | k :: _ => pairsL.getD (2 * k + 1) ""
  simp only [List.find?_cons, List.filter_cons]
  have g0 : pairsL.getD (2 * 0) "" = "i" := rfl
  have g1 : pairsL.getD (2 * 1) "" = "me" := rfl
  have g2 : pairsL.getD (2 * 2) "" = "my" := rfl
  have g3 : pairsL.getD (2 * 3) "" = "mine" := rfl
  have g4 : pairsL.getD (2 * 4) "" = "am" := rfl
  have g5 : pairsL.getD (2 * 5) "" = "you" := rfl
  have g6 : pairsL.getD (2 * 6) "" = "your" := rfl
  have g7 : pairsL.getD (2 * 7) "" = "yours" := rfl
  rw [g0, g1, g2, g3, g4, g5, g6, g7]
  by_cases h0 : PySem.Str.ofString "i" = w
  · simp [h0]; rfl
  by_cases h1 : PySem.Str.ofString "me" = w
  · simp [h0, h1]; rfl
  by_cases h2 : PySem.Str.ofString "my" = w
  · simp [h0, h1, h2]; rfl
  by_cases h3 : PySem.Str.ofString "mine" = w
  · simp [h0, h1, h2, h3]; rfl
  by_cases h4 : PySem.Str.ofString "am" = w
  · simp [h0, h1, h2, h3, h4]; rfl
  by_cases h5 : PySem.Str.ofString "you" = w
  · simp [h0, h1, h2, h3, h4, h5]; rfl
  by_cases h6 : PySem.Str.ofString "your" = w
  · simp [h0, h1, h2, h3, h4, h5, h6]; rfl
  by_cases h7 : PySem.Str.ofString "yours" = w
  · simp [h0, h1, h2, h3, h4, h5, h6, h7]; rfl
  simp [h0, h1, h2, h3, h4, h5, h6, h7]
theorem rgc16 : RgC 0 16 2 8 := ⟨by decide, by decide, by decide +kernel, by decide +kernel⟩
theorem eqv_nil (ds : List D) : PyData.eqv (D.lst ds).py (D.lst []).py = ds.isEmpty := by
  cases ds <;> simp [D.py, pys, PyData.eqv, PyData.eqvAll]
theorem intsD_sh (l : List Int) : (D.lst (l.map .int)).sh = true := by
  have h1 : ∀ l : List Int, PyData.canLayAll0 (pys (l.map .int)) = true := by
    intro l
    induction l with
    | nil => simp [pys, PyData.canLayAll0]
    | cons a l ih => simp [pys, D.py, PyData.canLayAll0, PyData.canLay0, ih]
  have h2 : ∀ l : List Int, PyData.depthAll (pys (l.map .int)) = 0 := by
    intro l
    induction l with
    | nil => simp [pys, PyData.depthAll]
    | cons a l ih => simp [pys, D.py, PyData.depthAll, PyData.depth, ih]
  unfold D.sh SeqAt.shaped
  simp [D.py, PyData.canLay0, PyData.depth, h1, h2]
theorem h__law_turned {K : PySem.W.Frag} : FsOk K 1 6 (fs__law_turned K) (t__law_turned K) := by
  intro ms P X hf
  obtain ⟨ws, rfl, hl, hP⟩ := hf
  refine ⟨rfl, ?_⟩
  unfold t__law_turned
  refine ws_seq (ws_set (by decide) (wd_m1 (wd_str ⟨_, rfl, wd_str (b_split (by decide +kernel) (by decide +kernel) ?_)⟩)))
  rw [pairs_split]
  refine ws_seq (ws_setN (by decide) (wn_lst (wa_nil ⟨by decide, fun p => ?_⟩)))
  refine ws_seq (ws_for (wi_list (wd_var rfl (by decide) ⟨_, rfl, ?_⟩)))
  refine ⟨fun i m => ∃ z z2, m = [.fz (strsD ws), .fz (strsD pairsL), .ot p (.lst ((((ws.take i).map turnW).map D.str).map .lf)), z, z2, .un], ⟨.un, .un, rfl⟩, ?_, ?_⟩
  · rintro i d m hd ⟨z, z2, rfl⟩
    obtain ⟨w, hw, rfl⟩ : ∃ w, ws[i]? = some w ∧ d = .str w := by
      rw [List.getElem?_map] at hd
      cases q : ws[i]? with
      | none => rw [q] at hd; cases hd
      | some c => rw [q] at hd; exact ⟨c, rfl, (Option.some.inj hd).symm⟩
    refine wg_name (by decide) (ws_seq (ws_set (by decide) (wd_lcMap (by decide) (gok_name (by decide)) (wi_rng3 (wa_cons (wd_int (wa_cons (wd_cb (wa_cons (wd_var rfl (by decide) (wa_nil (c_len rfl (by decide) (wa_cons (wd_int (wa_nil ⟨0, 16, 2, 8, rfl, rgc16, ?_⟩)))))))))))))))
    refine ⟨by decide, fun d => match d with | .int k => decide (pairsL.getD k.toNat "" = w) | _ => false, id, fun d hd => ?_, ?_⟩
    · obtain ⟨k, hk, rfl⟩ := List.mem_map.mp hd
      have hk8 : k < 8 := List.mem_range.mp hk
      refine wg_name (by decide) (wt_test (wd_op (wd_op (wd_var rfl (by decide) (wd_var rfl (by decide) (o_ixL (d := .str (pairsL.getD (0 + (k : Int) * 2).toNat "")) ?_ (wd_var rfl (by decide) (o_eqS ⟨_, rfl, rfl, rfl, fun _ => wd_var rfl (by decide) ⟨rfl, rfl⟩⟩))))))))
      have : ∀ k : Fin 8, L2.atI (pairsL.map D.str) (0 + (k.val : Int) * 2) = some (.str (pairsL.getD (0 + (k.val : Int) * 2).toNat "")) := by
        intro k
        match k with
        | ⟨0, _⟩ => rfl
        | ⟨1, _⟩ => rfl
        | ⟨2, _⟩ => rfl
        | ⟨3, _⟩ => rfl
        | ⟨4, _⟩ => rfl
        | ⟨5, _⟩ => rfl
        | ⟨6, _⟩ => rfl
        | ⟨7, _⟩ => rfl
      exact this ⟨k, hk8⟩
    · have e : (List.map id (List.filter (fun d : D => match d with | .int k => decide (pairsL.getD k.toNat "" = w) | _ => false) (rngC 0 2 8))) = (((spotsOf w).map fun k : Nat => (0 + (k : Int) * 2))).map .int := by
        unfold rngC spotsOf
        rw [List.map_id, List.filter_map, List.map_map]
        congr 1
      rw [e]
      refine ws_append (by decide) rfl (wd_if (wt_test (wd_op (wd_var rfl (by decide) (wd_lst (wa_nil ⟨by decide, o_neD (intsD_sh _) (intsD_sh []) ⟨_, rfl, ?_⟩⟩))))))
      rw [eqv_nil]
      have fin : ∀ y, y = turnW w → ∃ ts1, ([MV.fz (strsD ws), .fz (strsD pairsL), .ot p (.lst ((((ws.take i).map turnW).map D.str).map .lf)), .fz (.str w), .fz (.lst (((spotsOf w).map fun k : Nat => (0 + (k : Int) * 2)).map .int)), .un])[2]? = some (.ot p (.lst ts1)) ∧ ts1.length < 1000000 ∧
          ∃ z z2, ([MV.fz (strsD ws), .fz (strsD pairsL), .ot p (.lst ((((ws.take i).map turnW).map D.str).map .lf)), .fz (.str w), .fz (.lst (((spotsOf w).map fun k : Nat => (0 + (k : Int) * 2)).map .int)), .un]).set 2 (.ot p (.lst (ts1 ++ [.lf (.str y)]))) = [.fz (strsD ws), .fz (strsD pairsL), .ot p (.lst ((((ws.take (i + 1)).map turnW).map D.str).map .lf)), z, z2, .un] := by
        rintro y rfl
        refine ⟨_, rfl, by simp; omega, .fz (.str w), .fz (.lst (((spotsOf w).map fun k : Nat => (0 + (k : Int) * 2)).map .int)), ?_⟩
        have : (ws.take (i + 1)) = ws.take i ++ [w] := by rw [List.take_add_one, hw]; rfl
        rw [this]
        simp
      cases hs : spotsOf w with
      | nil =>
        rw [if_neg (by simp)]
        refine wd_var rfl (by decide) ?_
        rw [hs] at fin
        exact fin w (by rw [spots_turn, hs])
      | cons k r =>
        rw [if_pos (by simp)]
        have hk8 : k < 8 := by
          have : k ∈ spotsOf w := by rw [hs]; exact List.mem_cons_self
          exact List.mem_range.mp (List.mem_filter.mp this).1
        refine wd_op (wd_var rfl (by decide) (wd_op (wd_op (wd_var rfl (by decide) (wd_int (o_ixL (d := .int (0 + (k : Int) * 2)) (atI_zero _ _) (wd_int (o_addI (o_ixL (d := .str (pairsL.getD (2 * k + 1) "")) ?_ ?_)))))))))
        · have : ∀ k : Fin 8, L2.atI (pairsL.map D.str) (0 + (k.val : Int) * 2 + 1) = some (.str (pairsL.getD (2 * k.val + 1) "")) := by
            intro k
            match k with
            | ⟨0, _⟩ => rfl
            | ⟨1, _⟩ => rfl
            | ⟨2, _⟩ => rfl
            | ⟨3, _⟩ => rfl
            | ⟨4, _⟩ => rfl
            | ⟨5, _⟩ => rfl
            | ⟨6, _⟩ => rfl
            | ⟨7, _⟩ => rfl
          exact this ⟨k, hk8⟩
        · rw [hs] at fin
          exact fin _ (by rw [spots_turn, hs])
  · rintro m ⟨z, z2, rfl⟩
    refine ws_freeze 2 rfl (ws_ret (wd_var rfl (by decide) ⟨_, .fz .nil, ?_⟩))
    rw [toD_lst]
    simpa [strsD] using hP
end M
namespace M
open PySem PySem.Spec PyProof.Rows L2
/-! ### a text split at one sign -/
def splitL (c : Nat) : List Nat → List (List Nat)
  | [] => [[]]
  | x :: xs => if x = c then [] :: splitL c xs else match splitL c xs with | [] => [[x]] | w :: ws => (x :: w) :: ws
def cutsL (c : Nat) (l : List Nat) : List Nat := (List.range l.length).filter fun i => decide (l[i]? = some c)
def partsL (l : List Nat) (cuts : List Nat) : List (List Nat) := ((0 :: cuts.map (· + 1)).zip (cuts ++ [l.length])).map fun q => (l.take q.2).drop q.1
theorem cutsL_cons (c x : Nat) (l : List Nat) : cutsL c (x :: l) = (if x = c then [0] else []) ++ (cutsL c l).map (· + 1) := by
  unfold cutsL
  rw [List.length_cons, List.range_succ_eq_map, List.filter_cons, List.filter_map]
  have e : (List.filter ((fun i => decide ((x :: l)[i]? = some c)) ∘ Nat.succ) (List.range l.length)) = List.filter (fun i => decide (l[i]? = some c)) (List.range l.length) := by
    apply List.filter_congr
    intro i _
    simp
  rw [e]
  by_cases h : x = c
  · simp [h]
  · simp [h]
theorem splitL_ne (c : Nat) (l : List Nat) : splitL c l ≠ [] := by
  cases l with
  | nil => simp [splitL]
  | cons x l =>
    unfold splitL
    split
    · simp
    · split <;> simp
theorem shift_parts (x : Nat) (l : List Nat) : ∀ (as bs : List Nat), ((as.map (· + 1)).zip (bs.map (· + 1))).map (fun q => ((x :: l).take q.2).drop q.1) = (as.zip bs).map fun q => (l.take q.2).drop q.1
  | [], _ => by simp
  | _ :: _, [] => by simp
  | a :: as, b :: bs => by
    simp only [List.map_cons, List.zip_cons_cons, List.take_succ_cons, List.drop_succ_cons]
    rw [shift_parts x l as bs]
theorem partsL_split (c : Nat) : ∀ l : List Nat, partsL l (cutsL c l) = splitL c l
  | [] => by simp [partsL, cutsL, splitL]
  | x :: l => by
    have ih := partsL_split c l
    rw [cutsL_cons]
    unfold partsL at ih ⊢
    by_cases h : x = c
    · have e1 : (0 :: (([0] : List Nat) ++ (cutsL c l).map (· + 1)).map (· + 1)) = 0 :: ((0 :: (cutsL c l).map (· + 1)).map (· + 1)) := by simp
      have e2 : ((([0] : List Nat) ++ (cutsL c l).map (· + 1)) ++ [(x :: l).length]) = 0 :: ((cutsL c l ++ [l.length]).map (· + 1)) := by simp
      rw [if_pos h, e1, e2, List.zip_cons_cons, List.map_cons, shift_parts, ih]
      simp [splitL, h]
    · rw [if_neg h, List.nil_append]
      have e2 : ((cutsL c l).map (· + 1) ++ [(x :: l).length]) = (cutsL c l ++ [l.length]).map (· + 1) := by simp
      rw [e2]
      have e3 : splitL c (x :: l) = match splitL c l with | [] => [[x]] | w :: ws => (x :: w) :: ws := by simp [splitL, h]
      rw [e3, ← ih]
      cases q : cutsL c l with
      | nil => simp
      | cons a r =>
        simp only [List.map_cons, List.cons_append, List.zip_cons_cons]
        have e4 := shift_parts x l ((a :: r).map (· + 1)) (r ++ [l.length])
        simp only [List.map_cons] at e4
        simp only [List.take_succ_cons, List.drop_zero, List.cons.injEq, true_and]
        exact e4
theorem subAt_one (l : List Nat) (c i : Nat) : Builtin.Str.subAt (S l) (S [c]) i = decide (l[i]? = some c) := by
  unfold Builtin.Str.subAt
  have e : ((S l).cps.extract i (i + (S [c]).length) == (S [c]).cps) = ((l.drop i).take 1 == [c]) := by
    have h1 : (S l).cps.extract i (i + (S [c]).length) = ((l.drop i).take 1).toArray := by
      simp [S, Str.length, List.extract_toArray, List.extract_eq_take_drop]
    rw [h1]
    show (((l.drop i).take 1).toArray == [c].toArray) = _
    simp
  rw [e]
  cases q : l.drop i with
  | nil =>
    have hi : l.length ≤ i := List.drop_eq_nil_iff.mp q
    have : l[i]? = none := List.getElem?_eq_none hi
    simp [this]
  | cons a r =>
    have : l[i]? = some a := by
      have h2 : (l.drop i)[0]? = some a := by rw [q]; rfl
      rw [List.getElem?_drop] at h2
      simpa using h2
    rw [this]
    by_cases h : a = c <;> simp [h]
theorem occ_loop (l : List Nat) (c : Nat) : ∀ (m i : Nat) (st : Array Nat × Nat), i + m = l.length + 1 → st.1.size ≤ i → st.2 ≤ i →
    (forIn (List.range' i m) st (StrLaws.occBody (S l) (S [c]) l.length (l.length + 1))).run.fst.toList = st.1.toList ++ (List.range' i m).filter fun k => decide (l[k]? = some c)
  | 0, i, st, _, _, _ => by simp
  | m + 1, i, st, h, hs, hf => by
    rw [List.range'_succ, List.forIn_cons]
    unfold StrLaws.occBody
    rw [subAt_one]
    have hl1 : (S [c]).length = 1 := rfl
    by_cases hc : l[i]? = some c
    · have hi : i < l.length := (List.getElem?_eq_some_iff.mp hc).1
      rw [if_pos ⟨⟨⟨by omega, hf⟩, by rw [hl1]; omega⟩, by simp [hc]⟩]
      have ih := occ_loop l c m (i + 1) (st.1.push i, i + (S [c]).length) (by omega) (by simp; omega) (by rw [hl1]; exact Nat.le_refl _)
      refine Eq.trans ih ?_
      simp [hc]
    · rw [if_neg (fun z => by simp [hc] at z)]
      have ih := occ_loop l c m (i + 1) (st.1, st.2) (by omega) (by simp; omega) (by simp; omega)
      refine Eq.trans ih ?_
      simp [hc]
theorem occ_one (l : List Nat) (c : Nat) : Builtin.Str.occurrences (S l) (S [c]) 0 (S l).length ((S l).length + 1) = cutsL c l := by
  have e : (S l).length = l.length := S_len l
  rw [e, StrLaws.occ_eq]
  have := occ_loop l c (l.length + 1) 0 (#[], 0) (by omega) (by simp) (by simp)
  rw [show l.length + 1 - 0 = l.length + 1 from rfl, this]
  unfold cutsL
  rw [← List.range_eq_range', List.range_succ, List.filter_append]
  simp
theorem split_one (l : List Nat) (c : Nat) (hc : c < 256) : Txt.split (S l) (S [c]) = (splitL c l).map S := by
  unfold Txt.split
  rw [occ_one]
  have hk : Builtin.Str.strKind (S [c]) = 1 := by simp [Builtin.Str.strKind, S, hc]
  have hk2 : ¬ (Builtin.Str.strKind (S l) < 1) := by unfold Builtin.Str.strKind; split <;> (try split) <;> omega
  have hp : Builtin.Str.partsBetween (S l) (cutsL c l) (S [c]).length = (partsL l (cutsL c l)).map S := by
    unfold Builtin.Str.partsBetween partsL
    rw [List.map_map]
    have : (S [c]).length = 1 := rfl
    rw [this, S_len]
    apply List.map_congr_left
    intro q _
    obtain ⟨i, j⟩ := q
    simp [Builtin.Str.strSub, S, List.extract_toArray, List.extract_eq_take_drop, List.drop_take]
  by_cases h0 : l = []
  · subst h0
    rw [if_pos (by simp [S, Str.length])]
    simp [splitL]
  · have hl : ¬ ((S l).length < (S [c]).length) := by
      rw [S_len, S_len]
      have := List.length_pos_iff.mpr h0
      simp; omega
    rw [if_neg (by rw [hk]; simp [hl, hk2])]
    by_cases he : (cutsL c l).isEmpty = true
    · rw [if_pos he]
      have : cutsL c l = [] := by simpa using he
      have h2 := partsL_split c l
      rw [this] at h2
      rw [← h2]
      simp [partsL]
    · rw [if_neg he, hp, partsL_split]
end M
namespace M
open PySem PySem.Spec PyProof.Rows L2
/-! ### the law's own words -/
def blanked (l : List Nat) : List Nat := l.map fun c => if isW c = true then c else 32
theorem words_split (l : List Nat) : ∀ (d : List (List Nat)) (cur : List Nat), (∀ w ∈ d, w ≠ []) →
    (((l.foldl wstep (d, cur)).1 ++ [(l.foldl wstep (d, cur)).2]).filter fun w => decide (w ≠ [])) = d ++ ((match splitL 32 (blanked l) with | [] => [cur] | w :: ws => (cur ++ w) :: ws).filter fun w => decide (w ≠ [])) := by
  induction l with
  | nil =>
    intro d cur hd
    simp only [List.foldl_nil, blanked, List.map_nil, splitL, List.append_nil]
    rw [List.filter_append, List.filter_eq_self.mpr (fun w hw => by simp [hd w hw])]
  | cons c l ih =>
    intro d cur hd
    simp only [List.foldl_cons]
    by_cases h : isW c = true
    · have h32 : c ≠ 32 := by intro q; subst q; simp [isW] at h
      have e1 : wstep (d, cur) c = (d, cur ++ [c]) := by simp [wstep, h]
      have e2 : blanked (c :: l) = c :: blanked l := by simp [blanked, h]
      rw [e1, ih d (cur ++ [c]) hd, e2]
      cases q : splitL 32 (blanked l) with
      | nil => exact absurd q (splitL_ne _ _)
      | cons w ws =>
        have e3 : splitL 32 (c :: blanked l) = (c :: w) :: ws := by simp [splitL, h32, q]
        rw [e3]
        simp
    · have e2 : blanked (c :: l) = 32 :: blanked l := by simp [blanked, h]
      have e3 : splitL 32 (32 :: blanked l) = [] :: splitL 32 (blanked l) := by simp [splitL]
      rw [e2, e3]
      have hx : ∀ d', (d' ++ ((match splitL 32 (blanked l) with | [] => [[]] | w :: ws => ([] ++ w) :: ws).filter fun w => decide (w ≠ []))) = d' ++ ((splitL 32 (blanked l)).filter fun w => decide (w ≠ [])) := by
        intro d'
        cases q : splitL 32 (blanked l) with
        | nil => exact absurd q (splitL_ne _ _)
        | cons w ws => simp
      by_cases hc : cur = []
      · subst hc
        have e1 : wstep (d, []) c = (d, []) := by simp [wstep, h]
        rw [e1, ih d [] hd, hx]
        simp
      · have e1 : wstep (d, cur) c = (d ++ [cur], []) := by simp [wstep, h, hc]
        rw [e1, ih (d ++ [cur]) [] (by intro w hw; rcases List.mem_append.mp hw with z | z; exact hd w z; simp at z; subst z; exact hc), hx]
        simp [hc]
theorem words_blank (l : List Nat) : wordsL l = (splitL 32 (blanked l)).filter fun w => decide (w ≠ []) := by
  have h := words_split l [] [] (by simp)
  unfold wordsL wstate
  rw [h]
  cases q : splitL 32 (blanked l) with
  | nil => exact absurd q (splitL_ne _ _)
  | cons w ws => simp
theorem alnum_c : ∀ c : Fin 128, Txt.isalnum ⟨#[c.val]⟩ = isW (lo1 c.val) := by decide +kernel
def fs__law_words (K : PySem.W.Frag) : FS := fun ms P X => ∃ x, ms = [.fz (.str x)] ∧ isTextB x = true ∧ P (.fz (strsD (wordsOf x))) ms
/-- _law_words: slots 0 text, 1 found, 2 sign, 3 word -/
def t__law_words (K : PySem.W.Frag) : WX → TS := fun W => (tSeq (tAsg (tC (.str "")) (gName 1)) (tSeq (tFor (iStr (tVar 0)) (gName 2) (tAsg (tOp (rAddA K) (tVar 1) (tIf (tB (tM0 rIsalnum (tVar 2))) (tM0 rLower (tVar 2)) (tC (.str " ")))) (gName 1))) (tRet (tLcW (iList K (tM1 rSplit (tVar 1) (tC (.str " ")))) (gName 3) (fun W => (tTest (tOp (rNeA K) (tVar 3) (tC (.str ""))))) (fun W => (tVar 3)) [3]))))
theorem isTextB_iff {x : PySem.Str} : isTextB x = true ↔ x.length ≤ 60 ∧ ∀ c ∈ x.cps.toList, okc c = true := by
  unfold isTextB
  rw [Bool.and_eq_true, decide_eq_true_eq, List.all_eq_true]
theorem okc_lt {c : Nat} (h : okc c = true) : c < 127 := by unfold okc at h; simp at h; omega
theorem lower_one {c : Nat} (h : c < 128) : Txt.lower (S [c]) = S [lo1 c] := by
  rw [lower_ascii (fun d hd => by simp [S] at hd; omega)]
  simp [S]
theorem filter_strs (l : List (List Nat)) : (List.map id (List.filter (fun d : D => match d with | .str y => decide (y ≠ S []) | _ => false) (l.map fun w => D.str (S w)))) = ((l.filter fun w => decide (w ≠ [])).map S).map .str := by
  rw [List.map_id, List.filter_map, List.map_map]
  congr 1
  apply List.filter_congr
  intro w _
  show decide (S w ≠ S []) = decide (w ≠ [])
  apply decide_eq_decide.mpr
  constructor
  · intro h q; exact h (by rw [q])
  · intro h q; exact h (S_inj q)
theorem splitL_len (c : Nat) : ∀ l : List Nat, (splitL c l).length ≤ l.length + 1
  | [] => by simp [splitL]
  | x :: l => by
    have ih := splitL_len c l
    unfold splitL
    split
    · simp; omega
    · split
      · simp
      · rename_i w ws e
        rw [e] at ih
        simp at ih ⊢; omega
theorem h__law_words {K : PySem.W.Frag} : FsOk K 1 4 (fs__law_words K) (t__law_words K) := by
  intro ms P X hf
  obtain ⟨x, rfl, ht, hP⟩ := hf
  refine ⟨rfl, ?_⟩
  unfold t__law_words
  obtain ⟨h60, hok⟩ := isTextB_iff.mp ht
  have hl : (lowL x).length ≤ 60 := by simpa [lowL, Str.length] using h60
  refine ws_seq (ws_set (by decide) (wd_str ?_))
  refine ws_seq (ws_for (wi_str (wd_var rfl (by decide) ⟨x, rfl, ?_⟩)))
  refine ⟨fun i m => ∃ z, m = [.fz (.str x), .fz (.str (S (blanked ((lowL x).take i)))), z, .un], ⟨.un, rfl⟩, ?_, ?_⟩
  · rintro i d m hd ⟨z, rfl⟩
    obtain ⟨c, hc, rfl⟩ : ∃ c, x.cps.toList[i]? = some c ∧ d = .str (S [c]) := by
      unfold sgnD at hd
      rw [List.getElem?_map] at hd
      cases q : x.cps.toList[i]? with
      | none => rw [q] at hd; cases hd
      | some c => rw [q] at hd; exact ⟨c, rfl, (Option.some.inj hd).symm⟩
    have hc127 := okc_lt (hok c (List.mem_of_getElem? hc))
    have nx : (lowL x).take (i + 1) = (lowL x).take i ++ [lo1 c] := by
      have : (lowL x)[i]? = some (lo1 c) := by unfold lowL; rw [List.getElem?_map, hc]; rfl
      rw [List.take_add_one, this]; rfl
    have bl : blanked ((lowL x).take (i + 1)) = blanked ((lowL x).take i) ++ [if isW (lo1 c) = true then lo1 c else 32] := by
      rw [nx]; simp [blanked]
    have hbl : (blanked ((lowL x).take i)).length ≤ 60 := by simp [blanked]; omega
    refine wg_name (by decide) (ws_set (by decide) (wd_op (wd_var rfl (by decide) (wd_if (wt_B (wd_m0 (wd_var rfl (by decide) ⟨_, rfl, b_isalnum ⟨_, rfl, ?_⟩⟩)))))))
    have ha : Txt.isalnum (S [c]) = isW (lo1 c) := alnum_c ⟨c, by omega⟩
    rw [ha]
    cases hw : isW (lo1 c) with
    | true =>
      rw [if_pos rfl]
      refine wd_m0 (wd_var rfl (by decide) ⟨_, rfl, b_lower (by rw [S_len]; simp) (o_addS ?_ ?_)⟩)
      · rw [lower_one (by omega), S_len, S_len]; simp; omega
      · refine ⟨.fz (.str (S [c])), ?_⟩
        rw [lower_one (by omega), S_append, bl, hw]
        rfl
    | false =>
      rw [if_neg (by simp)]
      refine wd_str (o_addS (by rw [S_len]; have : (PySem.Str.ofString " ").length = 1 := by decide +kernel
                                omega) ⟨.fz (.str (S [c])), ?_⟩)
      rw [show PySem.Str.ofString " " = S [32] from by decide +kernel, S_append, bl, hw]
      rfl
  · rintro m ⟨z, rfl⟩
    have e0 : (lowL x).take (sgnD x).length = lowL x := by
      apply List.take_of_length_le
      simp [sgnD, lowL]
    rw [e0]
    have hb : (blanked (lowL x)).length ≤ 60 := by simp [blanked]; omega
    refine ws_ret (wd_lcMap (by decide) (gok_name (by decide)) (wi_list (wd_m1 (wd_var rfl (by decide) ⟨_, rfl, wd_str (b_split (by decide +kernel) (by rw [S_len]; omega) ⟨_, rfl, ?_⟩)⟩))))
    rw [show PySem.Str.ofString " " = S [32] from by decide +kernel, split_one _ _ (by decide), List.map_map]
    have hsl := splitL_len 32 (blanked (lowL x))
    refine ⟨by simp; omega, fun d => match d with | .str y => decide (y ≠ S []) | _ => false, id, fun d hd => ?_, ?_⟩
    · obtain ⟨w, _, rfl⟩ := List.mem_map.mp hd
      refine wg_name (by decide) (wt_test (wd_op (wd_var rfl (by decide) (wd_str (o_neS ⟨_, rfl, ?_⟩)))))
      refine ⟨?_, rfl, fun _ => wd_var rfl (by decide) ⟨rfl, rfl⟩⟩
      simp only [decide_not]
      rfl
    · refine ⟨_, .fz .nil, ?_⟩
      have e3 := filter_strs (splitL 32 (blanked (lowL x)))
      rw [← words_blank] at e3
      have e4 : (List.map (D.str ∘ S) (splitL 32 (blanked (lowL x)))) = (splitL 32 (blanked (lowL x))).map fun w => D.str (S w) := rfl
      rw [e4, e3]
      exact hP
end M
namespace M
open PySem PySem.Spec PyProof.Rows L2
/-! ### refusals told -/
def xN : List PySem.Str := ["BadText", "BadPattern", "BadAnswer", "BadRule", "BadTalk"]
def kN : List PySem.Str := ["text", "pattern", "answer", "rule", "talk"]
/-- the classes of errors, as the head tells them -/
structure XF (K : PySem.W.Frag) : Prop where
  c : ∀ a ∈ xN, ExcC K (He.ga K a)
  k : ∀ a ∈ xN, ∀ b ∈ xN, PySem.W.kitOne K (.ref (He.ga K a)) (.ref (He.ga K b)) = some (decide (a = b))
  v : ∀ a ∈ xN, PySem.W.kitOne K (.ref (He.ga K a)) (.type "ValueError") = some true
  h : ∀ a ∈ xN, PySem.W.exmOne K (.ref (He.ga K a)) (.ref (He.ga K "HallError")) = some true
  s : ∀ a ∈ xN, PySem.W.exmOne K (.ref (He.ga K a)) (.ref (He.ga K a)) = some true
def refD (k : PySem.Str) : D := .tup [.str "refused", .str k]
def fs__law_refusal (K : PySem.W.Frag) : FS := fun ms P X => ∃ j : Fin 5, ms = [.fz (.exc (.ref (He.ga K (xN.getD j.val ""))))] ∧ P (.fz (refD (kN.getD j.val ""))) ms
/-- _law_refusal: slots 0 held, 1 kinds -/
def t__law_refusal (K : PySem.W.Frag) : WX → TS := fun W => (tSeq (tIfS (tTest (tOp rIsN (tVar 0) (tC .non))) (tRet (tTup (tCons (tC (.str "ok")) tNil))) tNext) (tSeq (tAsg (tLst (tCons (tCB (rIsiA K) (tCons (tVar 0) (tCons (tC (.ref (He.ga K "BadText"))) tNil))) (tCons (tCB (rIsiA K) (tCons (tVar 0) (tCons (tC (.ref (He.ga K "BadPattern"))) tNil))) (tCons (tCB (rIsiA K) (tCons (tVar 0) (tCons (tC (.ref (He.ga K "BadAnswer"))) tNil))) tNil)))) (gName 1)) (tSeq (tAsg (tOp (rAddA K) (tVar 1) (tLst (tCons (tCB (rIsiA K) (tCons (tVar 0) (tCons (tC (.ref (He.ga K "BadRule"))) tNil))) (tCons (tCB (rIsiA K) (tCons (tVar 0) (tCons (tC (.ref (He.ga K "BadTalk"))) tNil))) tNil)))) (gName 1)) (tSeq (tIfS (tOr (tTest (tOp (rNeA K) (tBM K "list" (rCountA K) (tVar 1) (tCons (tC (.bl true)) tNil)) (tC (.int 1)))) (tNot (tB (tCB (rIsiA K) (tCons (tVar 0) (tCons (tC (.ty "ValueError")) tNil)))))) (tRet (tTup (tCons (tC (.str "wrong")) tNil))) tNext) (tRet (tTup (tCons (tC (.str "refused")) (tCons (tOp (rIxA K) (tLst (tCons (tC (.str "text")) (tCons (tC (.str "pattern")) (tCons (tC (.str "answer")) (tCons (tC (.str "rule")) (tCons (tC (.str "talk")) tNil)))))) (tBM K "list" (rIndexD K) (tVar 1) (tCons (tC (.bl true)) tNil))) tNil))))))))
theorem hot_sh : ∀ j : Fin 5, (D.lst [.bl (decide (j.val = 0)), .bl (decide (j.val = 1)), .bl (decide (j.val = 2)), .bl (decide (j.val = 3)), .bl (decide (j.val = 4))]).sh = true := by
  intro j
  simp [D.sh, SeqAt.shaped, D.py, pys, PyData.canLay0, PyData.canLayAll0, PyData.depth, PyData.depthAll]
theorem h__law_refusal {K : PySem.W.Frag} (xf : XF K) : FsOk K 1 2 (fs__law_refusal K) (t__law_refusal K) := by
  intro ms P X hf
  obtain ⟨j, rfl, hP⟩ := hf
  refine ⟨rfl, ?_⟩
  unfold t__law_refusal
  have hm : xN.getD j.val "" ∈ xN := by
    have : ∀ j : Fin 5, xN.getD j.val "" ∈ xN := by decide +kernel
    exact this j
  have hc := xf.c _ hm
  have k0 : PySem.W.kitOne K (.ref (He.ga K (xN.getD j.val ""))) (.ref (He.ga K "BadText")) = some (decide (j.val = 0)) := by
    rw [xf.k _ hm "BadText" (by decide +kernel)]
    congr 1
    have : ∀ j : Fin 5, decide (xN.getD j.val "" = "BadText") = decide (j.val = 0) := by decide +kernel
    exact this j
  have k1 : PySem.W.kitOne K (.ref (He.ga K (xN.getD j.val ""))) (.ref (He.ga K "BadPattern")) = some (decide (j.val = 1)) := by
    rw [xf.k _ hm "BadPattern" (by decide +kernel)]
    congr 1
    have : ∀ j : Fin 5, decide (xN.getD j.val "" = "BadPattern") = decide (j.val = 1) := by decide +kernel
    exact this j
  have k2 : PySem.W.kitOne K (.ref (He.ga K (xN.getD j.val ""))) (.ref (He.ga K "BadAnswer")) = some (decide (j.val = 2)) := by
    rw [xf.k _ hm "BadAnswer" (by decide +kernel)]
    congr 1
    have : ∀ j : Fin 5, decide (xN.getD j.val "" = "BadAnswer") = decide (j.val = 2) := by decide +kernel
    exact this j
  have k3 : PySem.W.kitOne K (.ref (He.ga K (xN.getD j.val ""))) (.ref (He.ga K "BadRule")) = some (decide (j.val = 3)) := by
    rw [xf.k _ hm "BadRule" (by decide +kernel)]
    congr 1
    have : ∀ j : Fin 5, decide (xN.getD j.val "" = "BadRule") = decide (j.val = 3) := by decide +kernel
    exact this j
  have k4 : PySem.W.kitOne K (.ref (He.ga K (xN.getD j.val ""))) (.ref (He.ga K "BadTalk")) = some (decide (j.val = 4)) := by
    rw [xf.k _ hm "BadTalk" (by decide +kernel)]
    congr 1
    have : ∀ j : Fin 5, decide (xN.getD j.val "" = "BadTalk") = decide (j.val = 4) := by decide +kernel
    exact this j
  refine ws_seq (ws_if (wt_test (wd_op (wd_var rfl (by decide) (wd_non (o_isN rfl ⟨_, rfl, ?_⟩))))))
  rw [if_neg (by simp)]
  refine ws_next ?_
  have one : ∀ {C : Addr} {b : Bool} {m : List MV} {P : D → List MV → Prop} {X : XP}, m[0]? = some (.fz (.exc (.ref (He.ga K (xN.getD j.val ""))))) → PySem.W.kitOne K (.ref (He.ga K (xN.getD j.val ""))) (.ref C) = some b → P (.bl b) m → wpD K 2 (fun _ => tCB (rIsiA K) (tCons (tVar 0) (tCons (tC (.ref C)) tNil))) m P X :=
    fun e k h => wd_cb (wa_cons (wd_var e (by decide) (wa_cons (wd_c (fun _ => .raw _) (wa_nil (c_isX hc k h))))))
  refine ws_seq (ws_set (by decide) (wd_lst (wa_cons (one rfl k0 (wa_cons (one rfl k1 (wa_cons (one rfl k2 (wa_nil ⟨by simp, ?_⟩)))))))))
  refine ws_seq (ws_set (by decide) (wd_op (wd_var rfl (by decide) (wd_lst (wa_cons (one rfl k3 (wa_cons (one rfl k4 (wa_nil ⟨by simp, o_addL (by simp) ?_ ⟩)))))))))
  refine ws_seq (ws_if (wt_or (wt_test (wd_op (wd_bm (wd_var rfl (by decide) ⟨fun F H v => ty_lst, wa_cons (wd_bl (wa_nil (b_count rfl rfl (wd_int (o_neI ⟨_, rfl, ?_⟩)))))⟩))))))
  have hcount : ∀ j : Fin 5, (!decide ((((([D.bl (decide (j.val = 0)), .bl (decide (j.val = 1)), .bl (decide (j.val = 2))] ++ [D.bl (decide (j.val = 3)), .bl (decide (j.val = 4))]).countP fun z => eqD z (.bl true)) : Nat) : Int) = 1)) = false := by
    intro j
    match j with
    | ⟨0, _⟩ => rfl
    | ⟨1, _⟩ => rfl
    | ⟨2, _⟩ => rfl
    | ⟨3, _⟩ => rfl
    | ⟨4, _⟩ => rfl
  rw [hcount j, if_neg (by simp)]
  refine wt_not (wt_B (wd_cb (wa_cons (wd_var rfl (by decide) (wa_cons (wd_c (fun _ => .raw _) (wa_nil (c_isXt hc (xf.v _ hm) ⟨_, rfl, ?_⟩))))))))
  rw [if_neg (by simp)]
  refine ws_next (ws_ret (wd_tup (wa_cons (wd_str (wa_cons (wd_op (wd_lst (wa_cons (wd_str (wa_cons (wd_str (wa_cons (wd_str (wa_cons (wd_str (wa_cons (wd_str (wa_nil ⟨by decide, wd_bm (wd_var rfl (by decide) ⟨fun F H v => ty_lst, wa_cons (wd_bl (wa_nil (b_index (j := j.val) (z := .bl true) (hot_sh j) rfl ?_ rfl ?_ ?_ )))⟩)⟩))))))))))))))))))
  · match j with
    | ⟨0, _⟩ => rfl
    | ⟨1, _⟩ => rfl
    | ⟨2, _⟩ => rfl
    | ⟨3, _⟩ => rfl
    | ⟨4, _⟩ => rfl
  · intro m d hmj hd
    have hm5 : m < 5 := by omega
    have e : d = .bl (decide (j.val = m)) := by
      match m, hm5 with
      | 0, _ => exact (Option.some.inj hd).symm
      | 1, _ => exact (Option.some.inj hd).symm
      | 2, _ => exact (Option.some.inj hd).symm
      | 3, _ => exact (Option.some.inj hd).symm
      | 4, _ => exact (Option.some.inj hd).symm
    have : decide (j.val = m) = false := by simp; omega
    rw [e, this]
    simp [D.py, PyData.eqv]
  · refine o_ixL (d := .str (kN.getD j.val "")) ?_ (wa_nil ⟨by simp, _, .fz .nil, hP⟩)
    match j with
    | ⟨0, _⟩ => rfl
    | ⟨1, _⟩ => rfl
    | ⟨2, _⟩ => rfl
    | ⟨3, _⟩ => rfl
    | ⟨4, _⟩ => rfl
end M
namespace M
open PySem PySem.Spec PyProof.Rows L2
/-! ### texts that the law draws -/
def menuL : List PySem.Str := ["i", "you", "my", "am", "cat", "dog", "7", "42", "yes", "no"]
def fs__law_menu (K : PySem.W.Frag) : FS := fun ms P X => ms = [] ∧ P (.fz (strsD menuL)) []
/-- _law_menu: slots  -/
def t__law_menu (K : PySem.W.Frag) : WX → TS := fun W => (tRet (tLst (tCons (tC (.str "i")) (tCons (tC (.str "you")) (tCons (tC (.str "my")) (tCons (tC (.str "am")) (tCons (tC (.str "cat")) (tCons (tC (.str "dog")) (tCons (tC (.str "7")) (tCons (tC (.str "42")) (tCons (tC (.str "yes")) (tCons (tC (.str "no")) tNil))))))))))))
theorem h__law_menu {K : PySem.W.Frag} : FsOk K 0 0 (fs__law_menu K) (t__law_menu K) := by
  intro ms P X hf
  obtain ⟨rfl, hP⟩ := hf
  refine ⟨rfl, ?_⟩
  unfold t__law_menu
  refine ws_ret (wd_lst (wa_cons (wd_str (wa_cons (wd_str (wa_cons (wd_str (wa_cons (wd_str (wa_cons (wd_str (wa_cons (wd_str (wa_cons (wd_str (wa_cons (wd_str (wa_cons (wd_str (wa_cons (wd_str (wa_nil ⟨by decide, _, .nil, hP ⟩))))))))))))))))))))))
def okS (x : PySem.Str) : Bool := x.cps.toList.all okc
theorem okS_app {x y : PySem.Str} (hx : okS x = true) (hy : okS y = true) : okS (x ++ y) = true := by
  unfold okS at *
  show ((x.cps ++ y.cps).toList).all okc = true
  rw [Array.toList_append, List.all_append, hx, hy]
  rfl
theorem len_app (x y : PySem.Str) : (x ++ y).length = x.length + y.length := by
  show (x.cps ++ y.cps).size = _
  rw [Array.size_append]
  rfl
theorem okS_take {x : PySem.Str} (hx : okS x = true) : isTextB (cutS x none (some 60)) = true := by
  unfold okS at hx
  rw [List.all_eq_true] at hx
  rw [isTextB_iff]
  constructor
  · have h0 : HT.sIx x.length 0 none = 0 := by simp [HT.sIx]
    have h1 : HT.sIx x.length x.length (some 60) ≤ 60 := by
      rw [show (some 60 : Option Int) = some ((60 : Nat) : Int) from rfl, HT.sIx_nat]
      omega
    unfold cutS
    unfold Str.length at *
    rw [List.size_toArray, List.length_take]
    omega
  · intro c hc
    unfold cutS at hc
    exact hx c (List.mem_of_mem_drop (List.mem_of_mem_take (by simpa using hc)))
theorem menu_ok : ∀ w ∈ menuL, okS w = true ∧ w.length ≤ 3 := by decide +kernel
theorem menu_up : ∀ w ∈ menuL, okS (Txt.upper w) = true ∧ (Txt.upper w).length ≤ 3 := by decide +kernel
def lead4 : List PySem.Str := ["", "", " ", "..."]
def gaps4 : List PySem.Str := [" ", " ", ", ", "! "]
theorem lead_ok : ∀ w ∈ lead4, okS w = true ∧ w.length ≤ 3 := by decide +kernel
theorem gaps_ok : ∀ w ∈ gaps4, okS w = true ∧ w.length ≤ 2 := by decide +kernel
/-- a text is said: something that is a text -/
def fs__law_said (K : PySem.W.Frag) : FS := fun ms P X => ∃ sc t n m, ms = [scr sc, .ot t (zeros n), .fz (.int m)] ∧ sc.length ≤ 63 ∧ n < 80000 ∧ 0 ≤ m ∧ m ≤ 10 ∧
  ∀ x n', isTextB x = true → n' ≤ n + 40 → P (.fz (.str x)) [scr sc, .ot t (zeros n'), .fz (.int m)]
/-- _law_said: slots 0 script, 1 town, 2 most, 3 found, 4 k, 5 word -/
def t__law_said (K : PySem.W.Frag) : WX → TS := fun W => (tSeq (tAsg (tCallS (SpM K (fs__law_pick K)) (WE W) (tCons (tVar 0) (tCons (tVar 1) (tCons (tLst (tCons (tC (.str "")) (tCons (tC (.str "")) (tCons (tC (.str " ")) (tCons (tC (.str "...")) tNil))))) tNil)))) (gName 3)) (tSeq (tFor (iRng1 (tCons (tCallS (SpM K (fs__law_draw K)) (WE W) (tCons (tVar 0) (tCons (tVar 1) (tCons (tOp (rAddA K) (tVar 2) (tC (.int 1))) tNil)))) tNil)) (gName 4) (tSeq (tAsg (tCallS (SpM K (fs__law_pick K)) (WE W) (tCons (tVar 0) (tCons (tVar 1) (tCons (tCall (SpM K (fs__law_menu K)) [] E0 tNil) tNil)))) (gName 5)) (tSeq (tAsg (tOp (rAddA K) (tVar 3) (tIf (tTest (tOp (rEqA K) (tCallS (SpM K (fs__law_draw K)) (WE W) (tCons (tVar 0) (tCons (tVar 1) (tCons (tC (.int 5)) tNil)))) (tC (.int 0)))) (tM0 rUpper (tVar 5)) (tVar 5))) (gName 3)) (tAsg (tOp (rAddA K) (tVar 3) (tCallS (SpM K (fs__law_pick K)) (WE W) (tCons (tVar 0) (tCons (tVar 1) (tCons (tLst (tCons (tC (.str " ")) (tCons (tC (.str " ")) (tCons (tC (.str ", ")) (tCons (tC (.str "! ")) tNil))))) tNil))))) (gName 3))))) (tRet (L2.tSl (rSlA' K) (tVar 3) tNoPart (tPart (tC (.int 60)))))))
theorem h__law_said {K : PySem.W.Frag} : FsOk K 3 6 (fs__law_said K) (t__law_said K) := by
  intro ms P X hf
  obtain ⟨sc, t, n, m, rfl, hl, hn, h0, h1, hP⟩ := hf
  refine ⟨rfl, ?_⟩
  unfold t__law_said
  refine ws_seq (ws_set (by decide) (wd_call [(1, 1)] (wa_cons (wd_var rfl (by decide) (wa_cons (wd_varO rfl (by decide) (wa_cons (wd_lst (wa_cons (wd_str (wa_cons (wd_str (wa_cons (wd_str (wa_cons (wd_str (wa_nil ⟨by decide, wa_nil ?_ ⟩)))))))))))))))))
  refine ⟨_, _, .cons rfl rfl .nil, sc, t, n, _, rfl, hl, by omega, by decide, by decide, fun d hd => ⟨_, _, .cons rfl rfl .nil, d, rfl, ?_⟩⟩
  obtain ⟨x0, hx0, rfl⟩ : ∃ x0, x0 ∈ lead4 ∧ d = .str x0 := by
    obtain ⟨x0, h, e⟩ := List.mem_map.mp (show d ∈ lead4.map D.str from hd)
    exact ⟨x0, h, e.symm⟩
  refine ws_seq (ws_for (wi_rng1 (wa_cons (wd_call [(1, 1)] (wa_cons (wd_var rfl (by decide) (wa_cons (wd_varO rfl (by decide) (wa_cons (wd_op (wd_var rfl (by decide) (wd_int (o_addI (wa_nil ?_ ))))))))))))))
  refine ⟨_, _, .cons rfl rfl .nil, sc, t, n + 1, m + 1, rfl, hl, by omega, by omega, fun z hz0 hz1 => ⟨_, _, .cons rfl rfl .nil, _, rfl, wa_nil ⟨z, rfl, by omega, by omega, ?_⟩⟩⟩
  refine ⟨fun i ms => ∃ x k z1 z2, ms = [scr sc, .ot t (zeros k), .fz (.int m), .fz (.str x), z1, z2] ∧ okS x = true ∧ x.length ≤ 3 + 5 * i ∧ k = n + 2 + 3 * i, ⟨x0, _, .un, .un, rfl, (lead_ok x0 hx0).1, by have := (lead_ok x0 hx0).2; omega, by omega⟩, ?_, ?_⟩
  · rintro i d ms hd ⟨x, k, z1, z2, rfl, hx, hxl, rfl⟩
    obtain ⟨hi, rfl⟩ := rngD_at hd
    have hi10 : i < 11 := by omega
    refine wg_name (by decide) (ws_seq (ws_set (by decide) (wd_call [(1, 1)] (wa_cons (wd_var rfl (by decide) (wa_cons (wd_varO rfl (by decide) (wa_cons (wd_callZ ⟨rfl, _, rfl, wa_nil ?_ ⟩)))))))))
    refine ⟨_, _, .cons rfl rfl .nil, sc, t, n + 2 + 3 * i, _, rfl, hl, by omega, by decide, by decide, fun d hd => ⟨_, _, .cons rfl rfl .nil, d, rfl, ?_⟩⟩
    obtain ⟨w, hw, rfl⟩ : ∃ w, w ∈ menuL ∧ d = .str w := by
      obtain ⟨w, h, e⟩ := List.mem_map.mp hd
      exact ⟨w, h, e.symm⟩
    refine ws_seq (ws_set (by decide) (wd_op (wd_var rfl (by decide) (wd_if (wt_test (wd_op (wd_call [(1, 1)] (wa_cons (wd_var rfl (by decide) (wa_cons (wd_varO rfl (by decide) (wa_cons (wd_int (wa_nil ?_ ))))))))))))))
    refine ⟨_, _, .cons rfl rfl .nil, sc, t, _, 5, rfl, hl, by omega, by decide, fun y hy0 hy1 => ⟨_, _, .cons rfl rfl .nil, _, rfl, wd_int (o_eqI ⟨_, rfl, ?_⟩)⟩⟩
    have tail : ∀ u : PySem.Str, okS u = true → u.length ≤ 3 → wpS K 6 (fun W => tAsg (tOp (rAddA K) (tVar 3) (tCallS (SpM K (fs__law_pick K)) (WE W) (tCons (tVar 0) (tCons (tVar 1) (tCons (tLst (tCons (tC (.str " ")) (tCons (tC (.str " ")) (tCons (tC (.str ", ")) (tCons (tC (.str "! ")) tNil))))) tNil))))) (gName 3))
        [scr sc, .ot t (zeros (n + 2 + 3 * i + 1 + 1)), .fz (.int m), .fz (.str (x ++ u)), .fz (.int (0 + (i : Int))), .fz (.str w)] (fun ms => ∃ x k z1 z2, ms = [scr sc, .ot t (zeros k), .fz (.int m), .fz (.str x), z1, z2] ∧ okS x = true ∧ x.length ≤ 3 + 5 * (i + 1) ∧ k = n + 2 + 3 * (i + 1))
        (fun m_1 me => ∃ ms', Back [scr sc, .ot t (zeros n), .fz (.int m)] me ms' ∧ P m_1 ms') (fun c me => ∃ ms', Back [scr sc, .ot t (zeros n), .fz (.int m)] me ms' ∧ X c ms') := by
      intro u hu hul
      refine ws_set (by decide) (wd_op (wd_var rfl (by decide) (wd_call [(1, 1)] (wa_cons (wd_var rfl (by decide) (wa_cons (wd_varO rfl (by decide) (wa_cons (wd_lst (wa_cons (wd_str (wa_cons (wd_str (wa_cons (wd_str (wa_cons (wd_str (wa_nil ⟨by decide, wa_nil ?_ ⟩))))))))))))))))))
      refine ⟨_, _, .cons rfl rfl .nil, sc, t, _, _, rfl, hl, by omega, by decide, by decide, fun d hd => ⟨_, _, .cons rfl rfl .nil, d, rfl, ?_⟩⟩
      obtain ⟨g, hg, rfl⟩ : ∃ g, g ∈ gaps4 ∧ d = .str g := by
        obtain ⟨w, h, e⟩ := List.mem_map.mp (show d ∈ gaps4.map D.str from hd)
        exact ⟨w, h, e.symm⟩
      have hg1 := gaps_ok g hg
      have l1 := len_app x u
      have l2 := len_app (x ++ u) g
      refine o_addS (by omega) ⟨_, _, _, _, rfl, okS_app (okS_app hx hu) hg1.1, by omega, by omega⟩
    have hmw := menu_ok w hw
    have hmu := menu_up w hw
    by_cases hy : y = 0
    · rw [if_pos (by simp [hy])]
      refine wd_m0 (wd_var rfl (by decide) ⟨_, rfl, b_upper (by omega) (o_addS (by omega) (tail _ hmu.1 hmu.2))⟩)
    · rw [if_neg (by simp [hy])]
      exact wd_var rfl (by decide) (o_addS (by omega) (tail _ hmw.1 hmw.2))
  · rintro ms ⟨x, k, z1, z2, rfl, hx, hxl, rfl⟩
    rw [rngD_len] at hxl
    have hz : z.toNat ≤ 11 := by omega
    refine ws_ret (wd_sl (wd_var rfl (by decide) (wo_none (wo_some (wd_int ⟨_, rfl, s_str (by omega) ?_ ⟩)))))
    refine ⟨_, .fz (.ot (.fz .nil)), hP _ _ (okS_take hx) ?_⟩
    rw [rngD_len]
    omega
end M
namespace M
open PySem PySem.Spec PyProof.Rows L2
/-! ### texts -/
theorem str_sh_aux : ∀ l : List PySem.Str, (∀ x ∈ l, okS x = true) → PyData.canLayAll0 (pys (l.map .str)) = true ∧ PyData.depthAll (pys (l.map .str)) = 0
  | [], _ => by simp [pys, PyData.canLayAll0, PyData.depthAll]
  | x :: l, h => by
    have ih := str_sh_aux l fun y hy => h y (List.mem_cons_of_mem _ hy)
    have hx := h x List.mem_cons_self
    have hs : PyData.strOk x = true := by
      unfold okS at hx
      rw [List.all_eq_true] at hx
      unfold PyData.strOk
      rw [Array.all_eq_true']
      intro c hc
      have := okc_lt (hx c (by simpa using hc))
      simp
      omega
    simp [pys, D.py, PyData.canLayAll0, PyData.canLay0, PyData.depthAll, PyData.depth, ih, hs]
theorem strsD_sh {l : List PySem.Str} (h : ∀ x ∈ l, okS x = true) : (strsD l).sh = true := by
  have := str_sh_aux l h
  unfold D.sh SeqAt.shaped strsD
  simp [D.py, PyData.canLay0, PyData.depth, this]
theorem isW_ok {c : Nat} (h : isW c = true) : okc c = true := by
  unfold isW at h
  unfold okc
  simp at h ⊢
  omega
theorem wfold_ok : ∀ (l : List Nat) (s : List (List Nat) × List Nat), (∀ w ∈ s.1, ∀ c ∈ w, isW c = true) → (∀ c ∈ s.2, isW c = true) → (∀ w ∈ (l.foldl wstep s).1, ∀ c ∈ w, isW c = true) ∧ ∀ c ∈ (l.foldl wstep s).2, isW c = true
  | [], s, h1, h2 => ⟨h1, h2⟩
  | c :: l, s, h1, h2 => by
    refine wfold_ok l (wstep s c) ?_ ?_
    · unfold wstep
      split
      · exact h1
      · split
        · exact h1
        · intro w hw
          rcases List.mem_append.mp hw with z | z
          · exact h1 w z
          · simp at z; subst z; exact h2
    · unfold wstep
      split
      · rename_i hw
        intro d hd
        rcases List.mem_append.mp hd with z | z
        · exact h2 d z
        · simp at z; subst z; exact hw
      · split
        · exact h2
        · intro d hd; cases hd
/-- a word: letters and figures, at least one -/
def isWordS (x : PySem.Str) : Bool := decide (x.cps.toList ≠ []) && x.cps.toList.all isW
theorem words_word (x : PySem.Str) : ∀ w ∈ wordsOf x, isWordS w = true := by
  intro w hw
  unfold wordsOf at hw
  obtain ⟨v, hv, rfl⟩ := List.mem_map.mp hw
  unfold wordsL at hv
  obtain ⟨h1, h2⟩ := List.mem_filter.mp hv
  have h := wfold_ok (lowL x) ([], []) (by simp) (by simp)
  unfold isWordS
  rw [Bool.and_eq_true]
  refine ⟨by simp at h2; simp [S, h2], ?_⟩
  rw [List.all_eq_true]
  intro c hc
  have hc' : c ∈ v := by simpa [S] using hc
  rcases List.mem_append.mp h1 with z | z
  · exact h.1 v z c hc'
  · simp at z; subst z; exact h.2 c hc'
theorem word_ok {x : PySem.Str} (h : isWordS x = true) : okS x = true := by
  unfold isWordS at h
  rw [Bool.and_eq_true, List.all_eq_true] at h
  unfold okS
  rw [List.all_eq_true]
  exact fun c hc => isW_ok (h.2 c hc)
theorem turn_ok {x : PySem.Str} (h : okS x = true) : okS (turnW x) = true := by
  unfold turnW
  cases q : (turnsL.find? fun q => decide (q.1 = x)) with
  | none => exact h
  | some r =>
    have hm : r ∈ turnsL := List.mem_of_find?_eq_some q
    have : ∀ r ∈ turnsL, okS r.2 = true := by decide +kernel
    exact this r hm
theorem words_len (x : PySem.Str) : (wordsOf x).length ≤ x.length + 1 := by
  unfold wordsOf wordsL
  rw [List.length_map]
  refine Nat.le_trans (List.length_filter_le _ _) ?_
  have := (wstate_len (lowL x)).1
  simp [lowL, Str.length] at this ⊢
  omega
theorem sh_of (l : List PySem.Str) (h : (l.all okS) = true) : (strsD l).sh = true := strsD_sh (List.all_eq_true.mp h)
theorem join_S (l : List Nat) : Txt.join "" (l.map fun c => S [c]) = S l := by
  have e : ∀ (l acc : List Nat), ((l.map fun c => S [c]).foldl (fun (a : Array Nat) p => a ++ (PySem.Str.ofString "").cps ++ p.cps) acc.toArray) = (acc ++ l).toArray := by
    intro l
    induction l with
    | nil => intro acc; simp
    | cons c l ih =>
      intro acc
      have h0 : (PySem.Str.ofString "").cps = #[] := by decide +kernel
      simp only [List.map_cons, List.foldl_cons]
      have : acc.toArray ++ (PySem.Str.ofString "").cps ++ (S [c]).cps = (acc ++ [c]).toArray := by simp [h0, S]
      rw [this, ih]
      simp
  unfold Txt.join Builtin.Str.glued
  cases l with
  | nil => rfl
  | cons c l =>
    simp only [List.map_cons, List.drop_succ_cons, List.drop_zero, List.headD_cons]
    have := e l [c]
    have h1 : (S [c]).cps = [c].toArray := rfl
    rw [h1, this]
    rfl
theorem join_ok (l : List Nat) (hl : ∀ c ∈ l, okc c = true) (hn : l.length ≤ 60) : isTextB (Txt.join "" (l.map fun c => S [c])) = true := by
  rw [join_S, isTextB_iff]
  exact ⟨by rw [S_len]; exact hn, fun c hc => hl c (by simpa [S] using hc)⟩
end M
namespace M
open PySem PySem.Spec PyProof.Rows L2
/-! ### the head: facts by names, and one Bool more -/
def hookM (n : Nat) (fa : List He.Fa) (fn : List He.DefD) (ex : PySem.W.Frag → Bool) : PySem.W.Hook where
  α := He.AlD × Bool
  obs := fun s => (He.obsDG n fa fn s.heap.get?, ex (He.frG s.heap.get? (He.asD s.heap.get? n)))
  val := fun _ => (He.valD fn, true)
  says := fun _ h => ∃ K : PySem.W.Frag, K.In h ∧ He.SaysD fa fn K ∧ ex K = true
  of := fun _ _ e => ⟨_, He.frG_in, (Prod.mk.inj e).1, (Prod.mk.inj e).2⟩
  keeps := fun _ _ _ ⟨K, hK, c⟩ k => ⟨K, PySem.W.Frag.In.keeps hK k, c⟩
def obM (n : Nat) (fa : List He.Fa) (fn : List He.DefD) (ex : PySem.W.Frag → Bool) (g : Addr → Option Obj) : He.AlD × Bool := (He.obsDG n fa fn g, ex (He.frG g (He.asD g n)))
theorem obM_eq {n : Nat} {fa : List He.Fa} {fn : List He.DefD} {ex : PySem.W.Frag → Bool} {g : Addr → Option Obj} {s : Shared} (h : ∀ a, g a = s.heap.get? a) : obM n fa fn ex g = (hookM n fa fn ex).obs s := by
  have e : g = s.heap.get? := funext h
  unfold obM hookM
  rw [e]
def excB (K : PySem.W.Frag) (D : Addr) : Bool :=
  He.eqO (PySem.W.findIn K (.ref D) "__getattribute__") (some (some (.builtin "BaseException.__getattribute__"))) && (He.eqO (PySem.W.findIn K (.ref D) "__getattr__") (some none) && (decide (PySem.W.subIn K (.ref D) (.type "BaseException") = some true) && (PySem.W.hasDictIn K D &&
  (He.eqO (PySem.W.findIn K (.ref D) "__class__") (some (some (.builtin "object.__class__"))) && (He.eqO (PySem.W.specialIn K (.builtin "object.__class__") "__get__") (some (some (.builtin "getset_descriptor.__get__"))) && (decide (PySem.W.takesIn K (.builtin "object.__class__") = some true) && decide (PySem.W.mroIn K D (.type "object") = some true)))))))
theorem excB_ok {K : PySem.W.Frag} {D : Addr} (h : excB K D = true) : ExcC K D := by
  obtain ⟨h1, h⟩ := He.ba h
  obtain ⟨h2, h⟩ := He.ba h
  obtain ⟨h3, h⟩ := He.ba h
  obtain ⟨h4, h⟩ := He.ba h
  obtain ⟨h5, h⟩ := He.ba h
  obtain ⟨h6, h⟩ := He.ba h
  obtain ⟨h7, h8⟩ := He.ba h
  exact ⟨He.eqO_ok h1, He.eqO_ok h2, of_decide_eq_true h3, h4, He.eqO_ok h5, He.eqO_ok h6, of_decide_eq_true h7, of_decide_eq_true h8⟩
def xfB (K : PySem.W.Frag) : Bool := xN.all fun a => excB K (He.ga K a) && ((xN.all fun b => decide (PySem.W.kitOne K (.ref (He.ga K a)) (.ref (He.ga K b)) = some (decide (a = b)))) &&
  (decide (PySem.W.kitOne K (.ref (He.ga K a)) (.type "ValueError") = some true) && (decide (PySem.W.exmOne K (.ref (He.ga K a)) (.ref (He.ga K "HallError")) = some true) && decide (PySem.W.exmOne K (.ref (He.ga K a)) (.ref (He.ga K a)) = some true))))
theorem xfB_ok {K : PySem.W.Frag} (h : xfB K = true) : XF K := by
  have h' := List.all_eq_true.mp h
  refine ⟨fun a ha => excB_ok (He.ba (h' a ha)).1, fun a ha b hb => ?_, fun a ha => ?_, fun a ha => ?_, fun a ha => ?_⟩
  · exact of_decide_eq_true (List.all_eq_true.mp (He.ba (He.ba (h' a ha)).2).1 b hb)
  · exact of_decide_eq_true (He.ba (He.ba (He.ba (h' a ha)).2).2).1
  · exact of_decide_eq_true (He.ba (He.ba (He.ba (He.ba (h' a ha)).2).2).2).1
  · exact of_decide_eq_true (He.ba (He.ba (He.ba (He.ba (h' a ha)).2).2).2).2
def pairB (K : PySem.W.Frag) (p : Addr) (q : PySem.Str × PySem.Str) : Bool := match K.lookup p with
  | some ⟨.type c, _, .seq ⟨[.str a _, .str b _]⟩ _, _⟩ => decide (c = "tuple") && (decide (a = q.1) && decide (b = q.2))
  | _ => false
theorem pairB_ok {K : PySem.W.Frag} {p : Addr} {q : PySem.Str × PySem.Str} (h : pairB K p q = true) : ∃ (t u : Tok) (d : Option Addr) (m : Nat) (s2 : Array (Option Value)), K.lookup p = some ⟨.type "tuple", d, .seq #[.str q.1 t, .str q.2 u] m, s2⟩ := by
  unfold pairB at h
  split at h
  · rename_i c d a t b u m s e
    obtain ⟨h1, h⟩ := He.ba h
    obtain ⟨h2, h3⟩ := He.ba h
    have e1 := of_decide_eq_true h1
    have e2 := of_decide_eq_true h2
    have e3 := of_decide_eq_true h3
    subst e1 e2 e3
    exact ⟨t, u, d, m, s, e⟩
  · cases h
def refAt (its : Array Value) (j : Nat) : Addr := match its[j]? with | some (.ref p) => p | _ => 0
def pairsB (K : PySem.W.Frag) (a : Addr) (kvs : List (PySem.Str × PySem.Str)) : Bool := match K.lookup a with
  | some ⟨.type c, none, .seq its _, _⟩ => decide (c = "tuple") && (decide (its.size = kvs.length) && (decide (kvs.length ≤ 100) && (List.range kvs.length).all fun j => decide (its[j]? = some (.ref (refAt its j))) && pairB K (refAt its j) (kvs.getD j ("", ""))))
  | _ => false
theorem pairsB_ok {K : PySem.W.Frag} {a : Addr} {kvs : List (PySem.Str × PySem.Str)} (h : pairsB K a kvs = true) : KPairs K a kvs := by
  unfold pairsB at h
  split at h
  · rename_i c its m s e
    obtain ⟨h1, h⟩ := He.ba h
    obtain ⟨h2, h⟩ := He.ba h
    obtain ⟨h3, h4⟩ := He.ba h
    have e1 := of_decide_eq_true h1
    subst e1
    refine ⟨its, m, s, refAt its, e, of_decide_eq_true h2, of_decide_eq_true h3, fun j q hj => ?_⟩
    have hlt : j < kvs.length := (List.getElem?_eq_some_iff.mp hj).1
    have h5 := List.all_eq_true.mp h4 j (List.mem_range.mpr hlt)
    obtain ⟨h6, h7⟩ := He.ba h5
    have e2 : kvs.getD j ("", "") = q := by rw [List.getD_eq_getElem?_getD, hj]; rfl
    rw [e2] at h7
    exact ⟨of_decide_eq_true h6, pairB_ok h7⟩
  · cases h
theorem df_of {K : PySem.W.Frag} {mg : PySem.Str → Option Value} {x : PySem.Str} {st : Stmt} {ps : List PySem.Str} {h : Heap} (X : K.In h) (G : h.Ns mainGlobals mg) (c : (He.Fa.glo x).ok K = true) (F : ∃ fd, FunD K x x (defArgs st) (defBody st) (defScope st) [] [] (He.fAd K (x, none)) fd)
    (hb : ∀ (kV doc pm : Value) (an : Option Addr) (cdv ct : Value) (us : List Value), us.length = ps.length → bindArgs (PySem.W.fnOf x x (defArgs st) (defBody st) (defScope st) .none kV doc pm an cdv ct) ⟨us, []⟩ = pure (ps.zip us)) : Df K mg x st ps := by
  obtain ⟨fd, F⟩ := F
  exact ⟨_, fd, F, He.glo_ok X G c, F.bindsN hb⟩
/-- the end: the law's promise, from its model -/
theorem law_start {K : PySem.W.Frag} {fs : FS} (hfs : ∀ (sc : List Int) P X, sc.length ≤ 63 → P (.fz (.bl true)) [.fz (.sq (sc.map .int))] → fs [.fz (.sq (sc.map .int))] P X) (H : Hp) (a : Addr) (ns : List Int) (hl : ns.length ≤ 63) (hS : SqL K H a (ns.map V.int)) :
    SpM K fs [.ref a] H (fun v _ => v = .bl true) fun _ _ _ => False := by
  refine ⟨emp, H, [.fz (.sq (ns.map .int))], fun m _ => m = .fz (.bl true), fun _ _ => False, ⟨Same.emp, Same.refl _, Dj.emp_r, emp, .fz (.sq hS (RpL.ofInts ns)) .nil, Same.emp, Dj.emp_l, Dj.emp_l⟩, hfs ns _ _ hl rfl, fun m v ms' F' H' p S' e => ?_, fun c ms' F' H' p S' e => p⟩
  subst p
  cases S'.headF
  rfl
theorem _root_.L2.Room.units1 {k : Nat} {A : Around} (hr : L2.Room k A) : A.units + 65 < cLine := by
  have := hr.un
  omega
/-- no exception leaves it -/
theorem fnok_nox {P : Program} {w : World} {K : PySem.W.Frag} {mg : PySem.Str → Option Value} {base : Heap} {k : Nat} {f : Addr} {fd : FuncData} {ps : List PySem.Str} {sp : Sp} (F : FnOk P w K mg base (L2.CX P w) k f fd ps sp) :
    FnOk P w K mg base L2.CX0 k f fd ps (fun vs H Q _ => sp vs H Q fun _ _ _ => False) := by
  refine ⟨fun vs H Q _ h => F.len vs H Q _ h, fun A outer s H args us vs Q E hr he hb hv h => codeAny_mono (F.run A outer s H args us vs Q _ hr he hb hv h) fun r s' q => ?_⟩
  cases r with
  | ok f => cases f <;> exact q
  | error e =>
    obtain ⟨_, _, _, _, _, _, _, _, _, _, _, _, hE⟩ := q
    exact hE.elim
structure DfF (K : PySem.W.Frag) (mg : PySem.Str → Option Value) (x : PySem.Str) (st : Stmt) (ps : List PySem.Str) (f : Addr) (fd : FuncData) : Prop where
  fn : FunD K x x (defArgs st) (defBody st) (defScope st) [] [] f fd
theorem ok_mkF {P : Program} {w : World} {K : PySem.W.Frag} {mg : PySem.Str → Option Value} {base : Heap} {x : PySem.Str} {st : Stmt} {Nn ps : List PySem.Str} {k : Nat} {fs : FS} {t : WX → TS} {f : Addr} {fd : FuncData}
    (Dd : DfF K mg x st ps f fd) (S : FnScope Nn ps (defScope st)) (hnp : ps.length ≤ Nn.length)
    (hw : FsOk K ps.length Nn.length fs t)
    (der : ∀ (f : Addr) (cdv : Value) (A : Around) (outer : List Env) (s : Shared) (H : Hp) (E : XK), Room k (cxOf (L2.CX P w) P w K mg base Nn x (defScope st) f cdv A outer s H E).A →
      Takes (cxOf (L2.CX P w) P w K mg base Nn x (defScope st) f cdv A outer s H E) (fun c d _ H => E c d H) →
      PassesOwn (model P w) (cxOf (L2.CX P w) P w K mg base Nn x (defScope st) f cdv A outer s H E).A (cxOf (L2.CX P w) P w K mg base Nn x (defScope st) f cdv A outer s H E).env (cxOf (L2.CX P w) P w K mg base Nn x (defScope st) f cdv A outer s H E).xe →
      PSs (cxOf (L2.CX P w) P w K mg base Nn x (defScope st) f cdv A outer s H E) (defBody st) (t (fun c d _ H => E c d H))) :
    FnOk P w K mg base (L2.CX P w) (k + 1) f fd ps (SpM K fs) := by
  refine Dd.fn.ok S (fun vs H Q E h => (fs_run (t := t) hnp hw vs H Q E h).1) (fun cdv A outer s H vs Q E hr h => ?_)
  exact ⟨_, der f cdv A outer s H E hr (takes_of rfl rfl rfl rfl) (passes_of rfl), (fs_run hnp hw vs H Q E h).2⟩
end M
namespace M
open PySem PySem.Spec PyProof.Rows L2
/-! ### methods: as the head tells them -/
structure DfM (K : PySem.W.Frag) (C : Addr) (m q : PySem.Str) (st : Stmt) (ps : List PySem.Str) : Prop where
  ex : ∃ (f : Addr) (fd : FuncData), FunD K m q (defArgs st) (defBody st) (defScope st) [] [] f fd ∧ Cls K C ∧ Meth K C m f ∧ Binds K fd ps []
structure DfI (K : PySem.W.Frag) (mg : PySem.Str → Option Value) (C : Addr) (x q : PySem.Str) (st : Stmt) (ps : List PySem.Str) : Prop where
  ex : ∃ (f : Addr) (fd : FuncData), FunD K "__init__" q (defArgs st) (defBody st) (defScope st) [] [] f fd ∧ Mk K C f ∧ mg x = some (.ref C) ∧ Binds K fd ps []
theorem ok_mkM {P : Program} {w : World} {K : PySem.W.Frag} {mg : PySem.Str → Option Value} {base : Heap} {C : Addr} {m q : PySem.Str} {st : Stmt} {Nn ps : List PySem.Str} {k : Nat} {fs : FS} {t : WX → TS}
    (Dd : DfM K C m q st ps) (S : FnScope Nn ps (defScope st)) (hnp : ps.length ≤ Nn.length) (hw : FsOk K ps.length Nn.length fs t)
    (der : ∀ (f : Addr) (cdv : Value) (A : Around) (outer : List Env) (s : Shared) (H : Hp) (E : XK), Room k (cxOf (L2.CX P w) P w K mg base Nn q (defScope st) f cdv A outer s H E).A →
      Takes (cxOf (L2.CX P w) P w K mg base Nn q (defScope st) f cdv A outer s H E) (fun c d _ H => E c d H) →
      PassesOwn (model P w) (cxOf (L2.CX P w) P w K mg base Nn q (defScope st) f cdv A outer s H E).A (cxOf (L2.CX P w) P w K mg base Nn q (defScope st) f cdv A outer s H E).env (cxOf (L2.CX P w) P w K mg base Nn q (defScope st) f cdv A outer s H E).xe →
      PSs (cxOf (L2.CX P w) P w K mg base Nn q (defScope st) f cdv A outer s H E) (defBody st) (t (fun c d _ H => E c d H))) :
    OkM P w K mg base C m ps (k + 1) (SpM K fs) := by
  obtain ⟨f, fd, F, c, hm, hb⟩ := Dd.ex
  refine ⟨f, fd, F.ok S (fun vs H Q E h => (fs_run (t := t) hnp hw vs H Q E h).1) (fun cdv A outer s H vs Q E hr h => ?_), c, hm, hb⟩
  exact ⟨_, der f cdv A outer s H E hr (takes_of rfl rfl rfl rfl) (passes_of rfl), (fs_run hnp hw vs H Q E h).2⟩
theorem ok_mkI {P : Program} {w : World} {K : PySem.W.Frag} {mg : PySem.Str → Option Value} {base : Heap} {C : Addr} {x q : PySem.Str} {st : Stmt} {Nn ps : List PySem.Str} {k : Nat} {fs : FS} {t : WX → TS}
    (Dd : DfI K mg C x q st ps) (S : FnScope Nn ps (defScope st)) (hnp : ps.length ≤ Nn.length) (hw : FsOk K ps.length Nn.length fs t)
    (der : ∀ (f : Addr) (cdv : Value) (A : Around) (outer : List Env) (s : Shared) (H : Hp) (E : XK), Room k (cxOf (L2.CX P w) P w K mg base Nn q (defScope st) f cdv A outer s H E).A →
      Takes (cxOf (L2.CX P w) P w K mg base Nn q (defScope st) f cdv A outer s H E) (fun c d _ H => E c d H) →
      PassesOwn (model P w) (cxOf (L2.CX P w) P w K mg base Nn q (defScope st) f cdv A outer s H E).A (cxOf (L2.CX P w) P w K mg base Nn q (defScope st) f cdv A outer s H E).env (cxOf (L2.CX P w) P w K mg base Nn q (defScope st) f cdv A outer s H E).xe →
      PSs (cxOf (L2.CX P w) P w K mg base Nn q (defScope st) f cdv A outer s H E) (defBody st) (t (fun c d _ H => E c d H))) :
    OkI P w K mg base C x ps (k + 1) (SpM K fs) := by
  obtain ⟨f, fd, F, hm, hx, hb⟩ := Dd.ex
  refine ⟨f, fd, F.ok S (fun vs H Q E h => (fs_run (t := t) hnp hw vs H Q E h).1) (fun cdv A outer s H vs Q E hr h => ?_), hm, hx, hb⟩
  exact ⟨_, der f cdv A outer s H E hr (takes_of rfl rfl rfl rfl) (passes_of rfl), (fs_run hnp hw vs H Q E h).2⟩
theorem dfm_of {K : PySem.W.Frag} {x m q : PySem.Str} {st : Stmt} {ps : List PySem.Str} (c1 : (He.Fa.cls x).ok K = true) (c2 : (He.Fa.meth x m).ok K = true) (F : ∃ fd, FunD K m q (defArgs st) (defBody st) (defScope st) [] [] (He.fAd K (x, some m)) fd)
    (hb : ∀ (kV doc pm : Value) (an : Option Addr) (cdv ct : Value) (us : List Value), us.length = ps.length → bindArgs (PySem.W.fnOf m q (defArgs st) (defBody st) (defScope st) .none kV doc pm an cdv ct) ⟨us, []⟩ = pure (ps.zip us)) : DfM K (He.ga K x) m q st ps := by
  obtain ⟨fd, F⟩ := F
  exact ⟨_, fd, F, He.cls_ok c1, He.meth_ok c2, F.bindsN hb⟩
theorem dfi_of {K : PySem.W.Frag} {mg : PySem.Str → Option Value} {x q : PySem.Str} {st : Stmt} {ps : List PySem.Str} {h : Heap} (X : K.In h) (G : h.Ns mainGlobals mg) (c : (He.Fa.glo x).ok K = true) (c2 : (He.Fa.mkr x).ok K = true) (F : ∃ fd, FunD K "__init__" q (defArgs st) (defBody st) (defScope st) [] [] (He.fAd K (x, some "__init__")) fd)
    (hb : ∀ (kV doc pm : Value) (an : Option Addr) (cdv ct : Value) (us : List Value), us.length = ps.length → bindArgs (PySem.W.fnOf "__init__" q (defArgs st) (defBody st) (defScope st) .none kV doc pm an cdv ct) ⟨us, []⟩ = pure (ps.zip us)) : DfI K mg (He.ga K x) x q st ps := by
  obtain ⟨fd, F⟩ := F
  exact ⟨_, fd, F, He.mkr_ok c2, He.glo_ok X G c, F.bindsN hb⟩
def clsB (K : PySem.W.Frag) (x : PySem.Str) (names : List PySem.Str) : Bool := (He.Fa.cls x).ok K && names.all fun f => (He.Fa.noat x f).ok K
theorem clsB_ok {K : PySem.W.Frag} {x : PySem.Str} {names : List PySem.Str} (h : clsB K x names = true) : ClsF K (He.ga K x) names := by
  obtain ⟨h1, h2⟩ := He.ba h
  exact ⟨He.cls_ok h1, fun f hf => He.noat_ok (List.all_eq_true.mp h2 f hf)⟩
/-! ### a tuple of texts of the text -/
def strsB : List PySem.Str → List Value → Bool
  | [], [] => true
  | x :: xs, .str y _ :: vs => decide (y = x) && strsB xs vs
  | _, _ => false
def tupB (K : PySem.W.Frag) (a : Addr) (xs : List PySem.Str) : Bool := match K.lookup a with
  | some ⟨.type c, _, .seq its _, _⟩ => decide (c = "tuple") && (decide (its.size ≤ 100) && strsB xs its.toList)
  | _ => false
theorem strsB_ok : ∀ {xs : List PySem.Str} {vs : List Value}, strsB xs vs = true → Vals (xs.map V.str) vs
  | [], [], _ => .nil
  | x :: xs, .str y t :: vs, h => by
    simp only [strsB, Bool.and_eq_true, decide_eq_true_eq] at h
    obtain ⟨rfl, h⟩ := h
    exact .cons ⟨t, rfl⟩ (strsB_ok h)
  | [], _ :: _, h => by cases h
  | _ :: _, [], h => by cases h
  | _ :: _, .none :: _, h => by cases h
  | _ :: _, .bool _ :: _, h => by cases h
  | _ :: _, .int _ _ :: _, h => by cases h
  | _ :: _, .ref _ :: _, h => by cases h
  | _ :: _, .type _ :: _, h => by cases h
  | _ :: _, .builtin _ :: _, h => by cases h
/-- a name of the text for a tuple of texts -/
def KTup (K : PySem.W.Frag) (a : Addr) (xs : List PySem.Str) : Prop := ∀ F, Rp K F (.ref a) (.tup (xs.map .str))
theorem tupB_ok {K : PySem.W.Frag} {a : Addr} {xs : List PySem.Str} (h : tupB K a xs = true) : KTup K a xs := by
  unfold tupB at h
  split at h
  · rename_i c d its n sl e
    obtain ⟨h1, h⟩ := He.ba h
    obtain ⟨h2, h3⟩ := He.ba h
    have e1 := of_decide_eq_true h1
    have e2 := of_decide_eq_true h2
    subst e1
    exact fun F => .tup (.inr ⟨_, its, n, e, rfl, rfl, by rw [sizeLine_eq]; omega, strsB_ok h3⟩) (RpL.ofStrs xs)
  · cases h
end M
namespace M
open PySem PySem.Spec PyProof.Rows L2
/-! ### patterns -/
/-- a sign of the first hundred and twenty-eight; not too long -/
def ascS (x : PySem.Str) : Bool := decide (x.length ≤ 1000) && x.cps.toList.all fun c => decide (c < 128)
theorem ascS_iff {x : PySem.Str} : ascS x = true ↔ x.length ≤ 1000 ∧ ∀ c ∈ x.cps.toList, c < 128 := by
  unfold ascS
  simp only [Bool.and_eq_true, decide_eq_true_eq, List.all_eq_true]
def fs_is_word (K : PySem.W.Frag) : FS := fun ms P X => ∃ x, ms = [.fz (.str x)] ∧ ascS x = true ∧ P (.fz (.bl (isWordS x))) ms
/-- is_word: slots 0 text, 1 sign -/
def t_is_word (K : PySem.W.Frag) : WX → TS := fun W => (tRet (tAndV (tOp (rNeA K) (tVar 0) (tC (.str ""))) (tCB (rAll K) (tCons (tLcW (iStr (tVar 0)) (gName 1) (fun W => tYes) (fun W => (tOp (rInA K) (tVar 1) (tC (.str "abcdefghijklmnopqrstuvwxyz0123456789")))) [1]) tNil))))
theorem filt_true {α β : Type} (f : α → β) (l : List α) : (l.filter fun _ => true).map f = l.map f := by
  rw [List.filter_eq_self.mpr (fun _ _ => rfl)]
theorem h_is_word {K : PySem.W.Frag} : FsOk K 1 2 (fs_is_word K) (t_is_word K) := by
  intro ms P X hf
  obtain ⟨x, rfl, ha, hP⟩ := hf
  obtain ⟨hl, hc⟩ := ascS_iff.mp ha
  refine ⟨rfl, ?_⟩
  unfold t_is_word
  (repeat (first | refine wd_var rfl (by decide) ?_ | with_reducible refine wd_int ?_ | with_reducible refine wd_str ?_ | with_reducible refine wd_bl ?_ | with_reducible refine wd_non ?_ | with_reducible refine wd_op ?_ | with_reducible refine wd_cb ?_ | with_reducible refine wa_cons ?_ | with_reducible refine wa_nil ?_ | with_reducible refine ws_seq ?_ | refine ws_set (by decide) ?_ | with_reducible refine ws_ret ?_ | with_reducible refine ws_if ?_ | with_reducible refine ws_next ?_ | with_reducible refine wt_rng ?_ | with_reducible refine wt_test ?_ | with_reducible refine wt_B ?_ | with_reducible refine wt_and ?_ | with_reducible refine wt_or ?_ | with_reducible refine wt_not ?_ | with_reducible refine wt_tru ?_ | with_reducible refine wd_if ?_ | with_reducible refine wd_andV ?_ | with_reducible refine wd_orV ?_ | with_reducible refine wd_notV ?_ | with_reducible refine wd_chain ?_ | with_reducible refine wd_tup ?_ | with_reducible refine wd_lst ?_ | with_reducible refine wd_un ?_ | with_reducible refine wd_bm ?_ | with_reducible refine wd_sl ?_ | with_reducible refine wo_none ?_ | with_reducible refine wo_some ?_ | with_reducible refine ws_asg ?_ | refine wg_tup rfl ?_ | with_reducible refine wgs_cons ?_ | with_reducible refine wgs_nil ?_ | refine wg_name (by decide) ?_ | with_reducible refine o_eqS ?_ | with_reducible refine o_neS ?_ | with_reducible refine o_eqI ?_ | with_reducible refine o_neI ?_ | refine o_isN rfl ?_ | refine o_notN rfl ?_ | refine o_ixT rfl ?_ | with_reducible refine o_addI ?_ | with_reducible refine o_I0b ?_ | with_reducible refine o_I0i ?_ | with_reducible refine un_negI ?_ | with_reducible refine s_lst ?_ | with_reducible refine wt_yes ?_ | refine c_len rfl (by first | omega | (simp <;> omega)) ?_ | refine o_addL (by first | omega | (simp <;> omega)) ?_ | refine ite_t rfl ?_ | refine ite_f rfl ?_ | refine ite_t (by decide +kernel) ?_ | refine ite_f (by decide +kernel) ?_ | refine o_inT rfl rfl ?_ | refine o_notInT rfl rfl ?_ | refine ⟨_, rfl, ?_⟩ | refine ⟨Nat.le_of_ble_eq_true rfl, ?_⟩ | refine ⟨fun _ _ _ => ty_lst, ?_⟩))
  by_cases h0 : x = ""
  · subst h0
    simp only [decide_true, Bool.not_true, Bool.false_eq_true, if_false]
    exact ⟨_, .fz .nil, hP⟩
  · have e0 : x.cps.toList ≠ [] := fun z => h0 (by rw [← S_cps x, z]; rfl)
    simp only [h0, decide_false, Bool.not_false, if_true]
    (repeat (first | refine wd_var rfl (by decide) ?_ | with_reducible refine wd_int ?_ | with_reducible refine wd_str ?_ | with_reducible refine wd_bl ?_ | with_reducible refine wd_non ?_ | with_reducible refine wd_op ?_ | with_reducible refine wd_cb ?_ | with_reducible refine wa_cons ?_ | with_reducible refine wa_nil ?_ | with_reducible refine ws_seq ?_ | refine ws_set (by decide) ?_ | with_reducible refine ws_ret ?_ | with_reducible refine ws_if ?_ | with_reducible refine ws_next ?_ | with_reducible refine wt_rng ?_ | with_reducible refine wt_test ?_ | with_reducible refine wt_B ?_ | with_reducible refine wt_and ?_ | with_reducible refine wt_or ?_ | with_reducible refine wt_not ?_ | with_reducible refine wt_tru ?_ | with_reducible refine wd_if ?_ | with_reducible refine wd_andV ?_ | with_reducible refine wd_orV ?_ | with_reducible refine wd_notV ?_ | with_reducible refine wd_chain ?_ | with_reducible refine wd_tup ?_ | with_reducible refine wd_lst ?_ | with_reducible refine wd_un ?_ | with_reducible refine wd_bm ?_ | with_reducible refine wd_sl ?_ | with_reducible refine wo_none ?_ | with_reducible refine wo_some ?_ | with_reducible refine ws_asg ?_ | refine wg_tup rfl ?_ | with_reducible refine wgs_cons ?_ | with_reducible refine wgs_nil ?_ | refine wg_name (by decide) ?_ | with_reducible refine o_eqS ?_ | with_reducible refine o_neS ?_ | with_reducible refine o_eqI ?_ | with_reducible refine o_neI ?_ | refine o_isN rfl ?_ | refine o_notN rfl ?_ | refine o_ixT rfl ?_ | with_reducible refine o_addI ?_ | with_reducible refine o_I0b ?_ | with_reducible refine o_I0i ?_ | with_reducible refine un_negI ?_ | with_reducible refine s_lst ?_ | with_reducible refine wt_yes ?_ | refine c_len rfl (by first | omega | (simp <;> omega)) ?_ | refine o_addL (by first | omega | (simp <;> omega)) ?_ | refine ite_t rfl ?_ | refine ite_f rfl ?_ | refine ite_t (by decide +kernel) ?_ | refine ite_f (by decide +kernel) ?_ | refine o_inT rfl rfl ?_ | refine o_notInT rfl rfl ?_ | refine ⟨_, rfl, ?_⟩ | refine ⟨Nat.le_of_ble_eq_true rfl, ?_⟩ | refine ⟨fun _ _ _ => ty_lst, ?_⟩))
    refine wd_lcMap (by simp) (gok_name (by simp)) (wi_str (wd_var rfl (by decide) ⟨x, rfl, ?_⟩))
    refine ⟨by simp [sgnD]; unfold Str.length at hl; omega, fun _ => true, fun d => match d with | .str y => .bl (y.cps.toList.all isW) | _ => .non, fun d hd => ?_, ?_⟩
    · obtain ⟨c, hcc, rfl⟩ := List.mem_map.mp hd
      refine wg_name (by decide) (wt_yes ⟨rfl, rfl, fun _ => ?_⟩)
      refine wd_op (wd_var rfl (by decide) (wd_str (o_inS ⟨?_, rfl⟩)))
      have := letters_in ⟨c, hc c hcc⟩
      simp only at this
      rw [this]
      simp
    · rw [filt_true]
      have e : (sgnD x).map (fun d => match d with | .str y => D.bl (y.cps.toList.all isW) | _ => .non) = (x.cps.toList.map isW).map .bl := by
        unfold sgnD
        rw [List.map_map, List.map_map]
        apply List.map_congr_left
        intro c _
        simp
      rw [e]
      refine wa_nil (c_all ⟨_, .fz .nil, ?_⟩)
      have e2 : (x.cps.toList.map isW).all id = isWordS x := by
        unfold isWordS
        simp [List.all_map, e0]
      rw [e2]
      exact hP
/-- a part, as it may be handed in -/
inductive RP where
  | of (ws : List PySem.Str)
  | ot (k s : PySem.Str) (ex : List PySem.Str)
def RP.kind : RP → PySem.Str
  | .of _ => "of"
  | .ot k _ _ => k
def RP.arg : RP → D
  | .of ws => strsD ws
  | .ot _ s _ => .str s
def RP.rest : RP → List D
  | .of _ => []
  | .ot _ _ ex => ex.map .str
def rpD (r : RP) : D := .tup (.str r.kind :: r.arg :: r.rest)
/-- its form can be looked at -/
def RP.ok : RP → Prop
  | .of ws => ws.length ≤ 100 ∧ ∀ w ∈ ws, ascS w = true
  | .ot k s ex => k ≠ "of" ∧ ascS s = true ∧ ex.length ≤ 100
def RP.isN (r : RP) : Bool := decide (r.kind = "one") || decide (r.kind = "any")
def goodPart : RP → Bool
  | .of ws => decide (1 ≤ ws.length) && decide (ws.length ≤ 4) && ws.all isWordS
  | .ot k s ex => decide (ex = []) && (decide (k = "word") || (decide (k = "one") || decide (k = "any"))) && isWordS s
def RP.name : RP → List PySem.Str
  | .of _ => []
  | .ot k s _ => if decide (k = "one") || decide (k = "any") then [s] else []
def namesP (rs : List RP) : List PySem.Str := rs.flatMap RP.name
def goodP (rs : List RP) : Bool := decide (1 ≤ rs.length) && decide (rs.length ≤ 6) && rs.all goodPart && decide (ddN [] (namesP rs) = (namesP rs).length)
def patD (rs : List RP) : D := .lst (rs.map rpD)
def fs_look_pattern (K : PySem.W.Frag) : FS := fun ms P X => ∃ rs, ms = [.fz (patD rs)] ∧ rs.length ≤ 1000 ∧ (∀ r ∈ rs, r.ok) ∧ (goodP rs = true → P (.fz .non) ms) ∧ (goodP rs = false → X (.ref (He.ga K "BadPattern")) ms)
/-- look_pattern: slots 0 pattern, 1 names, 2 part, 3 words, 4 word -/
def t_look_pattern (K : PySem.W.Frag) : WX → TS := fun W => (tSeq (tIfS (tNot (tTest (tChain (rI0 fun i j => .bl (decide (i ≤ j))) (rI0 fun i j => .bl (decide (i ≤ j))) (tC (.int 1)) (tCB (rLenA K) (tCons (tVar 0) tNil)) (tC (.int 6))))) (fun _ σ H => W (.ref (He.ga K "BadPattern")) none σ H) tNext) (tSeq (tAsg (tLst tNil) (gName 1)) (tSeq (tFor (iList K (tVar 0)) (gName 2) (tSeq (tIfS (tOr (tTest (tOp (rNeA K) (tCB (rLenA K) (tCons (tVar 2) tNil)) (tC (.int 2)))) (tTest (tOp (rNotInA K) (tOp (rIxA K) (tVar 2) (tC (.int 0))) (tTup (tCons (tC (.str "word")) (tCons (tC (.str "of")) (tCons (tC (.str "one")) (tCons (tC (.str "any")) tNil)))))))) (fun _ σ H => W (.ref (He.ga K "BadPattern")) none σ H) tNext) (tSeq (tAsg (tIf (tTest (tOp (rEqA K) (tOp (rIxA K) (tVar 2) (tC (.int 0))) (tC (.str "of")))) (tOp (rIxA K) (tVar 2) (tC (.int 1))) (tLst (tCons (tOp (rIxA K) (tVar 2) (tC (.int 1))) tNil))) (gName 3)) (tSeq (tIfS (tOr (tNot (tTest (tChain (rI0 fun i j => .bl (decide (i ≤ j))) (rI0 fun i j => .bl (decide (i ≤ j))) (tC (.int 1)) (tCB (rLenA K) (tCons (tVar 3) tNil)) (tC (.int 4))))) (tNot (tB (tCB (rAll K) (tCons (tLcW (iList K (tVar 3)) (gName 4) (fun W => tYes) (fun W => (tCallS (SpM K (fs_is_word K)) (WE W) (tCons (tVar 4) tNil))) [4]) tNil))))) (fun _ σ H => W (.ref (He.ga K "BadPattern")) none σ H) tNext) (tIfS (tTest (tOp (rInA K) (tOp (rIxA K) (tVar 2) (tC (.int 0))) (tTup (tCons (tC (.str "one")) (tCons (tC (.str "any")) tNil))))) (tDrop (tBM K "list" rAppend (tVar 1) (tCons (tOp (rIxA K) (tVar 2) (tC (.int 1))) tNil))) tNext))))) (tIfS (tTest (tOp (rI0 fun i j => .bl (decide (i < j))) (tLenSetS K (tVar 1)) (tCB (rLenA K) (tCons (tVar 1) tNil)))) (fun _ σ H => W (.ref (He.ga K "BadPattern")) none σ H) tNext))))
theorem inD_strs (x : PySem.Str) : ∀ l : List PySem.Str, inD (.str x) (l.map .str) = decide (x ∈ l)
  | [] => by simp [inD]
  | y :: l => by
    have := inD_strs x l
    simp only [inD, List.map_cons, List.any_cons] at this ⊢
    rw [this]
    by_cases h : x = y
    · subst h; simp [eqD]
    · have h' : ¬ y = x := fun z => h z.symm
      simp [eqD, h, h']
theorem goodPart_iff {r : RP} (hok : r.ok) : goodPart r = true ↔ r.rest = [] ∧ (r.kind = "word" ∨ r.kind = "of" ∨ r.kind = "one" ∨ r.kind = "any") ∧ (match r with | .of ws => 1 ≤ ws.length ∧ ws.length ≤ 4 ∧ ws.all isWordS = true | .ot _ s _ => isWordS s = true) := by
  cases r with
  | of ws => simp [goodPart, RP.rest, RP.kind, and_assoc]
  | ot k s ex =>
    have := hok.1
    simp [goodPart, RP.rest, RP.kind, this, and_assoc]
/-- the words of a part -/
def RP.ws : RP → List PySem.Str
  | .of ws => ws
  | .ot _ s _ => [s]
theorem RP.ok.ws {r : RP} (h : r.ok) : r.ws.length ≤ 100 ∧ ∀ w ∈ r.ws, ascS w = true := by
  cases r with
  | of ws => exact h
  | ot k s ex =>
    refine ⟨by simp [RP.ws], fun w hw => ?_⟩
    simp [RP.ws] at hw
    subst hw
    exact h.2.1
theorem goodPart_ws {r : RP} (hok : r.ok) : goodPart r = (decide (r.rest = []) && (decide (r.kind = "word") || (decide (r.kind = "of") || (decide (r.kind = "one") || decide (r.kind = "any")))) && (decide (1 ≤ r.ws.length) && decide (r.ws.length ≤ 4)) && r.ws.all isWordS) := by
  cases r with
  | of ws => simp [goodPart, RP.rest, RP.kind, RP.ws, Bool.and_assoc]; rfl
  | ot k s ex =>
    have := hok.1
    simp [goodPart, RP.rest, RP.kind, RP.ws, this, Bool.and_assoc]; rfl
theorem RP.name_eq {r : RP} (h : goodPart r = true) : r.name = if r.isN = true then r.ws else [] := by
  cases r with
  | of ws =>
    have h1 : decide (PySem.Str.ofString "of" = PySem.Str.ofString "one") = false := by decide +kernel
    have h2 : decide (PySem.Str.ofString "of" = PySem.Str.ofString "any") = false := by decide +kernel
    simp only [RP.name, RP.isN, RP.kind, h1, h2]; rfl
  | ot k s ex => rfl
theorem names_len : ∀ l : List RP, (namesP l).length ≤ l.length
  | [] => by simp [namesP]
  | r :: rs => by
    have ih := names_len rs
    have : r.name.length ≤ 1 := by
      cases r with
      | of ws => simp [RP.name]
      | ot k s ex => simp only [RP.name]; split <;> simp
    unfold namesP at ih ⊢
    simp only [List.flatMap_cons, List.length_append, List.length_cons]
    omega
abbrev nmT (p : Addr) (l : List PySem.Str) : MV := .ot p (.lst ((l.map D.str).map .lf))
theorem h_look_pattern {K : PySem.W.Frag} : FsOk K 1 5 (fs_look_pattern K) (t_look_pattern K) := by
  intro ms P X hf
  obtain ⟨rs, rfl, hl, hok, hP, hX⟩ := hf
  refine ⟨rfl, ?_⟩
  unfold t_look_pattern
  have bad : ∀ {m : List MV} {N : List MV → Prop}, goodP rs = false → wpS K 5 (fun W => fun _ σ H => W (.ref (He.ga K "BadPattern")) none σ H) (.fz (.lst (rs.map rpD)) :: m) N (fun m me => ∃ ms', Back [.fz (.lst (rs.map rpD))] me ms' ∧ P m ms') (fun c me => ∃ ms', Back [.fz (.lst (rs.map rpD))] me ms' ∧ X c ms') := fun hg => ws_raise ⟨_, .fz .nil, hX hg⟩
  unfold patD at *
  (repeat (first | refine wd_var rfl (by decide) ?_ | with_reducible refine wd_int ?_ | with_reducible refine wd_str ?_ | with_reducible refine wd_bl ?_ | with_reducible refine wd_non ?_ | with_reducible refine wd_op ?_ | with_reducible refine wd_cb ?_ | with_reducible refine wa_cons ?_ | with_reducible refine wa_nil ?_ | with_reducible refine ws_seq ?_ | refine ws_set (by decide) ?_ | with_reducible refine ws_ret ?_ | with_reducible refine ws_if ?_ | with_reducible refine ws_next ?_ | with_reducible refine wt_rng ?_ | with_reducible refine wt_test ?_ | with_reducible refine wt_B ?_ | with_reducible refine wt_and ?_ | with_reducible refine wt_or ?_ | with_reducible refine wt_not ?_ | with_reducible refine wt_tru ?_ | with_reducible refine wd_if ?_ | with_reducible refine wd_andV ?_ | with_reducible refine wd_orV ?_ | with_reducible refine wd_notV ?_ | with_reducible refine wd_chain ?_ | with_reducible refine wd_tup ?_ | with_reducible refine wd_lst ?_ | with_reducible refine wd_un ?_ | with_reducible refine wd_bm ?_ | with_reducible refine wd_sl ?_ | with_reducible refine wo_none ?_ | with_reducible refine wo_some ?_ | with_reducible refine ws_asg ?_ | refine wg_tup rfl ?_ | with_reducible refine wgs_cons ?_ | with_reducible refine wgs_nil ?_ | refine wg_name (by decide) ?_ | with_reducible refine o_eqS ?_ | with_reducible refine o_neS ?_ | with_reducible refine o_eqI ?_ | with_reducible refine o_neI ?_ | refine o_isN rfl ?_ | refine o_notN rfl ?_ | refine o_ixT rfl ?_ | with_reducible refine o_addI ?_ | with_reducible refine o_I0b ?_ | with_reducible refine o_I0i ?_ | with_reducible refine un_negI ?_ | with_reducible refine s_lst ?_ | with_reducible refine wt_yes ?_ | refine c_len rfl (by first | omega | (simp <;> omega)) ?_ | refine o_addL (by first | omega | (simp <;> omega)) ?_ | refine ite_t rfl ?_ | refine ite_f rfl ?_ | refine ite_t (by decide +kernel) ?_ | refine ite_f (by decide +kernel) ?_ | refine o_inT rfl rfl ?_ | refine o_notInT rfl rfl ?_ | refine ⟨_, rfl, ?_⟩ | refine ⟨Nat.le_of_ble_eq_true rfl, ?_⟩ | refine ⟨fun _ _ _ => ty_lst, ?_⟩))
  refine ite_b (fun hr => bad ?_) (fun hr => ?_)
  · have : ¬ (1 ≤ rs.length ∧ rs.length ≤ 6) := by simp at hr; omega
    by_cases q1 : 1 ≤ rs.length
    · have q2 : ¬ rs.length ≤ 6 := by omega
      simp [goodP, q2]
    · simp [goodP, q1]
  · have hlen : 1 ≤ rs.length ∧ rs.length ≤ 6 := by simp at hr; omega
    refine ws_next (ws_seq (ws_setN (by decide) (wn_lst (wa_nil ⟨by decide, fun p => ?_⟩))))
    refine ws_cut (fun m => ∃ z2 z3, m = [.fz (.lst (rs.map rpD)), nmT p (namesP rs), z2, z3, .un] ∧ rs.all goodPart = true) ?_ ?_
    · refine ws_for (wi_list (wd_var rfl (by decide) ⟨_, rfl, ?_⟩))
      refine ⟨fun i m => ∃ z2 z3, m = [.fz (.lst (rs.map rpD)), nmT p (namesP (rs.take i)), z2, z3, .un] ∧ (rs.take i).all goodPart = true, ⟨_, _, rfl, rfl⟩, ?_, ?_⟩
      · rintro i d m hd ⟨z2, z3, rfl, hg⟩
        obtain ⟨r, hr, rfl⟩ : ∃ r, rs[i]? = some r ∧ d = rpD r := by
          rw [List.getElem?_map] at hd
          cases q : rs[i]? with
          | none => rw [q] at hd; cases hd
          | some r => rw [q] at hd; exact ⟨r, rfl, (Option.some.inj hd).symm⟩
        have hro := hok r (List.mem_of_getElem? hr)
        have take1 : rs.take (i + 1) = rs.take i ++ [r] := by rw [List.take_add_one, hr]; rfl
        have badr : goodPart r = false → goodP rs = false := fun h => by
          have : rs.all goodPart = false := List.all_eq_false.mpr ⟨r, List.mem_of_getElem? hr, by simp [h]⟩
          simp [goodP, this]
        have gw := goodPart_ws hro
        have hrest : r.rest.length ≤ 100 := by cases r with | of ws => simp [RP.rest] | ot k s ex => simp [RP.rest]; exact hro.2.2
        refine wg_name (by decide) ?_
        refine ws_cut (fun m => m = [.fz (.lst (rs.map rpD)), nmT p (namesP (rs.take i)), .fz (rpD r), z3, .un] ∧ r.rest = [] ∧ (r.kind = "word" ∨ r.kind = "of" ∨ r.kind = "one" ∨ r.kind = "any")) ?_ ?_
        · (repeat (first | refine wd_var rfl (by decide) ?_ | with_reducible refine wd_int ?_ | with_reducible refine wd_str ?_ | with_reducible refine wd_bl ?_ | with_reducible refine wd_non ?_ | with_reducible refine wd_op ?_ | with_reducible refine wd_cb ?_ | with_reducible refine wa_cons ?_ | with_reducible refine wa_nil ?_ | with_reducible refine ws_seq ?_ | refine ws_set (by decide) ?_ | with_reducible refine ws_ret ?_ | with_reducible refine ws_if ?_ | with_reducible refine ws_next ?_ | with_reducible refine wt_rng ?_ | with_reducible refine wt_test ?_ | with_reducible refine wt_B ?_ | with_reducible refine wt_and ?_ | with_reducible refine wt_or ?_ | with_reducible refine wt_not ?_ | with_reducible refine wt_tru ?_ | with_reducible refine wd_if ?_ | with_reducible refine wd_andV ?_ | with_reducible refine wd_orV ?_ | with_reducible refine wd_notV ?_ | with_reducible refine wd_chain ?_ | with_reducible refine wd_tup ?_ | with_reducible refine wd_lst ?_ | with_reducible refine wd_un ?_ | with_reducible refine wd_bm ?_ | with_reducible refine wd_sl ?_ | with_reducible refine wo_none ?_ | with_reducible refine wo_some ?_ | with_reducible refine ws_asg ?_ | refine wg_tup rfl ?_ | with_reducible refine wgs_cons ?_ | with_reducible refine wgs_nil ?_ | refine wg_name (by decide) ?_ | with_reducible refine o_eqS ?_ | with_reducible refine o_neS ?_ | with_reducible refine o_eqI ?_ | with_reducible refine o_neI ?_ | refine o_isN rfl ?_ | refine o_notN rfl ?_ | refine o_ixT rfl ?_ | with_reducible refine o_addI ?_ | with_reducible refine o_I0b ?_ | with_reducible refine o_I0i ?_ | with_reducible refine un_negI ?_ | with_reducible refine s_lst ?_ | with_reducible refine wt_yes ?_ | refine c_len rfl (by first | omega | (simp <;> omega)) ?_ | refine o_addL (by first | omega | (simp <;> omega)) ?_ | refine ite_t rfl ?_ | refine ite_f rfl ?_ | refine ite_t (by decide +kernel) ?_ | refine ite_f (by decide +kernel) ?_ | refine o_inT rfl rfl ?_ | refine o_notInT rfl rfl ?_ | refine ⟨_, rfl, ?_⟩ | refine ⟨Nat.le_of_ble_eq_true rfl, ?_⟩ | refine ⟨fun _ _ _ => ty_lst, ?_⟩))
          refine ite_b (fun h => ?_) (fun h => ?_)
          · refine ite_t rfl (bad (badr ?_))
            have : r.rest ≠ [] := fun z => by rw [z] at h; simp at h
            rw [gw]; simp [this]
          · have hre : r.rest = [] := by
              have : r.rest.length = 0 := by simp at h; omega
              exact List.eq_nil_of_length_eq_zero this
            have hrp : rpD r = .tup [.str r.kind, r.arg] := by unfold rpD; rw [hre]
            rw [hrp]
            (repeat (first | refine wd_var rfl (by decide) ?_ | with_reducible refine wd_int ?_ | with_reducible refine wd_str ?_ | with_reducible refine wd_bl ?_ | with_reducible refine wd_non ?_ | with_reducible refine wd_op ?_ | with_reducible refine wd_cb ?_ | with_reducible refine wa_cons ?_ | with_reducible refine wa_nil ?_ | with_reducible refine ws_seq ?_ | refine ws_set (by decide) ?_ | with_reducible refine ws_ret ?_ | with_reducible refine ws_if ?_ | with_reducible refine ws_next ?_ | with_reducible refine wt_rng ?_ | with_reducible refine wt_test ?_ | with_reducible refine wt_B ?_ | with_reducible refine wt_and ?_ | with_reducible refine wt_or ?_ | with_reducible refine wt_not ?_ | with_reducible refine wt_tru ?_ | with_reducible refine wd_if ?_ | with_reducible refine wd_andV ?_ | with_reducible refine wd_orV ?_ | with_reducible refine wd_notV ?_ | with_reducible refine wd_chain ?_ | with_reducible refine wd_tup ?_ | with_reducible refine wd_lst ?_ | with_reducible refine wd_un ?_ | with_reducible refine wd_bm ?_ | with_reducible refine wd_sl ?_ | with_reducible refine wo_none ?_ | with_reducible refine wo_some ?_ | with_reducible refine ws_asg ?_ | refine wg_tup rfl ?_ | with_reducible refine wgs_cons ?_ | with_reducible refine wgs_nil ?_ | refine wg_name (by decide) ?_ | with_reducible refine o_eqS ?_ | with_reducible refine o_neS ?_ | with_reducible refine o_eqI ?_ | with_reducible refine o_neI ?_ | refine o_isN rfl ?_ | refine o_notN rfl ?_ | refine o_ixT rfl ?_ | with_reducible refine o_addI ?_ | with_reducible refine o_I0b ?_ | with_reducible refine o_I0i ?_ | with_reducible refine un_negI ?_ | with_reducible refine s_lst ?_ | with_reducible refine wt_yes ?_ | refine c_len rfl (by first | omega | (simp <;> omega)) ?_ | refine o_addL (by first | omega | (simp <;> omega)) ?_ | refine ite_t rfl ?_ | refine ite_f rfl ?_ | refine ite_t (by decide +kernel) ?_ | refine ite_f (by decide +kernel) ?_ | refine o_inT rfl rfl ?_ | refine o_notInT rfl rfl ?_ | refine ⟨_, rfl, ?_⟩ | refine ⟨Nat.le_of_ble_eq_true rfl, ?_⟩ | refine ⟨fun _ _ _ => ty_lst, ?_⟩))
            have e : inD (.str r.kind) [.str "word", .str "of", .str "one", .str "any"] = decide (r.kind ∈ (["word", "of", "one", "any"] : List PySem.Str)) := inD_strs r.kind ["word", "of", "one", "any"]
            rw [e]
            (repeat (first | refine wd_var rfl (by decide) ?_ | with_reducible refine wd_int ?_ | with_reducible refine wd_str ?_ | with_reducible refine wd_bl ?_ | with_reducible refine wd_non ?_ | with_reducible refine wd_op ?_ | with_reducible refine wd_cb ?_ | with_reducible refine wa_cons ?_ | with_reducible refine wa_nil ?_ | with_reducible refine ws_seq ?_ | refine ws_set (by decide) ?_ | with_reducible refine ws_ret ?_ | with_reducible refine ws_if ?_ | with_reducible refine ws_next ?_ | with_reducible refine wt_rng ?_ | with_reducible refine wt_test ?_ | with_reducible refine wt_B ?_ | with_reducible refine wt_and ?_ | with_reducible refine wt_or ?_ | with_reducible refine wt_not ?_ | with_reducible refine wt_tru ?_ | with_reducible refine wd_if ?_ | with_reducible refine wd_andV ?_ | with_reducible refine wd_orV ?_ | with_reducible refine wd_notV ?_ | with_reducible refine wd_chain ?_ | with_reducible refine wd_tup ?_ | with_reducible refine wd_lst ?_ | with_reducible refine wd_un ?_ | with_reducible refine wd_bm ?_ | with_reducible refine wd_sl ?_ | with_reducible refine wo_none ?_ | with_reducible refine wo_some ?_ | with_reducible refine ws_asg ?_ | refine wg_tup rfl ?_ | with_reducible refine wgs_cons ?_ | with_reducible refine wgs_nil ?_ | refine wg_name (by decide) ?_ | with_reducible refine o_eqS ?_ | with_reducible refine o_neS ?_ | with_reducible refine o_eqI ?_ | with_reducible refine o_neI ?_ | refine o_isN rfl ?_ | refine o_notN rfl ?_ | refine o_ixT rfl ?_ | with_reducible refine o_addI ?_ | with_reducible refine o_I0b ?_ | with_reducible refine o_I0i ?_ | with_reducible refine un_negI ?_ | with_reducible refine s_lst ?_ | with_reducible refine wt_yes ?_ | refine c_len rfl (by first | omega | (simp <;> omega)) ?_ | refine o_addL (by first | omega | (simp <;> omega)) ?_ | refine ite_t rfl ?_ | refine ite_f rfl ?_ | refine ite_t (by decide +kernel) ?_ | refine ite_f (by decide +kernel) ?_ | refine o_inT rfl rfl ?_ | refine o_notInT rfl rfl ?_ | refine ⟨_, rfl, ?_⟩ | refine ⟨Nat.le_of_ble_eq_true rfl, ?_⟩ | refine ⟨fun _ _ _ => ty_lst, ?_⟩))
            refine ite_b (fun h => bad (badr ?_)) (fun h => ws_next ⟨rfl, hre, ?_⟩)
            · rw [gw]; simp at h; simp [h]
            · have h' : r.kind ∈ (["word", "of", "one", "any"] : List PySem.Str) := of_decide_eq_true (by rw [Bool.not_eq_false'] at h; exact h)
              simpa using h'
        · rintro m ⟨rfl, hre, hk⟩
          have hrp : rpD r = .tup [.str r.kind, r.arg] := by unfold rpD; rw [hre]
          rw [hrp]
          obtain ⟨hwl, hwa⟩ := hro.ws
          refine ws_cut (fun m => m = [.fz (.lst (rs.map rpD)), nmT p (namesP (rs.take i)), .fz (.tup [.str r.kind, r.arg]), .fz (strsD r.ws), .un]) ?_ ?_
          · (repeat (first | refine wd_var rfl (by decide) ?_ | with_reducible refine wd_int ?_ | with_reducible refine wd_str ?_ | with_reducible refine wd_bl ?_ | with_reducible refine wd_non ?_ | with_reducible refine wd_op ?_ | with_reducible refine wd_cb ?_ | with_reducible refine wa_cons ?_ | with_reducible refine wa_nil ?_ | with_reducible refine ws_seq ?_ | refine ws_set (by decide) ?_ | with_reducible refine ws_ret ?_ | with_reducible refine ws_if ?_ | with_reducible refine ws_next ?_ | with_reducible refine wt_rng ?_ | with_reducible refine wt_test ?_ | with_reducible refine wt_B ?_ | with_reducible refine wt_and ?_ | with_reducible refine wt_or ?_ | with_reducible refine wt_not ?_ | with_reducible refine wt_tru ?_ | with_reducible refine wd_if ?_ | with_reducible refine wd_andV ?_ | with_reducible refine wd_orV ?_ | with_reducible refine wd_notV ?_ | with_reducible refine wd_chain ?_ | with_reducible refine wd_tup ?_ | with_reducible refine wd_lst ?_ | with_reducible refine wd_un ?_ | with_reducible refine wd_bm ?_ | with_reducible refine wd_sl ?_ | with_reducible refine wo_none ?_ | with_reducible refine wo_some ?_ | with_reducible refine ws_asg ?_ | refine wg_tup rfl ?_ | with_reducible refine wgs_cons ?_ | with_reducible refine wgs_nil ?_ | refine wg_name (by decide) ?_ | with_reducible refine o_eqS ?_ | with_reducible refine o_neS ?_ | with_reducible refine o_eqI ?_ | with_reducible refine o_neI ?_ | refine o_isN rfl ?_ | refine o_notN rfl ?_ | refine o_ixT rfl ?_ | with_reducible refine o_addI ?_ | with_reducible refine o_I0b ?_ | with_reducible refine o_I0i ?_ | with_reducible refine un_negI ?_ | with_reducible refine s_lst ?_ | with_reducible refine wt_yes ?_ | refine c_len rfl (by first | omega | (simp <;> omega)) ?_ | refine o_addL (by first | omega | (simp <;> omega)) ?_ | refine ite_t rfl ?_ | refine ite_f rfl ?_ | refine ite_t (by decide +kernel) ?_ | refine ite_f (by decide +kernel) ?_ | refine o_inT rfl rfl ?_ | refine o_notInT rfl rfl ?_ | refine ⟨_, rfl, ?_⟩ | refine ⟨Nat.le_of_ble_eq_true rfl, ?_⟩ | refine ⟨fun _ _ _ => ty_lst, ?_⟩))
            refine ite_b (fun h => ?_) (fun h => ?_)
            · (repeat (first | refine wd_var rfl (by decide) ?_ | with_reducible refine wd_int ?_ | with_reducible refine wd_str ?_ | with_reducible refine wd_bl ?_ | with_reducible refine wd_non ?_ | with_reducible refine wd_op ?_ | with_reducible refine wd_cb ?_ | with_reducible refine wa_cons ?_ | with_reducible refine wa_nil ?_ | with_reducible refine ws_seq ?_ | refine ws_set (by decide) ?_ | with_reducible refine ws_ret ?_ | with_reducible refine ws_if ?_ | with_reducible refine ws_next ?_ | with_reducible refine wt_rng ?_ | with_reducible refine wt_test ?_ | with_reducible refine wt_B ?_ | with_reducible refine wt_and ?_ | with_reducible refine wt_or ?_ | with_reducible refine wt_not ?_ | with_reducible refine wt_tru ?_ | with_reducible refine wd_if ?_ | with_reducible refine wd_andV ?_ | with_reducible refine wd_orV ?_ | with_reducible refine wd_notV ?_ | with_reducible refine wd_chain ?_ | with_reducible refine wd_tup ?_ | with_reducible refine wd_lst ?_ | with_reducible refine wd_un ?_ | with_reducible refine wd_bm ?_ | with_reducible refine wd_sl ?_ | with_reducible refine wo_none ?_ | with_reducible refine wo_some ?_ | with_reducible refine ws_asg ?_ | refine wg_tup rfl ?_ | with_reducible refine wgs_cons ?_ | with_reducible refine wgs_nil ?_ | refine wg_name (by decide) ?_ | with_reducible refine o_eqS ?_ | with_reducible refine o_neS ?_ | with_reducible refine o_eqI ?_ | with_reducible refine o_neI ?_ | refine o_isN rfl ?_ | refine o_notN rfl ?_ | refine o_ixT rfl ?_ | with_reducible refine o_addI ?_ | with_reducible refine o_I0b ?_ | with_reducible refine o_I0i ?_ | with_reducible refine un_negI ?_ | with_reducible refine s_lst ?_ | with_reducible refine wt_yes ?_ | refine c_len rfl (by first | omega | (simp <;> omega)) ?_ | refine o_addL (by first | omega | (simp <;> omega)) ?_ | refine ite_t rfl ?_ | refine ite_f rfl ?_ | refine ite_t (by decide +kernel) ?_ | refine ite_f (by decide +kernel) ?_ | refine o_inT rfl rfl ?_ | refine o_notInT rfl rfl ?_ | refine ⟨_, rfl, ?_⟩ | refine ⟨Nat.le_of_ble_eq_true rfl, ?_⟩ | refine ⟨fun _ _ _ => ty_lst, ?_⟩))
              cases r with
              | of ws => rfl
              | ot k s ex => exact absurd (of_decide_eq_true h) hro.1
            · (repeat (first | refine wd_var rfl (by decide) ?_ | with_reducible refine wd_int ?_ | with_reducible refine wd_str ?_ | with_reducible refine wd_bl ?_ | with_reducible refine wd_non ?_ | with_reducible refine wd_op ?_ | with_reducible refine wd_cb ?_ | with_reducible refine wa_cons ?_ | with_reducible refine wa_nil ?_ | with_reducible refine ws_seq ?_ | refine ws_set (by decide) ?_ | with_reducible refine ws_ret ?_ | with_reducible refine ws_if ?_ | with_reducible refine ws_next ?_ | with_reducible refine wt_rng ?_ | with_reducible refine wt_test ?_ | with_reducible refine wt_B ?_ | with_reducible refine wt_and ?_ | with_reducible refine wt_or ?_ | with_reducible refine wt_not ?_ | with_reducible refine wt_tru ?_ | with_reducible refine wd_if ?_ | with_reducible refine wd_andV ?_ | with_reducible refine wd_orV ?_ | with_reducible refine wd_notV ?_ | with_reducible refine wd_chain ?_ | with_reducible refine wd_tup ?_ | with_reducible refine wd_lst ?_ | with_reducible refine wd_un ?_ | with_reducible refine wd_bm ?_ | with_reducible refine wd_sl ?_ | with_reducible refine wo_none ?_ | with_reducible refine wo_some ?_ | with_reducible refine ws_asg ?_ | refine wg_tup rfl ?_ | with_reducible refine wgs_cons ?_ | with_reducible refine wgs_nil ?_ | refine wg_name (by decide) ?_ | with_reducible refine o_eqS ?_ | with_reducible refine o_neS ?_ | with_reducible refine o_eqI ?_ | with_reducible refine o_neI ?_ | refine o_isN rfl ?_ | refine o_notN rfl ?_ | refine o_ixT rfl ?_ | with_reducible refine o_addI ?_ | with_reducible refine o_I0b ?_ | with_reducible refine o_I0i ?_ | with_reducible refine un_negI ?_ | with_reducible refine s_lst ?_ | with_reducible refine wt_yes ?_ | refine c_len rfl (by first | omega | (simp <;> omega)) ?_ | refine o_addL (by first | omega | (simp <;> omega)) ?_ | refine ite_t rfl ?_ | refine ite_f rfl ?_ | refine ite_t (by decide +kernel) ?_ | refine ite_f (by decide +kernel) ?_ | refine o_inT rfl rfl ?_ | refine o_notInT rfl rfl ?_ | refine ⟨_, rfl, ?_⟩ | refine ⟨Nat.le_of_ble_eq_true rfl, ?_⟩ | refine ⟨fun _ _ _ => ty_lst, ?_⟩))
              cases r with
              | of ws => exact absurd rfl (of_decide_eq_false h)
              | ot k s ex => rfl
          · rintro m rfl
            refine ws_cut (fun m => m = [.fz (.lst (rs.map rpD)), nmT p (namesP (rs.take i)), .fz (.tup [.str r.kind, r.arg]), .fz (strsD r.ws), .un] ∧ goodPart r = true) ?_ ?_
            · refine ws_if (wt_or (wt_not (wt_rng ?_)))
              unfold strsD
              refine wd_cb (wa_cons (wd_var rfl (by decide) (wa_nil (c_len (m := r.ws.length) (by simp [lenD]) (by omega) ⟨_, rfl, ?_⟩))))
              refine ite_b (fun h => ?_) (fun h => ?_)
              · refine ite_t rfl (bad (badr ?_))
                have : (decide (1 ≤ r.ws.length) && decide (r.ws.length ≤ 4)) = false := by
                  have h2 : ¬ (1 ≤ r.ws.length ∧ r.ws.length ≤ 4) := by simp at h; omega
                  simp; omega
                rw [gw, this]; simp
              · have hlw : (decide (1 ≤ r.ws.length) && decide (r.ws.length ≤ 4)) = true := by
                  simp at h ⊢; omega
                refine wt_not (wt_B (wd_cb (wa_cons (wd_lcMap (by simp) (gok_name (by simp)) (wi_list (wd_var rfl (by decide) ⟨_, rfl, ?_⟩))))))
                refine ⟨by simp; omega, fun _ => true, fun d => match d with | .str y => .bl (isWordS y) | _ => .non, fun d hd => ?_, ?_⟩
                · obtain ⟨w, hm, rfl⟩ := List.mem_map.mp hd
                  refine wg_name (by decide) (wt_yes ⟨rfl, rfl, fun _ => ?_⟩)
                  exact wd_call [] (wa_cons (wd_var rfl (by decide) (wa_nil ⟨_, _, .nil, w, rfl, hwa w hm, _, _, .nil, _, rfl, rfl, rfl⟩)))
                · rw [filt_true]
                  have e : (r.ws.map D.str).map (fun d => match d with | .str y => D.bl (isWordS y) | _ => .non) = (r.ws.map isWordS).map .bl := by
                    rw [List.map_map, List.map_map]; rfl
                  rw [e]
                  refine wa_nil (c_all ⟨_, rfl, ?_⟩)
                  have e2 : (r.ws.map isWordS).all id = r.ws.all isWordS := by simp [List.all_map]
                  rw [e2]
                  have gk : (decide (r.kind = "word") || (decide (r.kind = "of") || (decide (r.kind = "one") || decide (r.kind = "any")))) = true := by simpa using hk
                  refine ite_b (fun h => bad (badr ?_)) (fun h => ws_next ⟨rfl, ?_⟩)
                  · rw [gw]; simp at h; simp [h]
                  · rw [gw, gk, hlw, hre]; simp at h; simpa using h
            · rintro m ⟨rfl, hgr⟩
              have hall : (rs.take (i + 1)).all goodPart = true := by rw [take1, List.all_append, hg]; simp [hgr]
              have hnm : namesP (rs.take (i + 1)) = namesP (rs.take i) ++ r.name := by rw [take1]; simp [namesP]
              rw [RP.name_eq hgr] at hnm
              (repeat (first | refine wd_var rfl (by decide) ?_ | with_reducible refine wd_int ?_ | with_reducible refine wd_str ?_ | with_reducible refine wd_bl ?_ | with_reducible refine wd_non ?_ | with_reducible refine wd_op ?_ | with_reducible refine wd_cb ?_ | with_reducible refine wa_cons ?_ | with_reducible refine wa_nil ?_ | with_reducible refine ws_seq ?_ | refine ws_set (by decide) ?_ | with_reducible refine ws_ret ?_ | with_reducible refine ws_if ?_ | with_reducible refine ws_next ?_ | with_reducible refine wt_rng ?_ | with_reducible refine wt_test ?_ | with_reducible refine wt_B ?_ | with_reducible refine wt_and ?_ | with_reducible refine wt_or ?_ | with_reducible refine wt_not ?_ | with_reducible refine wt_tru ?_ | with_reducible refine wd_if ?_ | with_reducible refine wd_andV ?_ | with_reducible refine wd_orV ?_ | with_reducible refine wd_notV ?_ | with_reducible refine wd_chain ?_ | with_reducible refine wd_tup ?_ | with_reducible refine wd_lst ?_ | with_reducible refine wd_un ?_ | with_reducible refine wd_bm ?_ | with_reducible refine wd_sl ?_ | with_reducible refine wo_none ?_ | with_reducible refine wo_some ?_ | with_reducible refine ws_asg ?_ | refine wg_tup rfl ?_ | with_reducible refine wgs_cons ?_ | with_reducible refine wgs_nil ?_ | refine wg_name (by decide) ?_ | with_reducible refine o_eqS ?_ | with_reducible refine o_neS ?_ | with_reducible refine o_eqI ?_ | with_reducible refine o_neI ?_ | refine o_isN rfl ?_ | refine o_notN rfl ?_ | refine o_ixT rfl ?_ | with_reducible refine o_addI ?_ | with_reducible refine o_I0b ?_ | with_reducible refine o_I0i ?_ | with_reducible refine un_negI ?_ | with_reducible refine s_lst ?_ | with_reducible refine wt_yes ?_ | refine c_len rfl (by first | omega | (simp <;> omega)) ?_ | refine o_addL (by first | omega | (simp <;> omega)) ?_ | refine ite_t rfl ?_ | refine ite_f rfl ?_ | refine ite_t (by decide +kernel) ?_ | refine ite_f (by decide +kernel) ?_ | refine o_inT rfl rfl ?_ | refine o_notInT rfl rfl ?_ | refine ⟨_, rfl, ?_⟩ | refine ⟨Nat.le_of_ble_eq_true rfl, ?_⟩ | refine ⟨fun _ _ _ => ty_lst, ?_⟩))
              have e : inD (.str r.kind) [.str "one", .str "any"] = r.isN := by
                rw [show [D.str "one", D.str "any"] = (["one", "any"] : List PySem.Str).map D.str from rfl, inD_strs]
                simp [RP.isN]
              rw [e]
              (repeat (first | refine wd_var rfl (by decide) ?_ | with_reducible refine wd_int ?_ | with_reducible refine wd_str ?_ | with_reducible refine wd_bl ?_ | with_reducible refine wd_non ?_ | with_reducible refine wd_op ?_ | with_reducible refine wd_cb ?_ | with_reducible refine wa_cons ?_ | with_reducible refine wa_nil ?_ | with_reducible refine ws_seq ?_ | refine ws_set (by decide) ?_ | with_reducible refine ws_ret ?_ | with_reducible refine ws_if ?_ | with_reducible refine ws_next ?_ | with_reducible refine wt_rng ?_ | with_reducible refine wt_test ?_ | with_reducible refine wt_B ?_ | with_reducible refine wt_and ?_ | with_reducible refine wt_or ?_ | with_reducible refine wt_not ?_ | with_reducible refine wt_tru ?_ | with_reducible refine wd_if ?_ | with_reducible refine wd_andV ?_ | with_reducible refine wd_orV ?_ | with_reducible refine wd_notV ?_ | with_reducible refine wd_chain ?_ | with_reducible refine wd_tup ?_ | with_reducible refine wd_lst ?_ | with_reducible refine wd_un ?_ | with_reducible refine wd_bm ?_ | with_reducible refine wd_sl ?_ | with_reducible refine wo_none ?_ | with_reducible refine wo_some ?_ | with_reducible refine ws_asg ?_ | refine wg_tup rfl ?_ | with_reducible refine wgs_cons ?_ | with_reducible refine wgs_nil ?_ | refine wg_name (by decide) ?_ | with_reducible refine o_eqS ?_ | with_reducible refine o_neS ?_ | with_reducible refine o_eqI ?_ | with_reducible refine o_neI ?_ | refine o_isN rfl ?_ | refine o_notN rfl ?_ | refine o_ixT rfl ?_ | with_reducible refine o_addI ?_ | with_reducible refine o_I0b ?_ | with_reducible refine o_I0i ?_ | with_reducible refine un_negI ?_ | with_reducible refine s_lst ?_ | with_reducible refine wt_yes ?_ | refine c_len rfl (by first | omega | (simp <;> omega)) ?_ | refine o_addL (by first | omega | (simp <;> omega)) ?_ | refine ite_t rfl ?_ | refine ite_f rfl ?_ | refine ite_t (by decide +kernel) ?_ | refine ite_f (by decide +kernel) ?_ | refine o_inT rfl rfl ?_ | refine o_notInT rfl rfl ?_ | refine ⟨_, rfl, ?_⟩ | refine ⟨Nat.le_of_ble_eq_true rfl, ?_⟩ | refine ⟨fun _ _ _ => ty_lst, ?_⟩))
              refine ite_b (fun h => ?_) (fun h => ?_)
              · refine ws_append (by decide) rfl ?_
                (repeat (first | refine wd_var rfl (by decide) ?_ | with_reducible refine wd_int ?_ | with_reducible refine wd_str ?_ | with_reducible refine wd_bl ?_ | with_reducible refine wd_non ?_ | with_reducible refine wd_op ?_ | with_reducible refine wd_cb ?_ | with_reducible refine wa_cons ?_ | with_reducible refine wa_nil ?_ | with_reducible refine ws_seq ?_ | refine ws_set (by decide) ?_ | with_reducible refine ws_ret ?_ | with_reducible refine ws_if ?_ | with_reducible refine ws_next ?_ | with_reducible refine wt_rng ?_ | with_reducible refine wt_test ?_ | with_reducible refine wt_B ?_ | with_reducible refine wt_and ?_ | with_reducible refine wt_or ?_ | with_reducible refine wt_not ?_ | with_reducible refine wt_tru ?_ | with_reducible refine wd_if ?_ | with_reducible refine wd_andV ?_ | with_reducible refine wd_orV ?_ | with_reducible refine wd_notV ?_ | with_reducible refine wd_chain ?_ | with_reducible refine wd_tup ?_ | with_reducible refine wd_lst ?_ | with_reducible refine wd_un ?_ | with_reducible refine wd_bm ?_ | with_reducible refine wd_sl ?_ | with_reducible refine wo_none ?_ | with_reducible refine wo_some ?_ | with_reducible refine ws_asg ?_ | refine wg_tup rfl ?_ | with_reducible refine wgs_cons ?_ | with_reducible refine wgs_nil ?_ | refine wg_name (by decide) ?_ | with_reducible refine o_eqS ?_ | with_reducible refine o_neS ?_ | with_reducible refine o_eqI ?_ | with_reducible refine o_neI ?_ | refine o_isN rfl ?_ | refine o_notN rfl ?_ | refine o_ixT rfl ?_ | with_reducible refine o_addI ?_ | with_reducible refine o_I0b ?_ | with_reducible refine o_I0i ?_ | with_reducible refine un_negI ?_ | with_reducible refine s_lst ?_ | with_reducible refine wt_yes ?_ | refine c_len rfl (by first | omega | (simp <;> omega)) ?_ | refine o_addL (by first | omega | (simp <;> omega)) ?_ | refine ite_t rfl ?_ | refine ite_f rfl ?_ | refine ite_t (by decide +kernel) ?_ | refine ite_f (by decide +kernel) ?_ | refine o_inT rfl rfl ?_ | refine o_notInT rfl rfl ?_ | refine ⟨_, rfl, ?_⟩ | refine ⟨Nat.le_of_ble_eq_true rfl, ?_⟩ | refine ⟨fun _ _ _ => ty_lst, ?_⟩))
                rw [h, if_pos rfl] at hnm
                have hnl : (namesP (rs.take i)).length ≤ 1000 := by
                  have : ∀ l : List RP, (namesP l).length ≤ l.length := names_len
                  have := this (rs.take i)
                  simp at this; omega
                refine ⟨by simp; omega, .fz (.tup [.str r.kind, r.arg]), .fz (strsD r.ws), ?_, hall⟩
                rw [hnm]
                cases r with
                | of ws =>
                  exfalso
                  have h1 : decide (PySem.Str.ofString "of" = PySem.Str.ofString "one") = false := by decide +kernel
                  have h2 : decide (PySem.Str.ofString "of" = PySem.Str.ofString "any") = false := by decide +kernel
                  simp only [RP.isN, RP.kind, h1, h2] at h
                  cases h
                | ot k s ex => simp [nmT, RP.ws, RP.arg]
              · rw [h, if_neg Bool.false_ne_true, List.append_nil] at hnm
                exact ws_next ⟨_, _, by rw [hnm], hall⟩
      · rintro m ⟨z2, z3, rfl, hg⟩
        have : rs.take (rs.map rpD).length = rs := List.take_of_length_le (by simp)
        rw [this] at hg ⊢
        exact ⟨_, _, rfl, hg⟩
    · rintro m ⟨z2, z3, rfl, hg⟩
      have hnl := names_len rs
      have hle := ddN_le (namesP rs) []
      refine ws_if (wt_test (wd_view (wd_op (wd_lenSet (wd_var rfl (by decide) ⟨namesP rs, by rw [toD_lst], by omega, ?_⟩)))))
      refine wd_cb (wa_cons (wd_var rfl (by decide) (wa_nil (c_len (m := (namesP rs).length) (by rw [toD_lst]; simp [lenD]) (by omega) (o_I0b ⟨rfl, _, rfl, ?_⟩)))))
      have gp : goodP rs = decide (ddN [] (namesP rs) = (namesP rs).length) := by
        unfold goodP
        rw [hg]
        simp [hlen.1, hlen.2]
      refine ite_b (fun h => bad ?_) (fun h => ws_next ⟨_, .fz .nil, hP ?_⟩)
      · rw [gp]; simp at h ⊢; omega
      · rw [gp]; simp at h ⊢; omega
/-! ### taking words -/
def takesB : RP → PySem.Str → Bool
  | .of ws, w => decide (w ∈ ws)
  | .ot k s _, w => if k = "one" then true else decide (w = s)
def fs_takes (K : PySem.W.Frag) : FS := fun ms P X => ∃ r w, ms = [.fz (rpD r), .fz (.str w)] ∧ r.ok ∧ goodPart r = true ∧ P (.fz (.bl (takesB r w))) ms
/-- takes: slots 0 part, 1 word -/
def t_takes (K : PySem.W.Frag) : WX → TS := fun W => (tSeq (tIfS (tTest (tOp (rEqA K) (tOp (rIxA K) (tVar 0) (tC (.int 0))) (tC (.str "one")))) (tRet (tC (.bl true))) tNext) (tRet (tIf (tTest (tOp (rEqA K) (tOp (rIxA K) (tVar 0) (tC (.int 0))) (tC (.str "of")))) (tOp (rInA K) (tVar 1) (tOp (rIxA K) (tVar 0) (tC (.int 1)))) (tOp (rEqA K) (tVar 1) (tOp (rIxA K) (tVar 0) (tC (.int 1)))))))
theorem good_rp {r : RP} (h : goodPart r = true) : rpD r = .tup [.str r.kind, r.arg] := by
  cases r with
  | of ws => rfl
  | ot k s ex =>
    simp [goodPart] at h
    have := h.1.1
    subst this
    rfl
theorem h_takes {K : PySem.W.Frag} : FsOk K 2 2 (fs_takes K) (t_takes K) := by
  intro ms P X hf
  obtain ⟨r, w, rfl, hok, hg, hP⟩ := hf
  refine ⟨rfl, ?_⟩
  unfold t_takes
  have fin : ∀ {b : Bool}, b = takesB r w → ∃ ms', Back [.fz (rpD r), .fz (.str w)] [.fz (rpD r), .fz (.str w)] ms' ∧ P (.fz (.bl b)) ms' := fun e => ⟨_, .fz (.fz .nil), e ▸ hP⟩
  rw [good_rp hg] at *
  (repeat (first | refine wd_var rfl (by decide) ?_ | with_reducible refine wd_int ?_ | with_reducible refine wd_str ?_ | with_reducible refine wd_bl ?_ | with_reducible refine wd_non ?_ | with_reducible refine wd_op ?_ | with_reducible refine wd_cb ?_ | with_reducible refine wa_cons ?_ | with_reducible refine wa_nil ?_ | with_reducible refine ws_seq ?_ | refine ws_set (by decide) ?_ | with_reducible refine ws_ret ?_ | with_reducible refine ws_if ?_ | with_reducible refine ws_next ?_ | with_reducible refine wt_rng ?_ | with_reducible refine wt_test ?_ | with_reducible refine wt_B ?_ | with_reducible refine wt_and ?_ | with_reducible refine wt_or ?_ | with_reducible refine wt_not ?_ | with_reducible refine wt_tru ?_ | with_reducible refine wd_if ?_ | with_reducible refine wd_andV ?_ | with_reducible refine wd_orV ?_ | with_reducible refine wd_notV ?_ | with_reducible refine wd_chain ?_ | with_reducible refine wd_tup ?_ | with_reducible refine wd_lst ?_ | with_reducible refine wd_un ?_ | with_reducible refine wd_bm ?_ | with_reducible refine wd_sl ?_ | with_reducible refine wo_none ?_ | with_reducible refine wo_some ?_ | with_reducible refine ws_asg ?_ | refine wg_tup rfl ?_ | with_reducible refine wgs_cons ?_ | with_reducible refine wgs_nil ?_ | refine wg_name (by decide) ?_ | with_reducible refine o_eqS ?_ | with_reducible refine o_neS ?_ | with_reducible refine o_eqI ?_ | with_reducible refine o_neI ?_ | refine o_isN rfl ?_ | refine o_notN rfl ?_ | refine o_ixT rfl ?_ | with_reducible refine o_addI ?_ | with_reducible refine o_I0b ?_ | with_reducible refine o_I0i ?_ | with_reducible refine un_negI ?_ | with_reducible refine s_lst ?_ | with_reducible refine wt_yes ?_ | refine c_len rfl (by first | omega | (simp <;> omega)) ?_ | refine o_addL (by first | omega | (simp <;> omega)) ?_ | refine ite_t rfl ?_ | refine ite_f rfl ?_ | refine ite_t (by decide +kernel) ?_ | refine ite_f (by decide +kernel) ?_ | refine o_inT rfl rfl ?_ | refine o_notInT rfl rfl ?_ | refine ⟨_, rfl, ?_⟩ | refine ⟨Nat.le_of_ble_eq_true rfl, ?_⟩ | refine ⟨fun _ _ _ => ty_lst, ?_⟩))
  refine ite_b (fun h => ?_) (fun h => ?_)
  · (repeat (first | refine wd_var rfl (by decide) ?_ | with_reducible refine wd_int ?_ | with_reducible refine wd_str ?_ | with_reducible refine wd_bl ?_ | with_reducible refine wd_non ?_ | with_reducible refine wd_op ?_ | with_reducible refine wd_cb ?_ | with_reducible refine wa_cons ?_ | with_reducible refine wa_nil ?_ | with_reducible refine ws_seq ?_ | refine ws_set (by decide) ?_ | with_reducible refine ws_ret ?_ | with_reducible refine ws_if ?_ | with_reducible refine ws_next ?_ | with_reducible refine wt_rng ?_ | with_reducible refine wt_test ?_ | with_reducible refine wt_B ?_ | with_reducible refine wt_and ?_ | with_reducible refine wt_or ?_ | with_reducible refine wt_not ?_ | with_reducible refine wt_tru ?_ | with_reducible refine wd_if ?_ | with_reducible refine wd_andV ?_ | with_reducible refine wd_orV ?_ | with_reducible refine wd_notV ?_ | with_reducible refine wd_chain ?_ | with_reducible refine wd_tup ?_ | with_reducible refine wd_lst ?_ | with_reducible refine wd_un ?_ | with_reducible refine wd_bm ?_ | with_reducible refine wd_sl ?_ | with_reducible refine wo_none ?_ | with_reducible refine wo_some ?_ | with_reducible refine ws_asg ?_ | refine wg_tup rfl ?_ | with_reducible refine wgs_cons ?_ | with_reducible refine wgs_nil ?_ | refine wg_name (by decide) ?_ | with_reducible refine o_eqS ?_ | with_reducible refine o_neS ?_ | with_reducible refine o_eqI ?_ | with_reducible refine o_neI ?_ | refine o_isN rfl ?_ | refine o_notN rfl ?_ | refine o_ixT rfl ?_ | with_reducible refine o_addI ?_ | with_reducible refine o_I0b ?_ | with_reducible refine o_I0i ?_ | with_reducible refine un_negI ?_ | with_reducible refine s_lst ?_ | with_reducible refine wt_yes ?_ | refine c_len rfl (by first | omega | (simp <;> omega)) ?_ | refine o_addL (by first | omega | (simp <;> omega)) ?_ | refine ite_t rfl ?_ | refine ite_f rfl ?_ | refine ite_t (by decide +kernel) ?_ | refine ite_f (by decide +kernel) ?_ | refine o_inT rfl rfl ?_ | refine o_notInT rfl rfl ?_ | refine ⟨_, rfl, ?_⟩ | refine ⟨Nat.le_of_ble_eq_true rfl, ?_⟩ | refine ⟨fun _ _ _ => ty_lst, ?_⟩))
    refine fin ?_
    have hk := of_decide_eq_true h
    cases r with
    | of ws => exact absurd hk (show ¬ (("of" : PySem.Str) = "one") by decide +kernel)
    | ot k s ex => simp only [RP.kind] at hk; simp [takesB, hk]
  · (repeat (first | refine wd_var rfl (by decide) ?_ | with_reducible refine wd_int ?_ | with_reducible refine wd_str ?_ | with_reducible refine wd_bl ?_ | with_reducible refine wd_non ?_ | with_reducible refine wd_op ?_ | with_reducible refine wd_cb ?_ | with_reducible refine wa_cons ?_ | with_reducible refine wa_nil ?_ | with_reducible refine ws_seq ?_ | refine ws_set (by decide) ?_ | with_reducible refine ws_ret ?_ | with_reducible refine ws_if ?_ | with_reducible refine ws_next ?_ | with_reducible refine wt_rng ?_ | with_reducible refine wt_test ?_ | with_reducible refine wt_B ?_ | with_reducible refine wt_and ?_ | with_reducible refine wt_or ?_ | with_reducible refine wt_not ?_ | with_reducible refine wt_tru ?_ | with_reducible refine wd_if ?_ | with_reducible refine wd_andV ?_ | with_reducible refine wd_orV ?_ | with_reducible refine wd_notV ?_ | with_reducible refine wd_chain ?_ | with_reducible refine wd_tup ?_ | with_reducible refine wd_lst ?_ | with_reducible refine wd_un ?_ | with_reducible refine wd_bm ?_ | with_reducible refine wd_sl ?_ | with_reducible refine wo_none ?_ | with_reducible refine wo_some ?_ | with_reducible refine ws_asg ?_ | refine wg_tup rfl ?_ | with_reducible refine wgs_cons ?_ | with_reducible refine wgs_nil ?_ | refine wg_name (by decide) ?_ | with_reducible refine o_eqS ?_ | with_reducible refine o_neS ?_ | with_reducible refine o_eqI ?_ | with_reducible refine o_neI ?_ | refine o_isN rfl ?_ | refine o_notN rfl ?_ | refine o_ixT rfl ?_ | with_reducible refine o_addI ?_ | with_reducible refine o_I0b ?_ | with_reducible refine o_I0i ?_ | with_reducible refine un_negI ?_ | with_reducible refine s_lst ?_ | with_reducible refine wt_yes ?_ | refine c_len rfl (by first | omega | (simp <;> omega)) ?_ | refine o_addL (by first | omega | (simp <;> omega)) ?_ | refine ite_t rfl ?_ | refine ite_f rfl ?_ | refine ite_t (by decide +kernel) ?_ | refine ite_f (by decide +kernel) ?_ | refine o_inT rfl rfl ?_ | refine o_notInT rfl rfl ?_ | refine ⟨_, rfl, ?_⟩ | refine ⟨Nat.le_of_ble_eq_true rfl, ?_⟩ | refine ⟨fun _ _ _ => ty_lst, ?_⟩))
    refine ite_b (fun h2 => ?_) (fun h2 => ?_)
    · have hk := of_decide_eq_true h2
      cases r with
      | of ws =>
        (repeat (first | refine wd_var rfl (by decide) ?_ | with_reducible refine wd_int ?_ | with_reducible refine wd_str ?_ | with_reducible refine wd_bl ?_ | with_reducible refine wd_non ?_ | with_reducible refine wd_op ?_ | with_reducible refine wd_cb ?_ | with_reducible refine wa_cons ?_ | with_reducible refine wa_nil ?_ | with_reducible refine ws_seq ?_ | refine ws_set (by decide) ?_ | with_reducible refine ws_ret ?_ | with_reducible refine ws_if ?_ | with_reducible refine ws_next ?_ | with_reducible refine wt_rng ?_ | with_reducible refine wt_test ?_ | with_reducible refine wt_B ?_ | with_reducible refine wt_and ?_ | with_reducible refine wt_or ?_ | with_reducible refine wt_not ?_ | with_reducible refine wt_tru ?_ | with_reducible refine wd_if ?_ | with_reducible refine wd_andV ?_ | with_reducible refine wd_orV ?_ | with_reducible refine wd_notV ?_ | with_reducible refine wd_chain ?_ | with_reducible refine wd_tup ?_ | with_reducible refine wd_lst ?_ | with_reducible refine wd_un ?_ | with_reducible refine wd_bm ?_ | with_reducible refine wd_sl ?_ | with_reducible refine wo_none ?_ | with_reducible refine wo_some ?_ | with_reducible refine ws_asg ?_ | refine wg_tup rfl ?_ | with_reducible refine wgs_cons ?_ | with_reducible refine wgs_nil ?_ | refine wg_name (by decide) ?_ | with_reducible refine o_eqS ?_ | with_reducible refine o_neS ?_ | with_reducible refine o_eqI ?_ | with_reducible refine o_neI ?_ | refine o_isN rfl ?_ | refine o_notN rfl ?_ | refine o_ixT rfl ?_ | with_reducible refine o_addI ?_ | with_reducible refine o_I0b ?_ | with_reducible refine o_I0i ?_ | with_reducible refine un_negI ?_ | with_reducible refine s_lst ?_ | with_reducible refine wt_yes ?_ | refine c_len rfl (by first | omega | (simp <;> omega)) ?_ | refine o_addL (by first | omega | (simp <;> omega)) ?_ | refine ite_t rfl ?_ | refine ite_f rfl ?_ | refine ite_t (by decide +kernel) ?_ | refine ite_f (by decide +kernel) ?_ | refine o_inT rfl rfl ?_ | refine o_notInT rfl rfl ?_ | refine ⟨_, rfl, ?_⟩ | refine ⟨Nat.le_of_ble_eq_true rfl, ?_⟩ | refine ⟨fun _ _ _ => ty_lst, ?_⟩))
        refine o_inL rfl (by simp [List.all_map]; intro _ _; rfl) ?_
        rw [inD_strs]
        exact fin rfl
      | ot k s ex => exact absurd hk hok.1
    · have hk := of_decide_eq_false h2
      have hk1 := of_decide_eq_false h
      cases r with
      | of ws => exact absurd rfl hk
      | ot k s ex =>
        (repeat (first | refine wd_var rfl (by decide) ?_ | with_reducible refine wd_int ?_ | with_reducible refine wd_str ?_ | with_reducible refine wd_bl ?_ | with_reducible refine wd_non ?_ | with_reducible refine wd_op ?_ | with_reducible refine wd_cb ?_ | with_reducible refine wa_cons ?_ | with_reducible refine wa_nil ?_ | with_reducible refine ws_seq ?_ | refine ws_set (by decide) ?_ | with_reducible refine ws_ret ?_ | with_reducible refine ws_if ?_ | with_reducible refine ws_next ?_ | with_reducible refine wt_rng ?_ | with_reducible refine wt_test ?_ | with_reducible refine wt_B ?_ | with_reducible refine wt_and ?_ | with_reducible refine wt_or ?_ | with_reducible refine wt_not ?_ | with_reducible refine wt_tru ?_ | with_reducible refine wd_if ?_ | with_reducible refine wd_andV ?_ | with_reducible refine wd_orV ?_ | with_reducible refine wd_notV ?_ | with_reducible refine wd_chain ?_ | with_reducible refine wd_tup ?_ | with_reducible refine wd_lst ?_ | with_reducible refine wd_un ?_ | with_reducible refine wd_bm ?_ | with_reducible refine wd_sl ?_ | with_reducible refine wo_none ?_ | with_reducible refine wo_some ?_ | with_reducible refine ws_asg ?_ | refine wg_tup rfl ?_ | with_reducible refine wgs_cons ?_ | with_reducible refine wgs_nil ?_ | refine wg_name (by decide) ?_ | with_reducible refine o_eqS ?_ | with_reducible refine o_neS ?_ | with_reducible refine o_eqI ?_ | with_reducible refine o_neI ?_ | refine o_isN rfl ?_ | refine o_notN rfl ?_ | refine o_ixT rfl ?_ | with_reducible refine o_addI ?_ | with_reducible refine o_I0b ?_ | with_reducible refine o_I0i ?_ | with_reducible refine un_negI ?_ | with_reducible refine s_lst ?_ | with_reducible refine wt_yes ?_ | refine c_len rfl (by first | omega | (simp <;> omega)) ?_ | refine o_addL (by first | omega | (simp <;> omega)) ?_ | refine ite_t rfl ?_ | refine ite_f rfl ?_ | refine ite_t (by decide +kernel) ?_ | refine ite_f (by decide +kernel) ?_ | refine o_inT rfl rfl ?_ | refine o_notInT rfl rfl ?_ | refine ⟨_, rfl, ?_⟩ | refine ⟨Nat.le_of_ble_eq_true rfl, ?_⟩ | refine ⟨fun _ _ _ => ty_lst, ?_⟩))
        refine o_eqS (fin ?_)
        simp only [RP.kind] at hk1
        simp [takesB, hk1]
/-- how many words each part takes: the least way -/
def mfL : List RP → List PySem.Str → Option (List Nat)
  | [], ws => if ws = [] then some [] else none
  | r :: ps, ws =>
    if r.kind = "any" then (List.range (ws.length + 1)).findSome? fun k => (mfL ps (ws.drop k)).map (k :: ·)
    else match ws with
      | [] => none
      | w :: ws => if takesB r w then (mfL ps ws).map (1 :: ·) else none
def optD : Option (List Nat) → D
  | none => .non
  | some r => rowD r
theorem mfL_len : ∀ (ps : List RP) (ws : List PySem.Str) (r : List Nat), mfL ps ws = some r → r.length = ps.length
  | [], ws, r, h => by
    simp only [mfL] at h
    split at h
    · cases h; rfl
    · cases h
  | p :: ps, ws, r, h => by
    simp only [mfL] at h
    split at h
    · obtain ⟨k, _, hk⟩ := List.exists_of_findSome?_eq_some h
      cases q : mfL ps (ws.drop k) with
      | none => rw [q] at hk; cases hk
      | some r' =>
        rw [q] at hk
        cases hk
        simp [mfL_len ps _ _ q]
    · cases ws with
      | nil => cases h
      | cons w ws =>
        simp only at h
        split at h
        · cases q : mfL ps ws with
          | none => rw [q] at h; cases h
          | some r' =>
            rw [q] at h
            cases h
            simp [mfL_len ps _ _ q]
        · cases h
def fs_match_from (K : PySem.W.Frag) : Nat → FS
  | 0 => fun _ _ _ => False
  | m + 1 => fun ms P X => ∃ rs ws, ms = [.fz (patD rs), .fz (strsD ws)] ∧ rs.length ≤ m ∧ rs.length ≤ 100 ∧ ws.length ≤ 1000 ∧ (∀ r ∈ rs, r.ok ∧ goodPart r = true) ∧ P (.fz (optD (mfL rs ws))) ms
theorem h0_match_from {K : PySem.W.Frag} (ms : List MV) (P : MV → List MV → Prop) (X : XP) : ¬ fs_match_from K 0 ms P X := id
/-- match_from: slots 0 pattern, 1 words, 2 rest, 3 many -/
def t_match_from (K : PySem.W.Frag) (m : Nat) : WX → TS := fun W => (tSeq (tIfS (tNot (tTru K (tVar 0))) (tRet (tIf (tNot (tTru K (tVar 1))) (tLst tNil) (tC .non))) tNext) (tSeq (tIfS (tTest (tOp (rNeA K) (tOp (rIxA K) (tOp (rIxA K) (tVar 0) (tC (.int 0))) (tC (.int 0))) (tC (.str "any")))) (tSeq (tIfS (tOr (tNot (tTru K (tVar 1))) (tNot (tB (tCallS (SpM K (fs_takes K)) (WE W) (tCons (tOp (rIxA K) (tVar 0) (tC (.int 0))) (tCons (tOp (rIxA K) (tVar 1) (tC (.int 0))) tNil)))))) (tRet (tC .non)) tNext) (tSeq (tAsg (tCallS (SpM K (fs_match_from K m)) (WE W) (tCons (L2.tSl (rSlA' K) (tVar 0) (tPart (tC (.int 1))) tNoPart) (tCons (L2.tSl (rSlA' K) (tVar 1) (tPart (tC (.int 1))) tNoPart) tNil))) (gName 2)) (tRet (tIf (tTest (tOp rIsN (tVar 2) (tC .non))) (tC .non) (tOp (rAddA K) (tLst (tCons (tC (.int 1)) tNil)) (tVar 2)))))) tNext) (tSeq (tFor (iRng1 (tCons (tOp (rAddA K) (tCB (rLenA K) (tCons (tVar 1) tNil)) (tC (.int 1))) tNil)) (gName 3) (tSeq (tAsg (tCallS (SpM K (fs_match_from K m)) (WE W) (tCons (L2.tSl (rSlA' K) (tVar 0) (tPart (tC (.int 1))) tNoPart) (tCons (L2.tSl (rSlA' K) (tVar 1) (tPart (tVar 3)) tNoPart) tNil))) (gName 2)) (tIfS (tTest (tOp rNotN (tVar 2) (tC .non))) (tRet (tOp (rAddA K) (tLst (tCons (tVar 3) tNil)) (tVar 2))) tNext))) (tRet (tC .non)))))
theorem lenD_strs (ws : List PySem.Str) : lenD (strsD ws) = some ws.length := by simp [lenD, strsD]
theorem sIx_nat' (n d k : Nat) : HT.sIx n d (some (k : Int)) = min k n := by
  unfold HT.sIx
  simp only
  split <;> omega
theorem cut_drop (l : List D) (k : Nat) : cutD l (some (k : Int)) none = l.drop k := by
  unfold cutD
  rw [sIx_nat']
  show (l.drop (min k l.length)).take (l.length - min k l.length) = l.drop k
  rcases Nat.le_total k l.length with h | h
  · rw [Nat.min_eq_left h]
    exact List.take_of_length_le (by simp)
  · rw [Nat.min_eq_right h, List.drop_eq_nil_of_le (Nat.le_refl _), List.drop_eq_nil_of_le h]
    simp
theorem cut_both (l : List D) (k j : Nat) (h : k ≤ j) : cutD l (some (k : Int)) (some (j : Int)) = (l.drop k).take (j - k) := by
  unfold cutD
  rw [sIx_nat', sIx_nat']
  rcases Nat.le_total k l.length with h1 | h1
  · rw [Nat.min_eq_left h1]
    rcases Nat.le_total j l.length with h2 | h2
    · rw [Nat.min_eq_left h2]
    · rw [Nat.min_eq_right h2, List.take_of_length_le (by simp), List.take_of_length_le (by simp; omega)]
  · rw [Nat.min_eq_right h1, List.drop_eq_nil_of_le (Nat.le_refl _), List.drop_eq_nil_of_le h1]
    simp
theorem h_match_from {K : PySem.W.Frag} (m : Nat) : FsOk K 2 4 (fs_match_from K (m + 1)) (t_match_from K m) := by
  intro ms P X hf
  obtain ⟨rs, ws, rfl, hm, h100, hwl, hok, hP⟩ := hf
  refine ⟨rfl, ?_⟩
  unfold t_match_from
  have fin : ∀ {d : D} {a b : MV}, d = optD (mfL rs ws) → ∃ ms', Back [.fz (patD rs), .fz (strsD ws)] [.fz (patD rs), .fz (strsD ws), a, b] ms' ∧ P (.fz d) ms' := fun e => ⟨_, .fz (.fz .nil), e ▸ hP⟩
  cases rs with
  | nil =>
    refine ws_seq (ws_if (wt_not (wt_tru (wd_var rfl (by decide) ⟨false, rfl, ite_t rfl (ws_ret (wd_if (wt_not (wt_tru (wd_var rfl (by decide) ⟨!ws.isEmpty, ?_, ?_⟩)))))⟩))))
    · cases ws <;> rfl
    · cases ws with
      | nil => exact ite_t rfl (wd_lst (wa_nil ⟨by decide, fin rfl⟩))
      | cons w ws => exact ite_f rfl (wd_non (fin rfl))
  | cons r ps =>
    obtain ⟨m, rfl⟩ : ∃ m', m = m' + 1 := ⟨m - 1, by simp at hm; omega⟩
    have hr := hok r List.mem_cons_self
    have hps : ∀ r ∈ ps, r.ok ∧ goodPart r = true := fun x hx => hok x (List.mem_cons_of_mem _ hx)
    have hlp : ps.length ≤ m ∧ ps.length ≤ 100 := by simp at hm h100; omega
    refine ws_seq (ws_if (wt_not (wt_tru (wd_var rfl (by decide) ⟨true, rfl, ite_f rfl (ws_next ?_)⟩))))
    have kind : rpD r = .tup [.str r.kind, r.arg] := good_rp hr.2
    have hd0 : atI ((r :: ps).map rpD) 0 = some (.tup [.str r.kind, r.arg]) := by rw [← kind]; exact atI_zero _ _
    refine ws_seq (ws_if (wt_test (wd_op (wd_op (wd_op (wd_var rfl (by decide) (wd_int (o_ixL hd0 (wd_int (o_ixT rfl (wd_str (o_neS ⟨_, rfl, ?_ ⟩))))))))))))
    have cutP : cutD ((r :: ps).map rpD) (some 1) none = ps.map rpD := by
      have := cut_drop ((r :: ps).map rpD) 1
      simpa using this
    refine ite_b (fun h => ?_) (fun h => ws_next ?_)
    · have hk : r.kind ≠ "any" := fun z => by simp [z] at h
      cases ws with
      | nil =>
        refine ws_seq (ws_if (wt_or (wt_not (wt_tru (wd_var rfl (by decide) ⟨false, rfl, ite_t rfl (ite_t rfl (ws_ret (wd_non (fin ?_)))) ⟩)))))
        simp [mfL, hk, optD]
      | cons w ws =>
        refine ws_seq (ws_if (wt_or (wt_not (wt_tru (wd_var rfl (by decide) ⟨true, rfl, ite_f rfl (wt_not (wt_B ?_ ))⟩)))))
        have hw0 : atI ((w :: ws).map D.str) 0 = some (.str w) := atI_zero _ _
        refine wd_call [] (wa_cons (wd_op (wd_var rfl (by decide) (wd_int (o_ixL hd0 (wa_cons (wd_op (wd_var rfl (by decide) (wd_int (o_ixL hw0 (wa_nil ⟨_, _, .nil, r, w, by rw [kind]; rfl, hr.1, hr.2, _, _, .nil, _, rfl, _, rfl, ?_ ⟩)))))))))))
        refine ite_b (fun h2 => ?_) (fun h2 => ws_next ?_)
        · refine ws_ret (wd_non (fin ?_))
          simp at h2
          simp [mfL, hk, h2, optD]
        · simp at h2
          have cutW : cutD ((w :: ws).map D.str) (some 1) none = ws.map D.str := by
            have := cut_drop ((w :: ws).map D.str) 1
            simpa using this
          refine ws_seq (ws_set (by decide) (wd_call [] (wa_cons (wd_sl (wd_var rfl (by decide) (wo_some (wd_int ⟨_, rfl, wo_none (s_lst (wa_cons (wd_sl (wd_var rfl (by decide) (wo_some (wd_int ⟨_, rfl, wo_none (s_lst (wa_nil ?_ ))⟩))))))⟩)))))))
          rw [cutP, cutW]
          refine ⟨_, _, .nil, ps, ws, rfl, hlp.1, hlp.2, by simp at hwl; omega, hps, _, _, .nil, _, rfl, ?_⟩
          cases q : mfL ps ws with
          | none =>
            refine ws_ret (wd_if (wt_test (wd_op (wd_var rfl (by decide) (wd_non (o_isN rfl ⟨_, rfl, ite_t rfl (wd_non (fin ?_)) ⟩))))))
            simp [mfL, hk, h2, q, optD]
          | some cs =>
            have hcl := mfL_len _ _ _ q
            refine ws_ret (wd_if (wt_test (wd_op (wd_var rfl (by decide) (wd_non (o_isN rfl ⟨_, rfl, ite_f rfl ?_ ⟩))))))
            refine wd_op (wd_lst (wa_cons (wd_int (wa_nil ⟨by decide, wd_var rfl (by decide) (o_addL (by simp; omega) (fin ?_)) ⟩))))
            simp [mfL, hk, h2, q, optD, rowD]
    · have hk : r.kind = "any" := by simpa using h
      have hmf : mfL (r :: ps) ws = (List.range (ws.length + 1)).findSome? fun k => (mfL ps (ws.drop k)).map (k :: ·) := by simp [mfL, hk]
      refine ws_cut (fun m => ((List.range (ws.length + 1)).findSome? fun k => (mfL ps (ws.drop k)).map (k :: ·)) = none ∧ ∃ z2 z3, m = [.fz (patD (r :: ps)), .fz (strsD ws), z2, z3]) ?_ ?_
      · refine ws_for (wi_rng1 (wa_cons (wd_op (wd_cb (wa_cons (wd_var rfl (by decide) (wa_nil (c_len (m := ws.length) (lenD_strs ws) (by omega) (wd_int (o_addI (wa_nil ⟨_, rfl, by omega, by omega, ?_ ⟩)))))))))))
        refine ⟨fun i m => ((List.range i).findSome? fun k => (mfL ps (ws.drop k)).map (k :: ·)) = none ∧ ∃ z2 z3, m = [.fz (patD (r :: ps)), .fz (strsD ws), z2, z3], ⟨rfl, _, _, rfl⟩, ?_, ?_⟩
        · rintro i d mm hd ⟨hn, z2, z3, rfl⟩
          obtain ⟨hi, rfl⟩ := rngD_at hd
          have hi' : i < ws.length + 1 := by omega
          have hnext : ((List.range (i + 1)).findSome? fun k => (mfL ps (ws.drop k)).map (k :: ·)) = (mfL ps (ws.drop i)).map (i :: ·) := by
            rw [List.range_succ, List.findSome?_append, hn]
            simp
          refine wg_name (by decide) (ws_seq (ws_set (by decide) (wd_call [] (wa_cons (wd_sl (wd_var rfl (by decide) (wo_some (wd_int ⟨_, rfl, wo_none (s_lst (wa_cons (wd_sl (wd_var rfl (by decide) (wo_some (wd_var rfl (by decide) ⟨_, rfl, wo_none (s_lst (wa_nil ?_ ))⟩))))))⟩))))))))
          have cutW : cutD (ws.map D.str) (some (0 + (i : Int))) none = (ws.drop i).map D.str := by
            rw [Int.zero_add, cut_drop, List.map_drop]
          rw [cutP, cutW]
          refine ⟨_, _, .nil, ps, ws.drop i, rfl, hlp.1, hlp.2, by simp; omega, hps, _, _, .nil, _, rfl, ?_⟩
          cases q : mfL ps (ws.drop i) with
          | none =>
            refine ws_if (wt_test (wd_op (wd_var rfl (by decide) (wd_non (o_notN rfl ⟨_, rfl, ite_f rfl (ws_next ⟨?_, _, _, rfl⟩) ⟩)))))
            rw [hnext, q]; rfl
          | some cs =>
            have hcl := mfL_len _ _ _ q
            refine ws_if (wt_test (wd_op (wd_var rfl (by decide) (wd_non (o_notN rfl ⟨_, rfl, ite_t rfl (ws_ret ?_) ⟩)))))
            refine wd_op (wd_lst (wa_cons (wd_var rfl (by decide) (wa_nil ⟨Nat.le_of_ble_eq_true rfl, wd_var rfl (by decide) (o_addL (by simp; omega) (fin ?_)) ⟩))))
            have hfs : ((List.range (ws.length + 1)).findSome? fun k => (mfL ps (ws.drop k)).map (k :: ·)) = some (i :: cs) := by
              have e : List.range (ws.length + 1) = List.range (i + 1) ++ (List.range' (i + 1) (ws.length - i)) := by
                have := List.range'_append_1 (s := 0) (m := i + 1) (n := ws.length - i)
                rw [Nat.zero_add] at this
                rw [List.range_eq_range', List.range_eq_range', this]
                congr 1; omega
              rw [e, List.findSome?_append, hnext, q]
              rfl
            rw [hmf, hfs]
            simp [optD, rowD]
        · rintro mm ⟨hn, z2, z3, rfl⟩
          have : (rngD 0 ((ws.length : Int) + 1).toNat).length = ws.length + 1 := by rw [rngD_len]; omega
          rw [this] at hn
          exact ⟨hn, _, _, rfl⟩
      · rintro mm ⟨hn, z2, z3, rfl⟩
        refine ws_ret (wd_non (fin ?_))
        rw [hmf, hn]
        rfl
/-! ### what the names get -/
def gotL : List RP → List Nat → List PySem.Str → List (PySem.Str × List PySem.Str)
  | r :: rs, c :: cs, ws => (if r.isN = true then r.ws.map fun s => (s, ws.take c) else []) ++ gotL rs cs (ws.drop c)
  | _, _, _ => []
def dicD (l : List (PySem.Str × List PySem.Str)) : D := .dic (l.map fun q => (Sum.inr q.1, strsD q.2))
def matD (rs : List RP) (ws : List PySem.Str) : D := match mfL rs ws with | none => .non | some cs => dicD (gotL rs cs ws)
def fs_match (K : PySem.W.Frag) : FS := fun ms P X => ∃ rs ws, ms = [.fz (patD rs), .fz (strsD ws)] ∧ rs.length ≤ 1000 ∧ ws.length ≤ 1000 ∧ (∀ r ∈ rs, r.ok) ∧ (goodP rs = true → P (.fz (matD rs ws)) ms) ∧ (goodP rs = false → X (.ref (He.ga K "BadPattern")) ms)
/-- match: slots 0 pattern, 1 words, 2 counts, 3 found, 4 at, 5 k -/
def t_match (K : PySem.W.Frag) : WX → TS := fun W => (tSeq (tDrop (tCallS (SpM K (fs_look_pattern K)) (WE W) (tCons (tVar 0) tNil))) (tSeq (tAsg (tCallS (SpM K (fs_match_from K 7)) (WE W) (tCons (tVar 0) (tCons (tVar 1) tNil))) (gName 2)) (tSeq (tIfS (tTest (tOp rIsN (tVar 2) (tC .non))) (tRet (tC .non)) tNext) (tSeq (tAsg tDNewK (gName 3)) (tSeq (tAsg (tC (.int 0)) (gName 4)) (tSeq (tFor (iRng1 (tCons (tCB (rLenA K) (tCons (tVar 0) tNil)) tNil)) (gName 5) (tSeq (tIfS (tTest (tOp (rInA K) (tOp (rIxA K) (tOp (rIxA K) (tVar 0) (tVar 5)) (tC (.int 0))) (tTup (tCons (tC (.str "one")) (tCons (tC (.str "any")) tNil))))) (sDPut (tVar 3) (tOp (rIxA K) (tOp (rIxA K) (tVar 0) (tVar 5)) (tC (.int 1))) (L2.tSl (rSlA' K) (tVar 1) (tPart (tVar 4)) (tPart (tOp (rAddA K) (tVar 4) (tOp (rIxA K) (tVar 2) (tVar 5)))))) tNext) (tAsg (tOp (rAddA K) (tVar 4) (tOp (rIxA K) (tVar 2) (tVar 5))) (gName 4)))) (tRet (tVar 3))))))))
theorem goodP_iff {rs : List RP} : goodP rs = true ↔ (1 ≤ rs.length ∧ rs.length ≤ 6) ∧ (∀ r ∈ rs, goodPart r = true) ∧ ddN [] (namesP rs) = (namesP rs).length := by
  unfold goodP
  simp [List.all_eq_true, and_assoc]
/-- all different -/
theorem ddN_nodup : ∀ (l seen : List PySem.Str), ddN seen l = l.length → l.Nodup ∧ ∀ x ∈ l, x ∉ seen
  | [], _, _ => ⟨.nil, fun x h => by cases h⟩
  | x :: l, seen, h => by
    have hle := ddN_le l (x :: seen)
    rw [ddN, List.length_cons] at h
    have hx : x ∉ seen := fun z => by
      have : seen.contains x = true := by simpa using z
      rw [this] at h; simp at h; omega
    have h' : ddN (x :: seen) l = l.length := by
      split at h <;> omega
    obtain ⟨nd, hs⟩ := ddN_nodup l (x :: seen) h'
    refine ⟨List.nodup_cons.mpr ⟨fun z => hs x z List.mem_cons_self, nd⟩, fun y hy => ?_⟩
    rcases List.mem_cons.mp hy with rfl | hy
    · exact hx
    · exact fun z => hs y hy (List.mem_cons_of_mem _ z)
theorem atI_at {α : Type} {l : List α} {i : Nat} {x : α} (h : l[i]? = some x) : L2.atI l (i : Int) = some x := by
  have hi : i < l.length := (List.getElem?_eq_some_iff.mp h).1
  unfold L2.atI ixN
  rw [if_pos (by omega), if_pos (by omega)]
  simpa using h
theorem atI_at0 {α : Type} {l : List α} {i : Nat} {x : α} (h : l[i]? = some x) : L2.atI l (0 + (i : Int)) = some x := by
  rw [Int.zero_add]; exact atI_at h
theorem isN_eq (r : RP) : inD (.str r.kind) [.str "one", .str "any"] = r.isN := by
  rw [show [D.str "one", D.str "any"] = (["one", "any"] : List PySem.Str).map D.str from rfl, inD_strs]
  simp [RP.isN]
theorem isN_ot {r : RP} (h : r.isN = true) : ∃ s, r.ws = [s] ∧ r.arg = .str s := by
  cases r with
  | of ws =>
    exfalso
    have h1 : decide (PySem.Str.ofString "of" = PySem.Str.ofString "one") = false := by decide +kernel
    have h2 : decide (PySem.Str.ofString "of" = PySem.Str.ofString "any") = false := by decide +kernel
    simp only [RP.isN, RP.kind, h1, h2] at h
    cases h
  | ot k s ex => exact ⟨s, rfl, rfl⟩
theorem gotL_snoc (r : RP) (c : Nat) : ∀ (as : List RP) (bs : List Nat) (ws : List PySem.Str), as.length = bs.length → gotL (as ++ [r]) (bs ++ [c]) ws = gotL as bs ws ++ (if r.isN = true then r.ws.map fun s => (s, (ws.drop bs.sum).take c) else [])
  | [], [], ws, _ => by simp [gotL]
  | a :: as, b :: bs, ws, h => by
    have ih := gotL_snoc r c as bs (ws.drop b) (by simpa using h)
    simp only [List.cons_append, gotL, ih, List.drop_drop, List.sum_cons, List.append_assoc]
    try rw [Nat.add_comm b]
  | [], _ :: _, _, h => by simp at h
  | _ :: _, [], _, h => by simp at h
theorem gotL_keys : ∀ (as : List RP) (bs : List Nat) (ws : List PySem.Str), as.length = bs.length → (∀ r ∈ as, goodPart r = true) → (gotL as bs ws).map (·.1) = namesP as
  | [], [], ws, _, _ => by simp [gotL, namesP]
  | a :: as, b :: bs, ws, h, hg => by
    have ih := gotL_keys as bs (ws.drop b) (by simpa using h) (fun r hr => hg r (List.mem_cons_of_mem _ hr))
    have hn := RP.name_eq (hg a List.mem_cons_self)
    simp only [gotL, List.map_append, ih, namesP, List.flatMap_cons, hn]
    congr 1
    split
    · have e : ((fun q : PySem.Str × List PySem.Str => q.1) ∘ fun s => (s, ws.take b)) = id := rfl
      rw [List.map_map, e, List.map_id]
    · rfl
  | [], _ :: _, _, h, _ => by simp at h
  | _ :: _, [], _, h, _ => by simp at h
def gotT (p : Addr) (l : List (PySem.Str × List PySem.Str)) : MV := .ot p (.dic (l.map fun q => (Sum.inr q.1, .lf (strsD q.2))))
theorem toDk_got : ∀ l : List (PySem.Str × List PySem.Str), toDk (l.map fun q => ((Sum.inr q.1 : Key), T.lf (strsD q.2))) = l.map fun q => (Sum.inr q.1, strsD q.2)
  | [] => by simp [toDk]
  | q :: l => by simp [toDk, T.toD, toDk_got l]
theorem putM_new {α : Type} (k : PySem.Str) (y : α) (l : List (PySem.Str × α)) (h : k ∉ l.map (·.1)) : putM (Sum.inr k) y (l.map fun q => ((Sum.inr q.1 : Key), q.2)) = (l ++ [(k, y)]).map fun q => ((Sum.inr q.1 : Key), q.2) := by
  unfold putM
  rw [if_neg]
  · simp
  · intro z
    rw [List.any_map, List.any_eq_true] at z
    obtain ⟨q, hq, e⟩ := z
    have e' : q.1 = k := by simpa using e
    exact h (e' ▸ List.mem_map_of_mem hq)
theorem sum_take_le (cs : List Nat) : ∀ i, (cs.take i).sum ≤ cs.sum := by
  induction cs with
  | nil => simp
  | cons c cs ih =>
    intro i
    cases i with
    | zero => simp
    | succ i =>
      have := ih i
      simp only [List.take_succ_cons, List.sum_cons]; omega
theorem mfL_sum : ∀ (ps : List RP) (ws : List PySem.Str) (r : List Nat), mfL ps ws = some r → r.sum = ws.length
  | [], ws, r, h => by
    simp only [mfL] at h
    split at h
    · rename_i e; cases h; subst e; rfl
    · cases h
  | p :: ps, ws, r, h => by
    simp only [mfL] at h
    split at h
    · obtain ⟨k, hk0, hk⟩ := List.exists_of_findSome?_eq_some h
      have hkl : k < ws.length + 1 := by simpa using hk0
      cases q : mfL ps (ws.drop k) with
      | none => rw [q] at hk; cases hk
      | some r' =>
        rw [q] at hk
        cases hk
        have := mfL_sum ps _ _ q
        simp at this ⊢; omega
    · cases ws with
      | nil => cases h
      | cons w ws =>
        simp only at h
        split at h
        · cases q : mfL ps ws with
          | none => rw [q] at h; cases h
          | some r' =>
            rw [q] at h
            cases h
            have := mfL_sum ps _ _ q
            simp at this ⊢; omega
        · cases h
theorem names_new {rs : List RP} {i : Nat} {r : RP} {z : PySem.Str} (hnd : (namesP rs).Nodup) (er : rs[i]? = some r) (hgr : goodPart r = true) (h : r.isN = true) (ez : r.ws = [z]) : z ∉ namesP (rs.take i) := by
  obtain ⟨hir, er'⟩ := List.getElem?_eq_some_iff.mp er
  have e : namesP rs = namesP (rs.take i) ++ ([z] ++ namesP (rs.drop (i + 1))) := by
    have e1 : rs = rs.take i ++ (r :: rs.drop (i + 1)) := by
      conv => lhs; rw [← List.take_append_drop i rs]
      congr 1
      rw [List.drop_eq_getElem_cons hir, er']
    conv => lhs; rw [e1]
    have : r.name = [z] := by rw [RP.name_eq hgr, h, if_pos rfl, ez]
    simp [namesP, this]
  rw [e] at hnd
  have := (List.nodup_append.mp hnd).2.2
  exact fun hz => this z hz z (by simp) rfl
theorem h_match {K : PySem.W.Frag} : FsOk K 2 6 (fs_match K) (t_match K) := by
  intro ms P X hf
  obtain ⟨rs, ws, rfl, hl, hwl, hok, hP, hX⟩ := hf
  refine ⟨rfl, ?_⟩
  unfold t_match
  refine ws_seq (ws_drop (wd_call [] (wa_cons (wd_var rfl (by decide) (wa_nil ⟨_, _, .nil, rs, rfl, hl, hok, fun hg => ⟨_, _, .nil, _, rfl, ?_⟩, fun hg => ⟨_, _, .nil, _, .fz (.fz .nil), hX hg⟩ ⟩)))))
  obtain ⟨hlen, hgp, hdd⟩ := goodP_iff.mp hg
  refine ws_seq (ws_set (by decide) (wd_call [] (wa_cons (wd_var rfl (by decide) (wa_cons (wd_var rfl (by decide) (wa_nil ⟨_, _, .nil, rs, ws, rfl, hlen.2, by omega, hwl, fun r hr => ⟨hok r hr, hgp r hr⟩, _, _, .nil, _, rfl, ?_ ⟩)))))))
  have hP' := hP hg
  unfold matD at hP'
  cases q : mfL rs ws with
  | none =>
    rw [q] at hP'
    exact ws_seq (ws_if (wt_test (wd_op (wd_var rfl (by decide) (wd_non (o_isN rfl ⟨_, rfl, ite_t rfl (ws_ret (wd_non ⟨_, .fz (.fz .nil), hP'⟩)) ⟩))))))
  | some cs =>
    rw [q] at hP'
    have hcl := mfL_len _ _ _ q
    have hsum := mfL_sum _ _ _ q
    refine ws_seq (ws_if (wt_test (wd_op (wd_var rfl (by decide) (wd_non (o_isN rfl ⟨_, rfl, ite_f rfl (ws_next ?_) ⟩))))))
    refine ws_seq (ws_setN (by decide) (wn_dic0 fun p => ws_seq (ws_set (by decide) (wd_int ?_ ))))
    refine ws_cut (fun m => ∃ z4 z5, m = [.fz (patD rs), .fz (strsD ws), .fz (rowD cs), gotT p (gotL rs cs ws), z4, z5]) ?_ ?_
    · refine ws_for (wi_rng1 (wa_cons (wd_cb (wa_cons (wd_var rfl (by decide) (wa_nil (c_len (m := rs.length) (by simp [lenD, patD]) (by omega) (wa_nil ⟨_, rfl, by omega, by omega, ?_ ⟩))))))))
      refine ⟨fun i m => ∃ z5, m = [.fz (patD rs), .fz (strsD ws), .fz (rowD cs), gotT p (gotL (rs.take i) (cs.take i) ws), .fz (.int ((cs.take i).sum : Nat)), z5], ⟨_, rfl⟩, ?_, ?_⟩
      · rintro i d mm hd ⟨z5, rfl⟩
        obtain ⟨hi, rfl⟩ := rngD_at hd
        have hir : i < rs.length := by omega
        have hic : i < cs.length := by omega
        have er : rs[i]? = some rs[i] := List.getElem?_eq_getElem hir
        have ec : cs[i]? = some cs[i] := List.getElem?_eq_getElem hic
        generalize rs[i] = r at er
        generalize cs[i] = c at ec
        have hgr := hgp r (List.mem_of_getElem? er)
        have tr : rs.take (i + 1) = rs.take i ++ [r] := by rw [List.take_add_one, er]; rfl
        have tc : cs.take (i + 1) = cs.take i ++ [c] := by rw [List.take_add_one, ec]; rfl
        have hsl : (cs.take (i + 1)).sum ≤ ws.length := by rw [← hsum]; exact sum_take_le _ _
        have hsc : (cs.take (i + 1)).sum = (cs.take i).sum + c := by rw [tc]; simp
        have hgot := gotL_snoc r c (rs.take i) (cs.take i) ws (by simp; omega)
        rw [← tr, ← tc] at hgot
        have ixr : atI (rs.map rpD) (0 + (i : Int)) = some (.tup [.str r.kind, r.arg]) := atI_at0 (by rw [List.getElem?_map, er, ← good_rp hgr]; rfl)
        have ixc : atI (cs.map fun k : Nat => D.int (k : Int)) (0 + (i : Int)) = some (.int (c : Int)) := atI_at0 (by rw [List.getElem?_map, ec]; rfl)
        refine wg_name (by decide) ?_
        refine ws_cut (fun m => m = [.fz (patD rs), .fz (strsD ws), .fz (rowD cs), gotT p (gotL (rs.take (i + 1)) (cs.take (i + 1)) ws), .fz (.int ((cs.take i).sum : Nat)), .fz (.int (0 + (i : Int)))]) ?_ ?_
        · refine ws_if (wt_test (wd_op (wd_op (wd_op (wd_var rfl (by decide) (wd_var rfl (by decide) (o_ixL ixr (wd_int (o_ixT rfl (wd_tup (wa_cons (wd_str (wa_cons (wd_str (wa_nil ⟨Nat.le_of_ble_eq_true rfl, o_inT rfl rfl ?_ ⟩)))))))))))))))
          rw [isN_eq]
          refine ⟨_, rfl, ite_b (fun h => ?_) (fun h => ws_next ?_)⟩
          · obtain ⟨z, ez, ea⟩ := isN_ot h
            refine ws_dput (wd_sl (wd_var rfl (by decide) (wo_some (wd_var rfl (by decide) ⟨_, rfl, wo_some (wd_op (wd_var rfl (by decide) (wd_op (wd_var rfl (by decide) (wd_var rfl (by decide) (o_ixL ixc (o_addI ⟨_, rfl, s_lst ?_ ⟩)))))))⟩))))
            refine wd_varO rfl (by decide) ⟨p, rfl, wd_op (wd_op (wd_var rfl (by decide) (wd_var rfl (by decide) (o_ixL ixr (wd_int (o_ixT rfl ?_ ))))))⟩
            rw [ea]
            have hnd := (ddN_nodup _ _ hdd).1
            have hkeys : (gotL (rs.take i) (cs.take i) ws).map (·.1) = namesP (rs.take i) := gotL_keys _ _ _ (by simp; omega) fun r hr => hgp r (List.mem_of_mem_take hr)
            have hzn : z ∉ (gotL (rs.take i) (cs.take i) ws).map (·.1) := by
              rw [hkeys]
              exact names_new hnd er hgr h ez
            refine ⟨Sum.inr z, 3, _, rfl, rfl, ?_, ?_⟩
            · have : ((gotL (rs.take i) (cs.take i) ws).map (·.1)).length ≤ (rs.take i).length := by rw [hkeys]; exact names_len _
              simp at this ⊢; omega
            · have e0 : ((gotL (rs.take i) (cs.take i) ws).map fun q => ((Sum.inr q.1 : Key), T.lf (strsD q.2))) = (((gotL (rs.take i) (cs.take i) ws).map fun q => (q.1, T.lf (strsD q.2))).map fun q => ((Sum.inr q.1 : Key), q.2)) := by
                rw [List.map_map]; rfl
              rw [e0, putM_new _ _ _ (by rw [List.map_map]; exact hzn), hgot, h, if_pos rfl, ez]
              have e5 : cutD (ws.map D.str) (some (((cs.take i).sum : Nat) : Int)) (some ((((cs.take i).sum : Nat) : Int) + (c : Int))) = ((ws.drop (cs.take i).sum).take c).map D.str := by
                have := cut_both (ws.map D.str) (cs.take i).sum ((cs.take i).sum + c) (by omega)
                rw [Int.natCast_add] at this
                rw [this, ← List.map_drop, ← List.map_take]
                congr 2; omega
              rw [e5]
              simp [gotT, strsD]
          · rw [hgot, h, if_neg Bool.false_ne_true, List.append_nil]; rfl
        · rintro m rfl
          refine ws_set (by decide) (wd_op (wd_var rfl (by decide) (wd_op (wd_var rfl (by decide) (wd_var rfl (by decide) (o_ixL ixc (o_addI ⟨.fz (.int (0 + (i : Int))), ?_ ⟩)))))))
          rw [hsc]
          simp
      · rintro mm ⟨z5, rfl⟩
        rw [rngD_len]
        have e1 : rs.take ((rs.length : Int)).toNat = rs := List.take_of_length_le (by omega)
        have e2 : cs.take ((rs.length : Int)).toNat = cs := List.take_of_length_le (by omega)
        rw [e1, e2]
        exact ⟨_, _, rfl⟩
    · rintro mm ⟨z4, z5, rfl⟩
      refine ws_ret (wd_freeze 3 rfl (wd_var rfl (by decide) ⟨_, .fz (.fz .nil), ?_⟩))
      have : T.toD (.dic ((gotL rs cs ws).map fun q => (Sum.inr q.1, .lf (strsD q.2)))) = dicD (gotL rs cs ws) := by
        simp only [T.toD, toDk_got]; rfl
      rw [this]
      exact hP'
/-! ### the rank -/
def cntK (rs : List RP) (k : PySem.Str) : Nat := rs.countP fun r => decide (r.kind = k)
def rankD (rs : List RP) : D := .tup [.int (cntK rs "word"), .int (cntK rs "of"), .int (cntK rs "one"), .int (0 - (cntK rs "any" : Int))]
def fs_rank (K : PySem.W.Frag) : FS := fun ms P X => ∃ rs, ms = [.fz (patD rs)] ∧ rs.length ≤ 1000 ∧ (∀ r ∈ rs, r.ok) ∧ (goodP rs = true → P (.fz (rankD rs)) ms) ∧ (goodP rs = false → X (.ref (He.ga K "BadPattern")) ms)
/-- rank: slots 0 pattern, 1 kinds, 2 part -/
def t_rank (K : PySem.W.Frag) : WX → TS := fun W => (tSeq (tDrop (tCallS (SpM K (fs_look_pattern K)) (WE W) (tCons (tVar 0) tNil))) (tSeq (tAsg (tLcW (iList K (tVar 0)) (gName 2) (fun W => tYes) (fun W => (tOp (rIxA K) (tVar 2) (tC (.int 0)))) [2]) (gName 1)) (tRet (tTup (tCons (tBM K "list" (rCountA K) (tVar 1) (tCons (tC (.str "word")) tNil)) (tCons (tBM K "list" (rCountA K) (tVar 1) (tCons (tC (.str "of")) tNil)) (tCons (tBM K "list" (rCountA K) (tVar 1) (tCons (tC (.str "one")) tNil)) (tCons (tOp (rI0 fun i j => .int (i - j)) (tC (.int 0)) (tBM K "list" (rCountA K) (tVar 1) (tCons (tC (.str "any")) tNil))) tNil))))))))
theorem cnt_kinds (rs : List RP) (k : PySem.Str) : ((rs.map fun r => D.str r.kind).countP fun z => eqD z (.str k)) = cntK rs k := by
  unfold cntK
  rw [List.countP_map]
  apply List.countP_congr
  intro r _
  simp [eqD, Function.comp]
theorem kinds_flat (rs : List RP) : (rs.map fun r => D.str r.kind).all flat = true := by
  rw [List.all_map]; simp [List.all_eq_true, flat]
/-- [part[0] for part in pattern] -/
theorem wd_kinds {K : PySem.W.Frag} {n i j : Nat} {ms : List MV} {X : XP} {P : D → List MV → Prop} (rs : List RP) (hl : rs.length ≤ 1000) (hi : i < n) (hj : j < n) (hm : j < ms.length) (e : ms[i]? = some (.fz (patD rs))) (hgp : ∀ r ∈ rs, goodPart r = true) (h : P (.lst (rs.map fun r => D.str r.kind)) (ms.set j .un)) :
    wpD K n (fun W => tLcW (iList K (tVar i)) (gName j) (fun W => tYes) (fun W => (tOp (rIxA K) (tVar j) (tC (.int 0)))) [j]) ms P X := by
  refine wd_lcMap (by simpa using hj) (gok_name (by simp)) (wi_list (wd_var e hi ⟨_, rfl, ?_⟩))
  refine ⟨by simp; omega, fun _ => true, fun d => match d with | .tup (x :: _) => x | _ => .non, fun d hd => ?_, ?_⟩
  · obtain ⟨r, hr, rfl⟩ := List.mem_map.mp hd
    refine wg_name hj (wt_yes ⟨rfl, by simp [wipeM], fun _ => ?_⟩)
    refine wd_op (wd_var (d := .tup [.str r.kind, r.arg]) (by simp [wipeM, hm, good_rp (hgp r hr)]) hj (wd_int (o_ixT rfl ⟨?_, by simp [wipeM]⟩)))
    rw [good_rp (hgp r hr)]
  · rw [filt_true, List.map_map]
    have e : (rs.map ((fun d : D => match d with | .tup (x :: _) => x | _ => .non) ∘ rpD)) = rs.map fun r => D.str r.kind := List.map_congr_left fun r _ => rfl
    rw [e]
    exact h
theorem h_rank {K : PySem.W.Frag} : FsOk K 1 3 (fs_rank K) (t_rank K) := by
  intro ms P X hf
  obtain ⟨rs, rfl, hl, hok, hP, hX⟩ := hf
  refine ⟨rfl, ?_⟩
  unfold t_rank
  refine ws_seq (ws_drop (wd_call [] (wa_cons (wd_var rfl (by decide) (wa_nil ⟨_, _, .nil, rs, rfl, hl, hok, fun hg => ⟨_, _, .nil, _, rfl, ?_⟩, fun hg => ⟨_, _, .nil, _, .fz .nil, hX hg⟩ ⟩)))))
  obtain ⟨hlen, hgp, hdd⟩ := goodP_iff.mp hg
  refine ws_seq (ws_set (by decide) (wd_kinds rs hl (by decide) (by decide) (by simp) rfl hgp ?_))
  have cnt : ∀ {Q : D → List MV → Prop} (k : PySem.Str) {m : List MV}, m[1]? = some (.fz (.lst (rs.map fun r => D.str r.kind))) → Q (.int (cntK rs k)) m → wpD K 3 (fun W => tBM K "list" (rCountA K) (tVar 1) (tCons (tC (.str k)) tNil)) m Q (fun c me => ∃ ms', Back [.fz (patD rs)] me ms' ∧ X c ms') := by
    intro Q k m e hq
    refine wd_bm (wd_var e (by decide) ⟨fun _ _ _ => ty_lst, wa_cons (wd_str (wa_nil (b_count (kinds_flat rs) rfl ?_ )))⟩)
    rw [cnt_kinds]
    exact hq
  refine ws_ret (wd_tup (wa_cons (cnt "word" rfl (wa_cons (cnt "of" rfl (wa_cons (cnt "one" rfl (wa_cons (wd_op (wd_int (cnt "any" rfl (o_I0i (wa_nil ⟨Nat.le_of_ble_eq_true rfl, _, .fz .nil, hP hg ⟩)))))))))))))
theorem eqv_strs : ∀ a b : List PySem.Str, PyData.eqvAll (pys (a.map D.str)) (pys (b.map D.str)) = decide (a = b)
  | [], [] => by simp [pys, PyData.eqvAll]
  | [], _ :: _ => by simp [pys, PyData.eqvAll]
  | _ :: _, [] => by simp [pys, PyData.eqvAll]
  | x :: a, y :: b => by
    simp only [List.map_cons, pys, D.py, PyData.eqvAll, eqv_strs a b, PyData.eqv]
    by_cases h : x = y
    · subst h; simp
    · simp [h]
theorem eqv_strsD (a b : List PySem.Str) : PyData.eqv (D.lst (a.map D.str)).py (D.lst (b.map D.str)).py = decide (a = b) := by
  simp only [D.py, PyData.eqv]
  exact eqv_strs a b
theorem goodPart_cases {r : RP} (h : goodPart r = true) : (∃ ws, r = .of ws ∧ 1 ≤ ws.length ∧ ws.length ≤ 4 ∧ ∀ w ∈ ws, isWordS w = true) ∨ ∃ k s, r = .ot k s [] ∧ (k = "word" ∨ k = "one" ∨ k = "any") ∧ isWordS s = true := by
  cases r with
  | of ws =>
    simp [goodPart, List.all_eq_true] at h
    exact .inl ⟨ws, rfl, h.1.1, h.1.2, h.2⟩
  | ot k s ex =>
    simp [goodPart] at h
    obtain ⟨⟨rfl, h2⟩, h3⟩ := h
    exact .inr ⟨k, s, rfl, h2, h3⟩
theorem ws_assoc {K : PySem.W.Frag} {n : Nat} {ms : List MV} {X : XP} {N : List MV → Prop} {R : MV → List MV → Prop} {a b c : WX → TS} (h : wpS K n (fun W => tSeq (tSeq (a W) (b W)) (c W)) ms N R X) : wpS K n (fun W => tSeq (a W) (tSeq (b W) (c W))) ms N R X := h
theorem cut_pre (l : List D) (k : Nat) : cutD l none (some (k : Int)) = l.take k := by
  unfold cutD
  rw [sIx_nat']
  show (l.drop 0).take (min k l.length - 0) = l.take k
  rw [List.drop_zero, Nat.sub_zero]
  rcases Nat.le_total k l.length with h | h
  · rw [Nat.min_eq_left h]
  · rw [Nat.min_eq_right h, List.take_of_length_le (Nat.le_refl _), List.take_of_length_le h]
def RP.okB : RP → Bool
  | .of ws => decide (ws.length ≤ 100) && ws.all ascS
  | .ot k s ex => decide (k ≠ "of") && (ascS s && decide (ex.length ≤ 100))
theorem okB_ok {r : RP} (h : r.okB = true) : r.ok := by
  cases r with
  | of ws => simpa [RP.okB, RP.ok, List.all_eq_true] using h
  | ot k s ex => simpa [RP.okB, RP.ok] using h
end M
namespace M
open PySem PySem.Spec PyProof.Rows L2
/-! ### draws, in short -/
section
variable {K : PySem.W.Frag} {n : Nat} {ms : List MV} {X : XP} {P : D → List MV → Prop}
theorem wd_drawC {sc : List Int} {t : Addr} {k : Nat} {mm : Int} (e0 : ms[0]? = some (scr sc)) (e1 : ms[1]? = some (.ot t (zeros k))) (hn : 1 < n) (hl : sc.length ≤ 63) (hk : k < 90000) (hm : 0 < mm)
    (h : ∀ z, 0 ≤ z → z < mm → P (.int z) (ms.set 1 (.ot t (zeros (k + 1))))) : wpD K n (fun W => tCallS (SpM K (fs__law_draw K)) (WE W) (tCons (tVar 0) (tCons (tVar 1) (tCons (tC (.int mm)) tNil)))) ms P X := by
  have hl1 : 1 < ms.length := (List.getElem?_eq_some_iff.mp e1).1
  refine wd_call [(1, 1)] (wa_cons (wd_var e0 (by omega) (wa_cons (wd_varO e1 hn (wa_cons (wd_int (wa_nil ?_ )))))))
  refine ⟨_, _, .cons rfl e1 .nil, sc, t, k, mm, rfl, hl, hk, hm, fun z h0 h1 => ⟨_, _, .cons (p := t) (t := zeros (k + 1)) (by simp [hl1]) rfl .nil, _, rfl, ?_⟩⟩
  rw [List.set_set]
  exact h z h0 h1
theorem wd_drawV {sc : List Int} {t : Addr} {k : Nat} {mm : Int} {i : Nat} (e0 : ms[0]? = some (scr sc)) (e1 : ms[1]? = some (.ot t (zeros k))) (ei : ms[i]? = some (.fz (.int mm))) (hi : i < n) (hn : 1 < n) (hl : sc.length ≤ 63) (hk : k < 90000) (hm : 0 < mm)
    (h : ∀ z, 0 ≤ z → z < mm → P (.int z) (ms.set 1 (.ot t (zeros (k + 1))))) : wpD K n (fun W => tCallS (SpM K (fs__law_draw K)) (WE W) (tCons (tVar 0) (tCons (tVar 1) (tCons (tVar i) tNil)))) ms P X := by
  have hl1 : 1 < ms.length := (List.getElem?_eq_some_iff.mp e1).1
  refine wd_call [(1, 1)] (wa_cons (wd_var e0 (by omega) (wa_cons (wd_varO e1 hn (wa_cons (wd_var ei hi (wa_nil ?_ )))))))
  refine ⟨_, _, .cons rfl e1 .nil, sc, t, k, mm, rfl, hl, hk, hm, fun z h0 h1 => ⟨_, _, .cons (p := t) (t := zeros (k + 1)) (by simp [hl1]) rfl .nil, _, rfl, ?_⟩⟩
  rw [List.set_set]
  exact h z h0 h1
theorem wd_pickX {sc : List Int} {t : Addr} {k : Nat} {tx : WX → TE} (e0 : ms[0]? = some (scr sc)) (e1 : ms[1]? = some (.ot t (zeros k))) (hn : 1 < n) (hl : sc.length ≤ 63) (hk : k < 90000)
    (h : wpD K n tx ms (fun d m1 => m1 = ms ∧ ∃ ds, d = .lst ds ∧ 0 < ds.length ∧ ds.length ≤ 1000 ∧ ∀ e ∈ ds, P e (ms.set 1 (.ot t (zeros (k + 1))))) X) : wpD K n (fun W => tCallS (SpM K (fs__law_pick K)) (WE W) (tCons (tVar 0) (tCons (tVar 1) (tCons (tx W) tNil)))) ms P X := by
  have hl1 : 1 < ms.length := (List.getElem?_eq_some_iff.mp e1).1
  refine wd_call [(1, 1)] (wa_cons (wd_var e0 (by omega) (wa_cons (wd_varO e1 hn (wa_cons (h.mono (fun d m1 q => ?_) fun _ _ z => z) )))))
  obtain ⟨rfl, ds, rfl, h1, h2, hP⟩ := q
  refine wa_nil ⟨_, _, .cons rfl e1 .nil, sc, t, k, ds, rfl, hl, hk, h1, h2, fun d hd => ⟨_, _, .cons (p := t) (t := zeros (k + 1)) (by simp [hl1]) rfl .nil, _, rfl, ?_⟩⟩
  rw [List.set_set]
  exact hP d hd
theorem wd_menu (h : P (strsD menuL) ms) : wpD K n (fun _ => tCall (SpM K (fs__law_menu K)) [] E0 tNil) ms P X := wd_callZ ⟨rfl, _, rfl, h⟩
theorem menu_in {e : D} (h : e ∈ menuL.map D.str) : ∃ w ∈ menuL, e = .str w := by
  obtain ⟨w, hw, rfl⟩ := List.mem_map.mp h
  exact ⟨w, hw, rfl⟩
/-- an owned thing is known for good, ahead of an expression that gives a new one -/
theorem wn_freeze (i : Nat) {p : Addr} {t : T} {te : WX → TE} {P : Addr → T → List MV → Prop} (e : ms[i]? = some (.ot p t)) (h : wpN K n te (ms.set i (.fz t.toD)) P X) : wpN K n te ms P X := by
  intro W G F H σ gv Q hn S k x
  obtain ⟨F1, e1, S1⟩ := S.freeze e
  exact h W G F1 H σ gv Q hn S1 (fun p t m g F' H' q S' e => k p t m g F' H' q S' (e1.trans e)) fun c m g F' H' p S' e => x c m g F' H' p S' (e1.trans e)
/-- a + b, two lists: a new one -/
theorem wn_addL {ta tb : WX → TE} {P : Addr → T → List MV → Prop} (h : wpD K n ta ms (fun a m1 => wpD K n tb m1 (fun b m2 => ∃ x y, a = .lst x ∧ b = .lst y ∧ x.length + y.length ≤ 1000000 ∧ ∀ p, P p (.lst ((x ++ y).map .lf)) m2) X) X) : wpN K n (fun W => tOp (rAddA K) (ta W) (tb W)) ms P X := by
  intro W G F H σ gv Q hn S k x
  refine h W G F H σ gv _ hn S (fun a v1 m1 g1 F1 H1 hb S1 r1 e1 => ?_) x
  refine hb W G F1 H1 σ g1 _ hn S1 (fun b v2 m2 g2 F2 H2 ho S2 r2 e2 => ?_) (fun c m g F' H' p S' e => x c m g F' H' p S' (e1.trans e))
  obtain ⟨xa, ya, rfl, rfl, hl, hP⟩ := ho
  cases r1 with
  | lst q1 w1 =>
    cases r2 with
    | lst q2 w2 =>
      rename_i a1 vs1 a2 vs2
      refine .inr (.inr (.inl ⟨_, _, _, _, rfl, rfl, (e2.trans S2.f) _ _ q1, S2.f _ _ q2, ?_, fun p hp => ?_⟩))
      · rw [sizeLine_eq, w1.length, w2.length]; omega
      · have w3 : RpL K F2 (vs1 ++ vs2) (xa ++ ya) := (w1.up e2).app w2
        exact k _ _ m2 g2 _ _ (hP p) (S2.newOwn hp (.lst (owL_of w3) rfl)) (e1.trans e2)
end
end M
namespace M
open PySem PySem.Spec PyProof.Rows L2
/-! ### k02: patterns drawn -/
def nm6 : List PySem.Str := ["a", "b", "c", "d", "e", "f"]
theorem nm6_ok : nm6.Nodup ∧ nm6.length = 6 ∧ ∀ w ∈ nm6, isWordS w = true ∧ ascS w = true := by decide +kernel
theorem nm6_len : ∀ w ∈ nm6, w.length ≤ 3 := by decide +kernel
theorem menu_word : ∀ w ∈ menuL, isWordS w = true ∧ ascS w = true := by decide +kernel
theorem nodup_ddN : ∀ (l seen : List PySem.Str), l.Nodup → (∀ x ∈ l, x ∉ seen) → ddN seen l = l.length
  | [], _, _, _ => rfl
  | x :: l, seen, nd, hs => by
    obtain ⟨hx, nd⟩ := List.nodup_cons.mp nd
    have h1 : seen.contains x = false := by
      have := hs x List.mem_cons_self
      simpa using this
    rw [ddN, h1, nodup_ddN l (x :: seen) nd fun y hy => ?_]
    · simp; omega
    · intro z
      rcases List.mem_cons.mp z with rfl | z
      · exact hx hy
      · exact hs y (List.mem_cons_of_mem _ hy) z
/-- a pattern as the laws draw it -/
structure Nice (rs : List RP) : Prop where
  good : goodP rs = true
  ok : ∀ r ∈ rs, r.ok
  short : ∀ r ∈ rs, ∀ w ∈ r.ws, w.length ≤ 4
def fs__law_pattern (K : PySem.W.Frag) : FS := fun ms P X => ∃ sc t n m, ms = [scr sc, .ot t (zeros n), .fz (.int m)] ∧ sc.length ≤ 63 ∧ n < 80000 ∧ 1 ≤ m ∧ m ≤ 6 ∧
  ∀ rs n', Nice rs → (rs.length : Int) ≤ m → n' ≤ n + 100 → P (.fz (patD rs)) [scr sc, .ot t (zeros n'), .fz (.int m)]
/-- _law_pattern: slots 0 script, 1 town, 2 most, 3 found, 4 names, 5 k, 6 way, 7 some, 8 j -/
def t__law_pattern (K : PySem.W.Frag) : WX → TS := fun W => (tSeq (tAsg (tLst tNil) (gName 3)) (tSeq (tAsg (tLst (tCons (tC (.str "a")) (tCons (tC (.str "b")) (tCons (tC (.str "c")) (tCons (tC (.str "d")) (tCons (tC (.str "e")) (tCons (tC (.str "f")) tNil))))))) (gName 4)) (tSeq (tFor (iRng1 (tCons (tOp (rAddA K) (tC (.int 1)) (tCallS (SpM K (fs__law_draw K)) (WE W) (tCons (tVar 0) (tCons (tVar 1) (tCons (tVar 2) tNil))))) tNil)) (gName 5) (tSeq (tAsg (tCallS (SpM K (fs__law_draw K)) (WE W) (tCons (tVar 0) (tCons (tVar 1) (tCons (tC (.int 7)) tNil)))) (gName 6)) (tIfS (tTest (tOp (rI0 fun i j => .bl (decide (i < j))) (tVar 6) (tC (.int 2)))) (tDrop (tBM K "list" rAppend (tVar 3) (tCons (tTup (tCons (tC (.str "word")) (tCons (tCallS (SpM K (fs__law_pick K)) (WE W) (tCons (tVar 0) (tCons (tVar 1) (tCons (tCall (SpM K (fs__law_menu K)) [] E0 tNil) tNil)))) tNil))) tNil))) (tIfS (tTest (tOp (rEqA K) (tVar 6) (tC (.int 2)))) (tSeq (tAsg (tLcW (iRng1 (tCons (tOp (rAddA K) (tC (.int 1)) (tCallS (SpM K (fs__law_draw K)) (WE W) (tCons (tVar 0) (tCons (tVar 1) (tCons (tC (.int 4)) tNil))))) tNil)) (gName 8) (fun W => tYes) (fun W => (tCallS (SpM K (fs__law_pick K)) (WE W) (tCons (tVar 0) (tCons (tVar 1) (tCons (tCall (SpM K (fs__law_menu K)) [] E0 tNil) tNil))))) [8]) (gName 7)) (tDrop (tBM K "list" rAppend (tVar 3) (tCons (tTup (tCons (tC (.str "of")) (tCons (tVar 7) tNil))) tNil)))) (tDrop (tBM K "list" rAppend (tVar 3) (tCons (tTup (tCons (tIf (tTest (tOp (rI0 fun i j => .bl (decide (i < j))) (tVar 6) (tC (.int 5)))) (tC (.str "one")) (tC (.str "any"))) (tCons (tOp (rIxA K) (tVar 4) (tVar 5)) tNil))) tNil))))))) (tRet (tVar 3)))))
abbrev foundP (p : Addr) (rs : List RP) : MV := .ot p (.lst ((rs.map rpD).map .lf))
theorem h__law_pattern {K : PySem.W.Frag} : FsOk K 3 9 (fs__law_pattern K) (t__law_pattern K) := by
  intro ms P X hf
  obtain ⟨sc, t, n, m, rfl, hl, hn, hm1, hm6, hP⟩ := hf
  refine ⟨rfl, ?_⟩
  unfold t__law_pattern
  refine ws_seq (ws_setN (by decide) (wn_lst (wa_nil ⟨by decide, fun p => ?_ ⟩)))
  refine ws_seq (ws_set (by decide) ?_)
  (repeat (first | refine wd_var rfl (by decide) ?_ | with_reducible refine wd_int ?_ | with_reducible refine wd_str ?_ | with_reducible refine wd_bl ?_ | with_reducible refine wd_non ?_ | with_reducible refine wd_op ?_ | with_reducible refine wd_cb ?_ | with_reducible refine wa_cons ?_ | with_reducible refine wa_nil ?_ | with_reducible refine wt_rng ?_ | with_reducible refine wt_test ?_ | with_reducible refine wt_B ?_ | with_reducible refine wt_and ?_ | with_reducible refine wt_or ?_ | with_reducible refine wt_not ?_ | with_reducible refine wt_tru ?_ | with_reducible refine wd_if ?_ | with_reducible refine wd_andV ?_ | with_reducible refine wd_orV ?_ | with_reducible refine wd_notV ?_ | with_reducible refine wd_chain ?_ | with_reducible refine wd_tup ?_ | with_reducible refine wd_lst ?_ | with_reducible refine wd_un ?_ | with_reducible refine wd_bm ?_ | with_reducible refine wd_sl ?_ | with_reducible refine wo_none ?_ | with_reducible refine wo_some ?_ | refine wg_tup rfl ?_ | with_reducible refine wgs_cons ?_ | with_reducible refine wgs_nil ?_ | refine wg_name (by decide) ?_ | with_reducible refine o_eqS ?_ | with_reducible refine o_neS ?_ | with_reducible refine o_eqI ?_ | with_reducible refine o_neI ?_ | refine o_isN rfl ?_ | refine o_notN rfl ?_ | refine o_ixT rfl ?_ | with_reducible refine o_addI ?_ | with_reducible refine o_I0b ?_ | with_reducible refine o_I0i ?_ | with_reducible refine un_negI ?_ | with_reducible refine s_lst ?_ | with_reducible refine wt_yes ?_ | refine c_len rfl (by first | omega | (simp <;> omega)) ?_ | refine o_addL (by first | omega | (simp <;> omega)) ?_ | refine ite_t rfl ?_ | refine ite_f rfl ?_ | refine ite_t (by decide +kernel) ?_ | refine ite_f (by decide +kernel) ?_ | refine o_inT rfl rfl ?_ | refine o_notInT rfl rfl ?_ | refine ⟨_, rfl, ?_⟩ | refine ⟨Nat.le_of_ble_eq_true rfl, ?_⟩ | refine ⟨fun _ _ _ => ty_lst, ?_⟩))
  refine ws_cut (fun mm => ∃ rs n' z5 z6 z7, mm = [scr sc, .ot t (zeros n'), .fz (.int m), foundP p rs, .fz (strsD nm6), z5, z6, z7, .un] ∧ Nice rs ∧ (rs.length : Int) ≤ m ∧ n' ≤ n + 100) ?_ ?_
  · refine ws_for (wi_rng1 (wa_cons (wd_op (wd_int (wd_drawV rfl rfl rfl (by decide) (by decide) hl (by omega) (by omega) fun z hz0 hz1 => o_addI (wa_nil ⟨_, rfl, by omega, by omega, ?_ ⟩))))))
    refine ⟨fun i mm => ∃ rs n' z5 z6 z7, mm = [scr sc, .ot t (zeros n'), .fz (.int m), foundP p rs, .fz (strsD nm6), z5, z6, z7, .un] ∧ rs.length = i ∧ (∀ r ∈ rs, (r.ok ∧ goodPart r = true) ∧ ∀ w ∈ r.ws, w.length ≤ 3) ∧ List.Sublist (namesP rs) (nm6.take i) ∧ n' ≤ n + 1 + 8 * i, ⟨[], n + 1, _, _, _, rfl, rfl, by simp, by simp [namesP], by omega⟩, ?_, ?_⟩
    · rintro i d mm hd ⟨rs, n', z5, z6, z7, rfl, hli, hrs, hsub, hn'⟩
      obtain ⟨hi, rfl⟩ := rngD_at hd
      have hi6 : i < 6 := by omega
      have step : ∀ (r : RP) (n2 : Nat) (a b c : MV), (r.ok ∧ ∀ w ∈ r.ws, w.length ≤ 3) → goodPart r = true → List.Sublist (namesP (rs ++ [r])) (nm6.take (i + 1)) → n2 ≤ n + 1 + 8 * (i + 1) →
          (fun i mm => ∃ rs n' z5 z6 z7, mm = [scr sc, .ot t (zeros n'), .fz (.int m), foundP p rs, .fz (strsD nm6), z5, z6, z7, .un] ∧ rs.length = i ∧ (∀ r ∈ rs, (r.ok ∧ goodPart r = true) ∧ ∀ w ∈ r.ws, w.length ≤ 3) ∧ List.Sublist (namesP rs) (nm6.take i) ∧ n' ≤ n + 1 + 8 * i) (i + 1) [scr sc, .ot t (zeros n2), .fz (.int m), .ot p (.lst ((rs.map rpD).map .lf ++ [.lf (rpD r)])), .fz (strsD nm6), a, b, c, .un] := by
        intro r n2 a b c h1 h2 h3 h4
        refine ⟨rs ++ [r], n2, a, b, c, by simp [foundP], by simp [hli], fun x hx => ?_, h3, h4⟩
        rcases List.mem_append.mp hx with hx | hx
        · exact hrs x hx
        · simp at hx; subst hx; exact ⟨⟨h1.1, h2⟩, h1.2⟩
      have sub0 : ∀ r : RP, r.name = [] → List.Sublist (namesP (rs ++ [r])) (nm6.take (i + 1)) := fun r hr => by
        have : namesP (rs ++ [r]) = namesP rs := by simp [namesP, hr]
        rw [this]
        exact hsub.trans (List.take_sublist_take_left (Nat.le_succ i))
      refine wg_name (by decide) (ws_seq (ws_set (by decide) (wd_drawC rfl rfl (by decide) hl (by omega) (by decide) fun z hz0 hz1 => ?_)))
      refine ws_if (wt_test (wd_op (wd_var rfl (by decide) (wd_int (o_I0b ⟨_, rfl, ite_b (fun hw => ?_) (fun hw => ?_) ⟩)))))
      · refine ws_append (by decide) rfl (wd_tup (wa_cons (wd_str (wa_cons (wd_pickX rfl rfl (by decide) hl (by omega) (wd_menu ⟨rfl, _, rfl, by decide, by decide, fun e he => ?_ ⟩))))))
        obtain ⟨w, hw, rfl⟩ := menu_in he
        refine wa_nil ⟨Nat.le_of_ble_eq_true rfl, _, rfl, by simp; omega, ?_⟩
        exact step (.ot "word" w []) _ _ _ _ ⟨⟨by decide +kernel, (menu_word w hw).2, by decide⟩, fun x hx => by simp [RP.ws] at hx; subst hx; exact (menu_ok _ hw).2⟩ (by simp [goodPart, (menu_word w hw).1]) (sub0 _ (by simp only [RP.name]; rw [if_neg (by decide +kernel)])) (by omega)
      · refine ws_if (wt_test (wd_op (wd_var rfl (by decide) (wd_int (o_eqI ⟨_, rfl, ite_b (fun hw2 => ?_) (fun hw2 => ?_) ⟩)))))
        · refine ws_seq (ws_set (by decide) ?_)
          refine wd_lc (by decide) (gok_name (by decide)) (wi_rng1 (wa_cons (wd_op (wd_int (wd_drawC rfl rfl (by decide) hl (by omega) (by decide) fun y hy0 hy1 => o_addI (wa_nil ⟨_, rfl, by omega, by omega, ?_ ⟩))))))
          refine ⟨by rw [rngD_len]; omega, fun j acc mm => ∃ ws : List PySem.Str, acc = ws.map .str ∧ ws.length = j ∧ (∀ w ∈ ws, w ∈ menuL) ∧ mm = [scr sc, .ot t (zeros (n' + 2 + j)), .fz (.int m), foundP p rs, .fz (strsD nm6), .fz (.int (0 + (i : Int))), .fz (.int z), z7, .un], ⟨[], rfl, rfl, by simp, rfl⟩, ?_, ?_⟩
          · rintro j d acc mm hd ⟨ws, rfl, hj, hws, rfl⟩
            obtain ⟨hj2, rfl⟩ := rngD_at hd
            refine wg_name (by decide) (wt_yes (ite_t rfl (wd_pickX rfl rfl (by decide) hl (by omega) (wd_menu ⟨rfl, _, rfl, by decide, by decide, fun e he => ?_ ⟩))))
            obtain ⟨w, hw, rfl⟩ := menu_in he
            refine ⟨ws ++ [w], by simp, by simp [hj], fun x hx => ?_, rfl⟩
            rcases List.mem_append.mp hx with hx | hx
            · exact hws x hx
            · simp at hx; subst hx; exact hw
          · rintro acc mm ⟨ws, rfl, hj, hws, rfl⟩
            rw [rngD_len] at hj
            refine ws_append (by decide) rfl (wd_tup (wa_cons (wd_str (wa_cons (wd_var rfl (by decide) (wa_nil ⟨Nat.le_of_ble_eq_true rfl, _, rfl, by simp; omega, ?_ ⟩))))))
            rw [rngD_len]
            refine step (.of ws) _ _ _ _ ⟨⟨by omega, fun w hw => (menu_word w (hws w hw)).2⟩, fun w hw => (menu_ok w (hws w hw)).2⟩ ?_ (sub0 _ rfl) (by omega)
            have : ws.all isWordS = true := List.all_eq_true.mpr fun w hw => (menu_word w (hws w hw)).1
            simp [goodPart, this]; omega
        · have hix : atI (nm6.map D.str) (0 + (i : Int)) = some (.str (nm6.getD i "")) := atI_at0 (by
            rw [List.getElem?_map, List.getD_eq_getElem?_getD, List.getElem?_eq_getElem (by rw [nm6_ok.2.1]; omega)]; rfl)
          have hin : nm6.getD i "" ∈ nm6 := by
            rw [List.getD_eq_getElem?_getD, List.getElem?_eq_getElem (by rw [nm6_ok.2.1]; omega)]
            exact List.getElem_mem _
          have take1 : nm6.take (i + 1) = nm6.take i ++ [nm6.getD i ""] := by
            rw [List.take_add_one, List.getD_eq_getElem?_getD, List.getElem?_eq_getElem (by rw [nm6_ok.2.1]; omega)]; rfl
          have fin : ∀ k : PySem.Str, k = "one" ∨ k = "any" → (fun i mm => ∃ rs n' z5 z6 z7, mm = [scr sc, .ot t (zeros n'), .fz (.int m), foundP p rs, .fz (strsD nm6), z5, z6, z7, .un] ∧ rs.length = i ∧ (∀ r ∈ rs, (r.ok ∧ goodPart r = true) ∧ ∀ w ∈ r.ws, w.length ≤ 3) ∧ List.Sublist (namesP rs) (nm6.take i) ∧ n' ≤ n + 1 + 8 * i) (i + 1) [scr sc, .ot t (zeros (n' + 1)), .fz (.int m), .ot p (.lst ((rs.map rpD).map .lf ++ [.lf (.tup [.str k, .str (nm6.getD i "")])])), .fz (strsD nm6), .fz (.int (0 + (i : Int))), .fz (.int z), z7, .un] := by
            intro k hk
            have hkof : k ≠ "of" := by rcases hk with rfl | rfl <;> decide +kernel
            refine step (.ot k (nm6.getD i "") []) _ _ _ _ ⟨⟨hkof, (nm6_ok.2.2 _ hin).2, by decide⟩, fun x hx => by simp [RP.ws] at hx; subst hx; exact nm6_len _ hin⟩ ?_ ?_ (by omega)
            · have : (decide (k = "one") || decide (k = "any")) = true := by simpa using hk
              simp only [goodPart, (nm6_ok.2.2 _ hin).1, this]; simp
            · have : namesP (rs ++ [.ot k (nm6.getD i "") []]) = namesP rs ++ [nm6.getD i ""] := by
                have : (decide (k = "one") || decide (k = "any")) = true := by simpa using hk
                simp [namesP, RP.name, hk]
              rw [this, take1]
              exact hsub.append (List.Sublist.refl _)
          refine ws_append (by decide) rfl (wd_tup (wa_cons (wd_if (wt_test (wd_op (wd_var rfl (by decide) (wd_int (o_I0b ⟨_, rfl, ite_b (fun h5 => ?_) (fun h5 => ?_) ⟩))))))))
          · refine wd_str (wa_cons (wd_op (wd_var rfl (by decide) (wd_var rfl (by decide) (o_ixL hix (wa_nil ⟨Nat.le_of_ble_eq_true rfl, _, rfl, by simp; omega, fin _ (.inl rfl) ⟩))))))
          · refine wd_str (wa_cons (wd_op (wd_var rfl (by decide) (wd_var rfl (by decide) (o_ixL hix (wa_nil ⟨Nat.le_of_ble_eq_true rfl, _, rfl, by simp; omega, fin _ (.inr rfl) ⟩))))))
    · rintro mm ⟨rs, n', z5, z6, z7, rfl, hli, hrs, hsub, hn'⟩
      rw [rngD_len] at hli hsub hn'
      refine ⟨rs, n', z5, z6, z7, rfl, ⟨?_, fun r hr => (hrs r hr).1.1, fun r hr w hw => Nat.le_succ_of_le ((hrs r hr).2 w hw)⟩, by omega, by omega⟩
      refine goodP_iff.mpr ⟨by omega, fun r hr => (hrs r hr).1.2, nodup_ddN _ _ ?_ (by simp)⟩
      exact (hsub.trans (List.take_sublist _ _)).nodup nm6_ok.1
  · rintro mm ⟨rs, n', z5, z6, z7, rfl, hni, hle, hn'⟩
    refine ws_ret (wd_freeze 3 rfl (wd_var rfl (by decide) ⟨_, .fz (.ot (.fz .nil)), ?_⟩))
    rw [toD_lst]
    exact hP rs n' hni hle hn'
theorem arg_sh {r : RP} (h : goodPart r = true) : PyData.canLay0 r.arg.py = true ∧ PyData.depth r.arg.py ≤ 2 := by
  rcases goodPart_cases h with ⟨vs, rfl, h1, h2, h3⟩ | ⟨k, s, rfl, hk, h3⟩
  · have := strsD_sh (l := vs) fun x hx => word_ok (h3 x hx)
    obtain ⟨a, b⟩ := str_sh_aux vs fun x hx => word_ok (h3 x hx)
    simp only [RP.arg, strsD, D.py, PyData.canLay0, PyData.depth]
    exact ⟨a, by omega⟩
  · have := strsD_sh (l := [s]) fun x hx => by simp at hx; subst hx; exact word_ok h3
    obtain ⟨a, b⟩ := str_sh_aux [s] fun x hx => by simp at hx; subst hx; exact word_ok h3
    simp only [List.map_cons, List.map_nil, pys, PyData.canLayAll0, Bool.and_true] at a
    refine ⟨a, ?_⟩
    simp [RP.arg, D.py, PyData.depth]
theorem pat_lay : ∀ l : List RP, (∀ r ∈ l, goodPart r = true) → PyData.canLayAll0 (pys (l.map rpD)) = true ∧ PyData.depthAll (pys (l.map rpD)) ≤ 4 := by
  have kinds : ∀ k ∈ (["word", "of", "one", "any"] : List PySem.Str), okS k = true := by decide +kernel
  intro l
  induction l with
  | nil => intro _; simp [pys, PyData.canLayAll0, PyData.depthAll]
  | cons r l ih =>
    intro hl
    obtain ⟨a, b⟩ := ih fun x hx => hl x (List.mem_cons_of_mem _ hx)
    have hg := hl r List.mem_cons_self
    obtain ⟨c, d⟩ := arg_sh hg
    have hk : okS r.kind = true := by
      rcases goodPart_cases hg with ⟨vs, rfl, h1, h2, h3⟩ | ⟨k, s, rfl, hk, h3⟩
      · exact kinds "of" (by simp)
      · rcases hk with rfl | rfl | rfl
        · exact kinds "word" (by simp)
        · exact kinds "one" (by simp)
        · exact kinds "any" (by simp)
    obtain ⟨e, f⟩ := str_sh_aux [r.kind] fun x hx => by simp at hx; subst hx; exact hk
    simp only [List.map_cons, List.map_nil, pys, PyData.canLayAll0, Bool.and_true] at e
    simp only [List.map_cons, pys, good_rp hg, D.py, PyData.canLayAll0, PyData.depthAll, PyData.canLay0, PyData.depth, Bool.and_eq_true]
    refine ⟨⟨⟨e, c, trivial⟩, a⟩, by omega⟩
theorem pat_sh {rs : List RP} (hni : Nice rs) : (patD rs).sh = true := by
  obtain ⟨hlen, hgp, hdd⟩ := goodP_iff.mp hni.good
  obtain ⟨a, b⟩ := pat_lay rs hgp
  unfold D.sh SeqAt.shaped patD
  simp only [D.py, PyData.canLay0, PyData.depth, a, Bool.true_and]
  exact decide_eq_true (by omega)
end M
namespace M
open PySem PySem.Spec PyProof.Rows L2
/-! ### displays with owned parts -/
section
variable {K : PySem.W.Frag} {n : Nat} {ms : List MV} {X : XP}
/-- the first slot's thing is kept aside -/
theorem St.aside {G F H : Hp} {σ : List (Option V)} {p : Addr} {t : T} (S : St K G F H (.ot p t :: ms) (some (.ref p) :: σ)) : ∃ h1, OwT K F (.ref p) h1 t ∧ Dj h1 G ∧ St K (jn h1 G) F H ms σ := by
  obtain ⟨h, x, sh, d1, d2⟩ := S.own
  cases x with
  | ot w y dj =>
    rename_i h1 h2
    refine ⟨h1, w, d2.of_jn_l, Same.jn (Same.jn_l.trans sh) S.g, S.f, Dj.jn_r d1.of_jn_l.symm S.fg, h2, y, (Same.jn_r dj).trans sh, d1.of_jn_r, Dj.jn_r dj.symm d2.of_jn_r⟩
/-- what was aside is owned by a new thing -/
theorem St.gather {G F H : Hp} {σ : List (Option V)} {p : Addr} {t : T} {h h' : Hp} {o : HO} (dj : Dj h G) (S : St K (jn h G) F H ms σ) (hp : H p = none) (w : OwT K F (.ref p) h' t) (hh : h' = upd h p o) : St K G F (upd H p o) (.ot p t :: ms) (some (.ref p) :: σ) := by
  subst hh
  obtain ⟨h2, x, sh, d1, d2⟩ := S.own
  have sh1 : Same h H := Same.jn_l.trans S.g
  have sG : Same G H := (Same.jn_r dj).trans S.g
  have hF := S.f.free hp
  have hG := sG.free hp
  have h2p := sh.free hp
  refine ⟨sG.trans (same_new hp), S.f.trans (same_new hp), S.fg.symm.of_jn_r.symm, _, .ot w x (Dj.upd d2.symm.of_jn_l h2p), Same.jn ?_ (sh.trans (same_new hp)), Dj.jn_l (Dj.upd S.fg.symm.of_jn_l hF) d1, Dj.jn_l (dj.upd hG) d2.symm.of_jn_r.symm⟩
  intro b u e
  by_cases hb : b = p
  · subst hb; rw [upd_same] at e ⊢; exact e
  · rw [upd_ne hb] at e ⊢; exact sh1 _ _ e
def wpAT (K : PySem.W.Frag) (n : Nat) (ta : WX → TA) (ms : List MV) (P : List T → List MV → Prop) (X : XP) : Prop :=
  ∀ (W : WX) (G F H : Hp) (σ gv : List (Option V)) (Q : List V → Hp → Prop), σ.length = n → St K G F H ms (σ ++ gv) →
    (∀ ts vs h ms' gv' F' H', P ts ms' → Dj h G → OwL K F' vs h ts → St K (jn h G) F' H' ms' (σ ++ gv') → Same F F' → Q vs H') →
    (∀ c ms' gv' F' H', X c ms' → St K G F' H' ms' (σ ++ gv') → Same F F' → W c none σ H') → ta W σ H Q
theorem unaside {G F H h : Hp} {σ : List (Option V)} (dj : Dj h G) (S : St K (jn h G) F H ms σ) : St K G F H ms σ := by
  obtain ⟨h2, x, sh, d1, d2⟩ := S.own
  exact ⟨(Same.jn_r dj).trans S.g, S.f, S.fg.symm.of_jn_r.symm, h2, x, sh, d1, d2.symm.of_jn_r.symm⟩
theorem wat_nil {P : List T → List MV → Prop} (h : P [] ms) : wpAT K n (fun _ => tNil) ms P X := by
  intro W G F H σ gv Q hn S k x
  refine k [] [] emp ms gv F H h Dj.emp_l .nil ?_ (Same.refl _)
  rw [emp_jn]; exact S
theorem wat_data {ta : WX → TE} {tr : WX → TA} {P : List T → List MV → Prop} (h : wpD K n ta ms (fun d m1 => wpAT K n tr m1 (fun ts m2 => P (.lf d :: ts) m2) X) X) : wpAT K n (fun W => tCons (ta W) (tr W)) ms P X := by
  intro W G F H σ gv Q hn S k x
  refine h W G F H σ gv _ hn S (fun a v1 m1 g1 F1 H1 hb S1 r1 e1 => ?_) x
  refine hb W G F1 H1 σ g1 _ hn S1 (fun ts vs h m2 g2 F2 H2 p dj w S2 e2 => ?_) (fun c m g F' H' p S' e => x c m g F' H' p S' (e1.trans e))
  have z := OwL.cons (OwT.lf (r1.up e2)) w Dj.emp_l
  rw [emp_jn] at z
  exact k _ _ h m2 g2 F2 H2 p dj z S2 (e1.trans e2)
theorem wat_new {ta : WX → TE} {tr : WX → TA} {P : List T → List MV → Prop} (h : wpN K n ta ms (fun _ t m1 => wpAT K n tr m1 (fun ts m2 => P (t :: ts) m2) X) X) : wpAT K n (fun W => tCons (ta W) (tr W)) ms P X := by
  intro W G F H σ gv Q hn S k x
  refine h W G F H σ gv _ hn S (fun p t m1 g1 F1 H1 hb S1 e1 => ?_) x
  obtain ⟨h1, w1, d1, S2⟩ := S1.aside
  refine hb W _ F1 H1 σ g1 _ hn S2 (fun ts vs h2 m2 g2 F2 H2 pp dj w S3 e2 => ?_) (fun c m g F' H' p S' e => x c m g F' H' p (unaside d1 S') (e1.trans e))
  have z := OwL.cons (w1.le (Le.of e2)) w (dj.symm.of_jn_l)
  refine k _ _ _ m2 g2 F2 H2 pp (Dj.jn_l d1 dj.symm.of_jn_r.symm) z ?_ (e1.trans e2)
  have e : jn h2 (jn h1 G) = jn (jn h1 h2) G := by
    rw [jn_assoc, ← jn_assoc, jn_comm dj.symm.of_jn_l.symm, jn_assoc]
  rw [e] at S3
  exact S3
theorem wn_tupT {ta : WX → TA} {P : Addr → T → List MV → Prop} (h : wpAT K n ta ms (fun ts m1 => ts.length ≤ 1000000 ∧ ∀ p, P p (.tup ts) m1) X) : wpN K n (fun W => tTup (ta W)) ms P X := by
  intro W G F H σ gv Q hn S k x
  refine h W G F H σ gv _ hn S (fun ts vs h m1 g1 F1 H1 ho dj w S1 e1 => ?_) x
  refine ⟨?_, fun p hp => ?_⟩
  · rw [owL_len w]
    have := ho.1
    rw [sizeLine_eq]; omega
  · have nh : h p = none := (Same.jn_l.trans S1.g).free hp
    exact k _ _ m1 g1 _ _ (ho.2 p) (S1.gather dj hp (.tup w nh) rfl) e1
theorem wn_lstT {ta : WX → TA} {P : Addr → T → List MV → Prop} (h : wpAT K n ta ms (fun ts m1 => ts.length ≤ 1000000 ∧ ∀ p, P p (.lst ts) m1) X) : wpN K n (fun W => tLst (ta W)) ms P X := by
  intro W G F H σ gv Q hn S k x
  refine h W G F H σ gv _ hn S (fun ts vs h m1 g1 F1 H1 ho dj w S1 e1 => ?_) x
  refine ⟨?_, fun p hp => ?_⟩
  · rw [owL_len w]
    have := ho.1
    rw [sizeLine_eq]; omega
  · have nh : h p = none := (Same.jn_l.trans S1.g).free hp
    exact k _ _ m1 g1 _ _ (ho.2 p) (S1.gather dj hp (.lst w nh) rfl) e1
/-! {k: v, ..} with owned values -/
def wpPT (K : PySem.W.Frag) (n : Nat) (t : WX → List (TE × TE)) (ms : List MV) (P : List (Key × T) → List MV → Prop) (X : XP) : Prop :=
  ∀ (W : WX) (G F H : Hp) (σ gv : List (Option V)) (Q : List (V × V) → Hp → Prop), σ.length = n → St K G F H ms (σ ++ gv) →
    (∀ kts kvs h ms' gv' F' H', P kts ms' → Dj h G → OwK K F' kvs h kts → St K (jn h G) F' H' ms' (σ ++ gv') → Same F F' → Q (kvs.map fun kv => (kV kv.1, kv.2)) H') →
    (∀ c ms' gv' F' H', X c ms' → St K G F' H' ms' (σ ++ gv') → Same F F' → W c none σ H') → tPairs (t W) σ H Q
theorem wpt_nil {P : List (Key × T) → List MV → Prop} (h : P [] ms) : wpPT K n (fun _ => []) ms P X := by
  intro W G F H σ gv Q hn S k x
  refine k [] [] emp ms gv F H h Dj.emp_l .nil ?_ (Same.refl _)
  rw [emp_jn]; exact S
theorem wpt_data {ta tb : WX → TE} {tr : WX → List (TE × TE)} {P : List (Key × T) → List MV → Prop} (h : wpD K n ta ms (fun a m1 => ∃ k, keyD a = some k ∧ wpD K n tb m1 (fun d m2 => wpPT K n tr m2 (fun r m3 => P ((k, .lf d) :: r) m3) X) X) X) : wpPT K n (fun W => (ta W, tb W) :: tr W) ms P X := by
  intro W G F H σ gv Q hn S k x
  refine h W G F H σ gv _ hn S (fun a v1 m1 g1 F1 H1 ho S1 r1 e1 => ?_) x
  obtain ⟨key, ek, ho⟩ := ho
  have := r1.key ek
  subst this
  refine ho W G F1 H1 σ g1 _ hn S1 (fun d v2 m2 g2 F2 H2 ho S2 r2 e2 => ?_) (fun c m g F' H' p S' e => x c m g F' H' p S' (e1.trans e))
  refine ho W G F2 H2 σ g2 _ hn S2 (fun kts kvs h m3 g3 F3 H3 p dj w S3 e3 => ?_) (fun c m g F' H' p S' e => x c m g F' H' p S' ((e1.trans e2).trans e))
  have z := OwK.cons (k := key) (OwT.lf (r2.up e3)) w Dj.emp_l
  rw [emp_jn] at z
  exact k _ ((key, v2) :: kvs) h m3 g3 F3 H3 p dj z S3 ((e1.trans e2).trans e3)
theorem wpt_new {ta tb : WX → TE} {tr : WX → List (TE × TE)} {P : List (Key × T) → List MV → Prop} (h : wpD K n ta ms (fun a m1 => ∃ k, keyD a = some k ∧ wpN K n tb m1 (fun _ t m2 => wpPT K n tr m2 (fun r m3 => P ((k, t) :: r) m3) X) X) X) : wpPT K n (fun W => (ta W, tb W) :: tr W) ms P X := by
  intro W G F H σ gv Q hn S k x
  refine h W G F H σ gv _ hn S (fun a v1 m1 g1 F1 H1 ho S1 r1 e1 => ?_) x
  obtain ⟨key, ek, ho⟩ := ho
  have := r1.key ek
  subst this
  refine ho W G F1 H1 σ g1 _ hn S1 (fun p t m2 g2 F2 H2 ho S2 e2 => ?_) (fun c m g F' H' p S' e => x c m g F' H' p S' (e1.trans e))
  obtain ⟨h1, w1, d1, S2'⟩ := S2.aside
  refine ho W _ F2 H2 σ g2 _ hn S2' (fun kts kvs h2 m3 g3 F3 H3 pp dj w S3 e3 => ?_) (fun c m g F' H' p S' e => x c m g F' H' p (unaside d1 S') ((e1.trans e2).trans e))
  have z := OwK.cons (k := key) (w1.le (Le.of e3)) w (dj.symm.of_jn_l)
  refine k _ ((key, .ref p) :: kvs) _ m3 g3 F3 H3 pp (Dj.jn_l d1 dj.symm.of_jn_r.symm) z ?_ ((e1.trans e2).trans e3)
  have e : jn h2 (jn h1 G) = jn (jn h1 h2) G := by
    rw [jn_assoc, ← jn_assoc, jn_comm dj.symm.of_jn_l.symm, jn_assoc]
  rw [e] at S3
  exact S3
theorem OwK.keys {F : Hp} : ∀ {kvs : List (Key × V)} {h : Hp} {kts : List (Key × T)}, OwK K F kvs h kts → kvs.map (·.1) = kts.map (·.1)
  | _, _, _, .nil => rfl
  | _, _, _, .cons _ t _ => by simp [OwK.keys t]
theorem wn_dispT {t : WX → List (TE × TE)} {P : Addr → T → List MV → Prop} (h : wpPT K n t ms (fun kts m1 => kts.length ≤ 15 ∧ (kts.map (·.1)).Nodup ∧ ∀ p, P p (.dic kts) m1) X) : wpN K n (fun W => tDisp (t W)) ms P X := by
  intro W G F H σ gv Q hn S kk x p hp
  have hG : G p = none := S.g.free hp
  refine h W _ F _ σ gv _ hn (ghost S hp) (fun kts kvs h m1 g1 F1 H1 ho dj w S1 e1 => ?_) (fun c m g F' H' q S' e => x c m g F' H' q (unghost hG S') e)
  obtain ⟨hl, nd, hP⟩ := ho
  have hGp : H1 p = some (.dK []) := ((Same.jn_r dj).trans S1.g) _ _ upd_same
  refine ⟨hGp, kvs, rfl, by rw [w.len]; exact hl, ?_⟩
  have em : mergeK [] kvs = kvs := by
    have := merge_new kvs [] (by simp) (by rw [w.keys]; exact nd)
    simpa using this
  rw [em]
  -- p goes from the kept to the owned
  have hhp : h p = none := dj.symm.none upd_same
  have hFp : F1 p = none := S1.fg.symm.none (by rw [jn_r hhp]; exact upd_same)
  obtain ⟨h2, y, sh, d1, d2⟩ := S1.own
  have h2p : h2 p = none := d2.symm.none (by rw [jn_r hhp]; exact upd_same)
  have djG : Dj h G := (dj.symm.un_upd hG).symm
  have up : ∀ {A : Hp}, A p = none → Same A H1 → Same A (upd H1 p (.dK kvs)) := fun na s b u z => by
    rw [upd_ne (ne_of_none z na)]; exact s _ _ z
  have sG : Same G H1 := (same_new hG).trans ((Same.jn_r dj).trans S1.g)
  have sh1 : Same h H1 := Same.jn_l.trans S1.g
  have fG : Dj F1 G := (S1.fg.symm.of_jn_r.un_upd hG).symm
  have dh2G : Dj h2 G := (d2.symm.of_jn_r.un_upd hG).symm
  refine kk p _ m1 g1 F1 _ (hP p) ⟨up hG sG, up hFp S1.f, fG, _, .ot (.dic w hhp) y (Dj.upd d2.symm.of_jn_l h2p), Same.jn ?_ (up h2p sh), Dj.jn_l (Dj.upd S1.fg.symm.of_jn_l hFp) d1, Dj.jn_l (djG.upd hG) dh2G⟩ e1
  intro b u e
  by_cases hb : b = p
  · subst hb; rw [upd_same] at e ⊢; exact e
  · rw [upd_ne hb] at e ⊢; exact sh1 _ _ e
/-- new.append(e), let go -/
theorem ws_appNew {te tv : WX → TE} {N : List MV → Prop} {R : MV → List MV → Prop} (h : wpN K n te ms (fun p t m1 => ∃ ts : List T, t = .lst ts ∧ ts.length < 1000000 ∧ ∃ (d : D) (v : V), (∀ F, Rp K F v d) ∧ tv = (fun _ => tC v) ∧ N m1) X) :
    wpS K n (fun W => tDrop (tBM K "list" rAppend (te W) (tCons (tv W) tNil))) ms N R X := by
  intro W G F H σ gv E hn S k r x
  refine h W G F H σ gv _ hn S (fun p t m1 g1 F1 H1 ho S1 e1 => ?_) (fun c m g F' H' p S' e => x c m σ g F' H' p hn S' e)
  obtain ⟨ts, rfl, hl, d, v, rv, rfl, hN⟩ := ho
  obtain ⟨vs, hp, hlen, f⟩ := S1.list (i := 0) rfl
  refine ⟨.inl ⟨rfl, _, SqL.of hp⟩, ?_⟩
  refine ⟨p, vs, v, rfl, rfl, hp, by rw [sizeLine_eq]; omega, ?_⟩
  have S2 := f (vs ++ [v]) (ts ++ [.lf d]) fun h0 w => ⟨h0, w.snoc (rv F1), Same.refl _⟩
  have S3 : St K G F1 (upd H1 p (.lst (vs ++ [v]))) (.ot p (.lst (ts ++ [.lf d])) :: m1) (some (.ref p) :: (σ ++ g1)) := S2
  exact k _ σ g1 F1 _ hN hn S3.tail e1
end
end M
namespace M
open PySem PySem.Spec PyProof.Rows L2
section
variable {K : PySem.W.Frag} {n : Nat} {ms : List MV} {X : XP} {N : List MV → Prop} {R : MV → List MV → Prop}
/-- the name of an owned thing, let go -/
theorem wn_var {i : Nat} {p : Addr} {t : T} {P : Addr → T → List MV → Prop} (e : ms[i]? = some (.ot p t)) (hi : i < n) (h : P p t (ms.set i (.fz (.raw (.ref p))))) : wpN K n (fun _ => tVar i) ms P X := by
  intro W G F H σ gv Q hn S k _
  have hv := S.getO e
  refine ⟨.ref p, get_app (by omega) hv, k p t _ gv F H h ?_ (Same.refl _)⟩
  refine S.sub fun h0 x => ?_
  obtain ⟨h1, h2, rfl, dj, w, _, f⟩ := x.focus e
  exact ⟨_, .ot w (f F (.raw (.ref p)) (Le.of (Same.refl _)) (.raw _)) dj, Same.refl _⟩
/-- a part of an owned thing is known for good -/
theorem St.freezeK {G F H : Hp} {σ : List (Option V)} {i k : Nat} {p : Addr} {t u : T} (S : St K G F H ms σ) (e : ms[i]? = some (.ot p t)) (a : t.kid k = some u) : ∃ F', Same F F' ∧ St K G F' H (ms.set i (.ot p (t.setKid k (.lf u.toD)))) σ := by
  obtain ⟨h, x, sh, d1, d2⟩ := S.own
  obtain ⟨g1, g2, rfl, dj, w, f, _⟩ := x.focus e
  obtain ⟨v1, h1, r, w1, dj1, rfl, f1⟩ := w.kid a
  have sF : Same F (jn F h1) := Same.jn_l
  have dFh1 : Dj F h1 := d1.of_jn_l.of_jn_l.symm
  have hrest : OwT K (jn F h1) (.ref p) r (t.setKid k (.lf u.toD)) := by
    have := f1 (jn F h1) emp _ (Le.of sF) (.lf (w1.rp sF (Same.jn_r dFh1))) Dj.emp_l
    rwa [emp_jn] at this
  have s2 := f (jn F h1) r _ (Le.of sF) hrest dj.of_jn_r
  have sh1 : Same h1 H := Same.jn_l.trans (Same.jn_l.trans sh)
  refine ⟨jn F h1, sF, S.g, Same.jn S.f sh1, Dj.jn_l S.fg d2.of_jn_l.of_jn_l, _, s2, Same.jn ((Same.jn_r dj1).trans (Same.jn_l.trans sh)) ((Same.jn_r dj).trans sh), ?_, ?_⟩
  · refine Dj.jn_r (Dj.jn_l d1.of_jn_l.of_jn_r d1.of_jn_r) (Dj.jn_l dj1.symm dj.of_jn_l.symm)
  · exact Dj.jn_l d2.of_jn_l.of_jn_r d2.of_jn_r
theorem ws_freezeK (i k : Nat) {p : Addr} {t u : T} {ts : WX → TS} (e : ms[i]? = some (.ot p t)) (a : t.kid k = some u) (h : wpS K n ts (ms.set i (.ot p (t.setKid k (.lf u.toD)))) N R X) : wpS K n ts ms N R X := by
  intro W G F H σ gv E hn S kk r x
  obtain ⟨F1, e1, S1⟩ := S.freezeK e a
  exact h W G F1 H σ gv E hn S1 (fun m σ' g F' H' p l S' e => kk m σ' g F' H' p l S' (e1.trans e)) (fun m v ms' σ' g F' H' p l S' e => r m v ms' σ' g F' H' p l S' (e1.trans e)) fun c m σ' g F' H' p l S' e => x c m σ' g F' H' p l S' (e1.trans e)
end
theorem valT_hit {k : Key} {t : T} {l : List (Key × T)} : valT ((k, t) :: l) k = some t := by simp [valT, List.find?_cons]
theorem valT_skip {k k0 : Key} {t : T} {l : List (Key × T)} (h : k0 ≠ k) : valT ((k0, t) :: l) k = valT l k := by simp [valT, List.find?_cons, h]
theorem valD_hit {k : Key} {t : D} {l : List (Key × D)} : valD ((k, t) :: l) k = some t := by simp [valD, List.find?_cons]
theorem valD_skip {k k0 : Key} {t : D} {l : List (Key × D)} (h : k0 ≠ k) : valD ((k0, t) :: l) k = valD l k := by simp [valD, List.find?_cons, h]
/-! ### fit to be compared -/
def lay (d : D) (m : Nat) : Prop := d.py.canLay0 = true ∧ d.py.depth ≤ m
theorem lay.sh {d : D} {m : Nat} (h : lay d m) (hm : m ≤ 64) : d.sh = true := by
  unfold D.sh SeqAt.shaped
  rw [h.1]
  have := h.2
  simp; omega
theorem lay.mono {d : D} {m k : Nat} (h : lay d m) (hm : m ≤ k) : lay d k := ⟨h.1, Nat.le_trans h.2 hm⟩
theorem layAll {m : Nat} : ∀ {ds : List D}, (∀ d ∈ ds, lay d m) → PyData.canLayAll0 (pys ds) = true ∧ PyData.depthAll (pys ds) ≤ m
  | [], _ => ⟨by simp [pys, PyData.canLayAll0], by simp [pys, PyData.depthAll]⟩
  | d :: ds, h => by
    obtain ⟨a, b⟩ := layAll (ds := ds) fun x hx => h x (List.mem_cons_of_mem _ hx)
    obtain ⟨c, e⟩ := h d List.mem_cons_self
    simp only [pys, PyData.canLayAll0, PyData.depthAll, a, c, Bool.true_and, true_and]
    omega
theorem lay_lst {m : Nat} {ds : List D} (h : ∀ d ∈ ds, lay d m) : lay (.lst ds) (m + 1) := by
  obtain ⟨a, b⟩ := layAll h
  unfold lay
  simp only [D.py, PyData.canLay0, PyData.depth]
  exact ⟨a, by omega⟩
theorem lay_tup {m : Nat} {ds : List D} (h : ∀ d ∈ ds, lay d m) : lay (.tup ds) (m + 1) := by
  obtain ⟨a, b⟩ := layAll h
  unfold lay
  simp only [D.py, PyData.canLay0, PyData.depth]
  exact ⟨a, by omega⟩
theorem lay_non : lay .non 0 := by simp [lay, D.py, PyData.canLay0, PyData.depth]
theorem lay_int (i : Int) : lay (.int i) 0 := by simp [lay, D.py, PyData.canLay0, PyData.depth]
theorem lay_bl (i : Bool) : lay (.bl i) 0 := by simp [lay, D.py, PyData.canLay0, PyData.depth]
theorem lay_strL {x : PySem.Str} (h : ∀ c ∈ x.cps.toList, c < 128) : lay (.str x) 0 := by
  have hs : PyData.strOk x = true := by
    unfold PyData.strOk
    rw [Array.all_eq_true']
    intro c hc
    have := h c (by simpa using hc)
    simp
    omega
  simp [lay, D.py, PyData.canLay0, PyData.depth, hs]
end M
namespace M
open PySem PySem.Spec PyProof.Rows L2
section
variable {K : PySem.W.Frag} {n : Nat} {ms : List MV} {X : XP} {N : List MV → Prop} {R : MV → List MV → Prop}
/-- d[k] = a new owned thing -/
theorem ws_dputN {td ty tv : WX → TE} (h : wpN K n tv ms (fun q u m1 => wpD K n td (m1 ++ [.ot q u]) (fun x m2 => ∃ p, x = .raw (.ref p) ∧ wpD K n ty m2 (fun kd m3 => ∃ k i kk ts, keyD kd = some k ∧ m3[i]? = some (.ot p (.dic ts)) ∧ ts.length < 1000000 ∧ n ≤ m1.length ∧ Inn i kk m1.length q N (m3.set i (.ot p (.dic (putM k (.lf (.raw (.ref q))) ts))))) noX) noX) X) :
    wpS K n (fun W => sDPut (td W) (ty W) (tv W)) ms N R X := by
  intro W G F H σ gv E hn S k r x
  refine h W G F H σ gv _ hn S (fun q u m1 g1 F1 H1 ho S1 e1 => ?_) (fun c m g F' H' p S' e => x c m σ g F' H' p hn S' e)
  have S1' : St K G F1 H1 (m1 ++ [.ot q u]) (σ ++ (g1 ++ [some (.ref q)])) := by rw [← List.append_assoc]; exact S1.rot
  refine ho W G F1 H1 σ _ _ hn S1' (fun d2 v2 m2 g2 F2 H2 ho S2 r2 e2 => ?_) (fun c m g F' H' p S' e => p.elim)
  obtain ⟨p, rfl, ho⟩ := ho
  cases r2
  refine ho W G F2 H2 σ g2 _ hn S2 (fun d3 v3 m3 g3 F3 H3 ho S3 r3 e3 => ?_) (fun c m g F' H' p S' e => p.elim)
  obtain ⟨k3, i, kk, ts, ek, ei, hl, hnn, hI⟩ := ho
  have := r3.key ek
  subst this
  obtain ⟨vs, h0, hp, w, f⟩ := S3.dic ei
  refine ⟨p, _, rfl, .inl ⟨vs, k3, hp, rfl, ?_, rfl⟩, ?_⟩
  · rw [w.len, sizeLine_eq]; omega
  · have S4 := f _ _ (w.put (k := k3) (.raw (.ref q)))
    obtain ⟨m', g', z, S5⟩ := inn_back (by omega) S4 hI
    exact k _ σ g' F3 _ z hn S5 ((e1.trans e2).trans e3)
/-- a name of an owned thing is not None -/
theorem o_isNR {q : Addr} {P : D → Prop} (h : P (.bl false)) : opD K rIsN (.raw (.ref q)) .non P := by
  intro x y F H Q r1 r2 s k
  cases r1
  cases r2
  exact ⟨rfl, k _ _ F H h .refl (.bl _)⟩
theorem o_notNR {q : Addr} {P : D → Prop} (h : P (.bl true)) : opD K rNotN (.raw (.ref q)) .non P := by
  intro x y F H Q r1 r2 s k
  cases r1
  cases r2
  exact ⟨rfl, k _ _ F H h .refl (.bl _)⟩
/-- a op b, b looked at where it lies -/
theorem wd_opV {r : R2} {ta tb : WX → TE} {P : D → List MV → Prop} (h : wpD K n ta ms (fun a m1 => wpD K n tb (m1.map view) (fun b _ => opD K r a b fun d => flat d = true ∧ P d m1) (fun c _ => X c m1)) X) : wpD K n (fun W => tOp r (ta W) (tb W)) ms P X := by
  intro W G F H σ gv Q hn S k x
  refine h W G F H σ gv _ hn S (fun a v1 m1 g1 F1 H1 hb S1 r1 e1 => ?_) x
  obtain ⟨F2, e2, S2, back⟩ := view_core S1
  refine hb W G F2 H1 σ g1 _ hn S2 (fun b v2 m2 g2 F3 H3 ho S3 r2 e3 => ?_) (fun c m2 g2 F3 H3 p S3 e3 => ?_)
  · refine ho v1 v2 F3 H3 Q ((r1.up e2).up e3) r2 S3.f fun d v F' H' p gr rd => ?_
    have S4 := S3.gr gr
    have e4 := (gr.same S3.f).1
    obtain ⟨F5, e5, S5⟩ := back _ _ _ _ (e3.trans e4) S4
    exact k d v m1 g1 F5 H' p.2 S5 (rd.flat p.1) (e1.trans e5)
  · obtain ⟨F5, e5, S5⟩ := back _ _ _ _ e3 S3
    exact x c m1 g1 F5 H3 p S5 (e1.trans e5)
/-- isinstance(x, tuple) -/
theorem c_isTup {P : D → Prop} {ds : List D} (h : P (.bl true)) : cbD K (rIsiA K) [.tup ds, .raw (.ty "tuple")] P := by
  intro xs F H Q r s k
  cases r with
  | cons r1 r2 =>
    cases r2 with
    | cons r2 r3 =>
      cases r3
      cases r2
      cases r1 with
      | tup e r =>
        rename_i aa vv
        have ty : TyX K H (.ref aa) (.type "tuple") := by
          rcases (Le.of s).sqT e with e | ⟨o, its, n, e1, e2, _⟩
          · rcases e with e | ⟨o, e⟩
            · exact .base (.tup e)
            · exact .fTuple e
          · exact .kTuple e1 e2
        exact .inr ⟨_, _, _, _, true, rfl, .ty "tuple", ty, rfl, k _ _ F H h .refl (.bl _)⟩
theorem c_isTupS {P : D → Prop} {x : PySem.Str} (hk : PySem.W.kitOne K (.type "str") (.type "tuple") = some false) (h : P (.bl false)) : cbD K (rIsiA K) [.str x, .raw (.ty "tuple")] P := by
  intro xs F H Q r s k
  cases r with
  | cons r1 r2 =>
    cases r2 with
    | cons r2 r3 =>
      cases r3
      cases r2
      cases r1
      exact .inr ⟨_, _, _, _, false, rfl, .ty "tuple", .base (.str _), hk, k _ _ F H h .refl (.bl _)⟩
theorem kit_str_tup : PySem.W.kitOne K (.type "str") (.type "tuple") = some false := by
  unfold PySem.W.kitOne
  rfl
end
end M
namespace M
open PySem PySem.Spec PyProof.Rows L2
/-! ### comprehensions over the keys of a dict, locked -/
section
variable {K : PySem.W.Frag} {n : Nat} {ms : List MV} {X : XP}
theorem lc_walk {J : It} {g : TG} {tt : WX → TT} {te : WX → TE} {vs : List Nat} {P : D → List MV → Prop} {ds : List D} {G F1 H1 : Hp} {σ g1 : List (Option V)} {m1 : List MV} {Q : V → Hp → Prop} {I : Nat → List D → List MV → Prop} (hvs : ∀ v ∈ vs, v < n) (hg : GOk g vs) (hn : σ.length = n) (S1 : St K G F1 H1 m1 (σ ++ g1)) (w : Walks K J F1 ds) (hlen : ds.length ≤ 1000000) (h0 : I 0 [] (wipeM m1 vs))
    (hs : ∀ i d acc m, ds[i]? = some d → I i acc m → wpG K n g d m fun m2 => wpT K n tt m2 (fun b m3 => if b = true then wpD K n te m3 (fun e m4 => I (i + 1) (acc ++ [e]) (wipeM m4 vs)) noX else I (i + 1) acc (wipeM m3 vs)) noX)
    (hd : ∀ acc m, I ds.length acc m → P (.lst acc) (wipeM m vs))
    (k : ∀ d v ms' gv' F' H', P d ms' → St K G F' H' ms' (σ ++ gv') → Rp K F' v d → Same F1 F' → Q v H') : tLc (fun _ H Q => Q J H) g (tt W0) (te W0) vs σ H1 Q := by
  have hvn : ∀ v ∈ vs, v < σ.length := fun v hv => by rw [hn]; exact hvs v hv
  have hwl : (L2.wipe σ vs).length = n := by rw [wipe_length]; exact hn
  intro Dl hDl
  -- the list that grows stands behind the slots
  let gh : List D → MV := fun acc => .ot Dl (.lst (acc.map .lf))
  let Pv : Nat → Hp → Prop := fun i H' => ∃ acc m gv' F', I i acc m ∧ acc.length ≤ i ∧ St K G F' H' (m ++ [gh acc]) ((L2.wipe σ vs ++ gv') ++ [some (.ref Dl)]) ∧ Same F1 F'
  have put : ∀ {G F H : Hp} {m : List MV} {s : List (Option V)} {q : MV} {o : Option V}, St K G F H (q :: m) (o :: s) → St K G F H (m ++ [q]) (s ++ [o]) := by
    intro G F H m s q o S
    refine S.sub fun h y => ?_
    have y1 : OwS K F ([q] ++ m) ([o] ++ s) h := y
    obtain ⟨a, b, p1, p2, d, rfl⟩ := OwS.split (a := [q]) (s := [o]) rfl y1
    refine ⟨_, p2.join p1 d.symm, ?_⟩
    rw [jn_comm d.symm]
    exact Same.refl _
  refine ⟨fun i m H' => i + m = ds.length ∧ Pv i H', ⟨ds.length, by omega, [], wipeM m1 vs, g1, F1, h0, by simp, ?_, Same.refl _⟩, fun i m H' hW => ?_⟩
  · exact put ((S1.wipe vs hvn).newOwn hDl (.lst (owL_of .nil) rfl))
  obtain ⟨em, acc, m2, g2, F2, hI, hacc, S2, e2⟩ := hW
  have hm2 : m2.length = (L2.wipe σ vs ++ g2).length := by
    have := S2.len
    simp only [List.length_append, List.length_cons, List.length_nil] at this ⊢
    omega
  have last : ∀ (l : List MV) (q : MV), (l ++ [q])[l.length]? = some q := fun l q => by simp
  cases q : ds[i]? with
  | none =>
    have hi : ds.length ≤ i := List.getElem?_eq_none_iff.mp q
    have hi' : i = ds.length := by omega
    subst hi'
    refine .inl ⟨((w.up e2) _ H' S2.f).2 rfl, ?_⟩
    obtain ⟨F3, e3, S3⟩ := S2.freeze (last m2 (gh acc))
    have S3' : St K G F3 H' (m2 ++ [.fz (.lst acc)]) ((L2.wipe σ vs ++ g2) ++ [some (.ref Dl)]) := by
      rw [List.set_append_right _ _ (Nat.le_refl _)] at S3
      simpa [toD_lst] using S3
    obtain ⟨v, hv, rv⟩ := S3'.get (last m2 (.fz (.lst acc)))
    have hv' : v = .ref Dl := by
      rw [hm2] at hv
      simpa using hv.symm
    subst hv'
    have S4 : St K G F3 H' m2 (L2.wipe σ vs ++ g2) := S3'.sub fun h y => by
      obtain ⟨a, b, p1, p2, d, rfl⟩ := y.split hm2
      exact ⟨a, p1, Same.jn_l⟩
    exact k _ _ _ g2 F3 H' (hd acc m2 hI) (St.unwipe vs hvn S4) rv (e2.trans e3)
  | some d =>
    have hi : i < ds.length := (List.getElem?_eq_some_iff.mp q).1
    obtain ⟨hgo, hy⟩ := ((w.up e2) i H' S2.f).1 d q
    refine .inr ⟨hgo, Pv (i + 1), fun H3 hP => ⟨m - 1, by omega, by omega, hP⟩, fun y H3 hyl => ?_⟩
    obtain ⟨rfl, ry⟩ := hy y H3 hyl
    obtain ⟨G', SL, back⟩ := St.lend hm2 S2
    refine hg (L2.wipe σ vs) (L2.wipe σ vs) y H3 _ (wipe_wipe vs) (hs i d acc m2 q hI G' F2 H3 (L2.wipe σ vs) g2 y _ hwl SL ry fun m3 σ3 h3 hn3 S3 ew => ?_)
    have hv3 : ∀ v ∈ vs, v < σ3.length := fun v hv => by rw [hn3]; exact hvs v hv
    refine h3 W0 G' F2 H3 σ3 g2 _ hn3 S3 (fun b m4 g4 F4 H4 ho S4 e4 => ?_) (fun c m g F' H' p S' e => p.elim)
    cases b with
    | false =>
      rw [if_neg Bool.false_ne_true] at ho ⊢
      have S5 := S4.wipe vs hv3
      rw [ew] at S5
      exact ⟨acc, _, g4, F4, ho, by omega, back F4 H4 _ _ e4 S5, e2.trans e4⟩
    | true =>
      rw [if_pos rfl] at ho ⊢
      refine ho W0 G' F4 H4 σ3 g4 _ hn3 S4 (fun e v5 m5 g5 F5 H5 hI5 S5 r5 e5 => ?_) (fun c m g F' H' p S' e => p.elim)
      have S6 := S5.wipe vs hv3
      rw [ew] at S6
      have S7 := back F5 H5 _ _ (e4.trans e5) S6
      obtain ⟨ws, hD, hwsl, f⟩ := S7.list (last _ (gh acc))
      refine ⟨ws, hD, by rw [hwsl, List.length_map, sizeLine_eq]; omega, acc ++ [e], _, g5, F5, hI5, by simp; omega, ?_, (e2.trans e4).trans e5⟩
      have S8 := f (ws ++ [v5]) (acc.map .lf ++ [.lf e]) fun h0 w0 => ⟨h0, w0.snoc r5, Same.refl _⟩
      rw [List.set_append_right _ _ (Nat.le_refl _)] at S8
      simpa [gh] using S8
/-- d is locked while the expression is asked, or it was locked before -/
def tLockO (t : TE) : TE := fun σ H Q => tLockE t σ H Q ∨ t σ H Q
theorem pe_lockO {X : Cx} {e : Expr} {t : TE} (h : PE X e t) : PE X e (tLockO t) := by
  refine ⟨fun pins s σ H Q I hw => ?_⟩
  rcases hw with hw | hw
  · exact (pe_lock h).run pins s σ H Q I hw
  · exact h.run pins s σ H Q I hw
theorem wd_lcKeys {i : Nat} {g : TG} {tt : WX → TT} {te : WX → TE} {vs : List Nat} {P : D → List MV → Prop} {kds : List (Key × D)} (hvs : ∀ v ∈ vs, v < n) (hg : GOk g vs) (hi : i < n) (e : ms[i]? = some (.fz (.dic kds))) (hlen : kds.length ≤ 1000000) (I : Nat → List D → List MV → Prop) (h0 : I 0 [] (wipeM ms vs))
    (hs : ∀ j d acc m, (kds.map fun kv => keyDV kv.1)[j]? = some d → I j acc m → wpG K n g d m fun m2 => wpT K n tt m2 (fun b m3 => if b = true then wpD K n te m3 (fun e m4 => I (j + 1) (acc ++ [e]) (wipeM m4 vs)) noX else I (j + 1) acc (wipeM m3 vs)) noX)
    (hd : ∀ acc m, I kds.length acc m → P (.lst acc) (wipeM m vs)) :
    wpD K n (fun W => tLockO (tLcW (iKeysM (tVar i)) g tt te vs)) ms P X := by
  intro W G F H σ gv Q hn S k x
  obtain ⟨v, hv, rv⟩ := S.get e
  have hv' := get_app (by omega) hv
  cases rv with
  | dic hr rk =>
    rename_i a kvs
    have hl : kvs.length = kds.length := rk.length
    have ek := keys_eq rk
    have hkl : (kvs.map fun kv => keyDV kv.1).length = kds.length := by rw [List.length_map]; exact hl
    have hs' : ∀ j d acc m, (kvs.map fun kv => keyDV kv.1)[j]? = some d → I j acc m → wpG K n g d m fun m2 => wpT K n tt m2 (fun b m3 => if b = true then wpD K n te m3 (fun e m4 => I (j + 1) (acc ++ [e]) (wipeM m4 vs)) noX else I (j + 1) acc (wipeM m3 vs)) noX := by rw [ek]; exact hs
    rcases hr with hr | ⟨o, hr⟩
    · left
      refine ⟨a, .dK kvs, S.f _ _ hr, trivial, fun od => ?_⟩
      have le1 : Le F (upd F a (.frz od (.dK kvs))) := fun b u z => by
        by_cases hb : b = a
        · subst hb; rw [hr] at z; cases z
          exact .inr (.inl ⟨od, kvs, rfl, upd_same⟩)
        · exact .inl (by rw [upd_ne hb]; exact z)
      have S1 := S.turnF hr le1
      refine ⟨_, hv', a, od, kvs, rfl, upd_same, ?_⟩
      refine lc_walk (Q := fun v H' => H' a = some (HO.frz od (HO.dK kvs)) ∧ Q v (upd H' a (HO.dK kvs))) hvs hg hn S1 (walks_keys (K := K) (upd_same (H := F) (a := a))) (by rw [hkl]; exact hlen) h0 hs' (fun acc m hI => hd acc m (by rw [hkl] at hI; exact hI)) (fun d v ms' gv' F' H' hP S' rv' e' => ?_)
      have hF' : F' a = some (.frz od (.dK kvs)) := e' _ _ upd_same
      have le2 : Le F' (upd F' a (.dK kvs)) := fun b u z => by
        by_cases hb : b = a
        · subst hb; rw [hF'] at z; cases z
          exact .inr (.inr ⟨od, kvs, rfl, upd_same⟩)
        · exact .inl (by rw [upd_ne hb]; exact z)
      refine ⟨S'.f _ _ hF', k d v ms' gv' _ _ hP (S'.turnF hF' le2) (rv'.le le2) fun b u z => ?_⟩
      by_cases hb : b = a
      · subst hb; rw [hr] at z; cases z; exact upd_same
      · rw [upd_ne hb]; exact e' _ _ (by rw [upd_ne hb]; exact z)
    · right
      exact ⟨_, hv', a, o, kvs, rfl, S.f _ _ hr, lc_walk hvs hg hn S (walks_keys (K := K) hr) (by rw [hkl]; exact hlen) h0 hs' (fun acc m hI => hd acc m (by rw [hkl] at hI; exact hI)) k⟩
/-- o.m(..), o data; the value is new -/
theorem wn_methF (i : Nat) (l : List (Nat × Nat)) {C : Addr} {m : PySem.Str} {names : List PySem.Str} {ts : List (PySem.Str × D)} {fs : FS} {ta : WX → TA} {P : Addr → T → List MV → Prop} (hm : nofB m names = true) (hi : i < n) (ei : ms[i]? = some (.fz (.obj C ts))) (hnn : ts.map (·.1) = names)
    (h : wpA K n ta ms (fun ds m1 => ∃ a' b', Lend l ((.obj C ts :: ds).map .fz) m1 a' b' ∧ fs a' (fun r a1 => ∃ a2 b2, Lend (l.map fun q => (q.2, q.1)) b' a1 b2 a2 ∧ ∃ q t, r = .ot q t ∧ P q t b2) (fun c a1 => ∃ a2 b2, Lend (l.map fun q => (q.2, q.1)) b' a1 b2 a2 ∧ X c b2)) X) :
    wpN K n (fun W => tMethO C m (SpM K fs) (WE W) (tVar i) (ta W)) ms P X := by
  intro W G F H σ gv Q hn S k x
  obtain ⟨v, hv, rv⟩ := S.get ei
  have hv' := get_app (by omega) hv
  have rv0 := rv
  cases rv with
  | obj hp hown w =>
    refine ⟨_, hv', _, _, _, rfl, S.f _ _ hp, look_new (by rw [w.names, hnn]; exact hm), ?_⟩
    refine h W G F H σ gv _ hn S (fun ds vs m1 g1 F1 H1 ho S1 r1 e1 => ?_) x
    obtain ⟨a', b', L, hf⟩ := ho
    refine run_call (P := fun m b2 => ∃ q t, m = .ot q t ∧ P q t b2) S1 (RpL.cons (rv0.up e1) r1) L hf (fun m v ms' F' H' p S' e => ?_) (fun c ms' F' H' p S' e => x c ms' g1 F' H' p S' (e1.trans e))
    obtain ⟨q, t, rfl, p⟩ := p
    have ev := S'.headO
    subst ev
    exact k q t ms' g1 F' H' p S' (e1.trans e)
end
end M
namespace M
open PySem PySem.Spec PyProof.Rows L2
/-! ### slices of tuples; min of things -/
section
variable {K : PySem.W.Frag} {P : D → Prop}
theorem s_tup {a : List D} {lo hi : Option Int} (hw : ¬ (HT.sIx a.length 0 lo = 0 ∧ HT.sIx a.length a.length hi = a.length)) (h : P (.tup (cutD a lo hi))) : slD K (rSlT K) (.tup a) lo hi P := by
  intro x F H Q r1 s k
  cases r1 with
  | tup e1 r1 =>
    refine ⟨_, _, rfl, (Le.of s).sqT e1, by rw [r1.length]; exact hw, fun p hp => ?_⟩
    have nF := s.free hp
    refine k _ _ _ _ h (.new .refl hp) (.tup (SqT.of upd_same) (RpL.up ?_ (same_new nF)))
    unfold cutV cutD
    rw [r1.length]
    exact RpL.take _ (RpL.drop _ r1)
def minG {α : Type} (lt : α → α → Bool) (x : α) (rs : List α) : α := rs.foldl (fun a y => if lt y a = true then y else a) x
theorem minG_mem {α : Type} (lt : α → α → Bool) : ∀ (rs : List α) (x : α), minG lt x rs ∈ x :: rs
  | [], x => by simp [minG]
  | y :: rs, x => by
    have := minG_mem lt rs (if lt y x = true then y else x)
    show minG lt (if lt y x = true then y else x) rs ∈ _
    rcases List.mem_cons.mp this with e | e
    · rw [e]
      split
      · exact .tail _ (.head _)
      · exact .head _
    · exact .tail _ (.tail _ e)
theorem minD_G {α : Type} {f : α → D} {lt : α → α → Bool} (hlt : ∀ a b, PySem.W.dataLt (f a).py (f b).py = lt a b) : ∀ (rs : List α) (x : α), PySem.W.minD (f x).py (rs.map fun r => (f r).py) = (f (minG lt x rs)).py
  | [], x => rfl
  | y :: rs, x => by
    show PySem.W.minD (if PySem.W.dataLt (f y).py (f x).py then (f y).py else (f x).py) (rs.map fun r => (f r).py) = (f (minG lt (if lt y x = true then y else x) rs)).py
    rw [hlt]
    cases lt y x with
    | true => exact minD_G hlt rs y
    | false => exact minD_G hlt rs x
theorem pys_map {α : Type} (f : α → D) : ∀ l : List α, pys (l.map f) = l.map fun a => (f a).py
  | [] => by simp [pys]
  | a :: l => by simp [pys, pys_map f l]
theorem c_minG {α : Type} {f : α → D} {lt : α → α → Bool} {x : α} {rs : List α} (hlt : ∀ a b, PySem.W.dataLt (f a).py (f b).py = lt a b) (hal : ∀ a b, PySem.W.alike (f a).py (f b).py = true) (hnn : ∀ a, (f a).py ≠ .none) (hlay : ∀ a, lay (f a) 50) (inj : ∀ a b, (f a).py = (f b).py → a = b)
    (h : P (f (minG lt x rs))) : cbD K (rMinD K) [.lst ((x :: rs).map f)] P := by
  intro xs F H Q r s k
  cases r with
  | cons r1 r2 =>
    cases r2
    have la := layAll (m := 50) (ds := (x :: rs).map f) (fun d hd => by obtain ⟨a, _, rfl⟩ := List.mem_map.mp hd; exact hlay a)
    cases r1 with
    | lst e q =>
      rename_i a vs
      have d1 := DpAll.up s (q.dp la.1)
      have la2 := la.2
      rw [pys_map] at d1 la2
      refine ⟨a, vs, _, _, rfl, SqL.of (s _ _ e), d1, ⟨fun a ha b hb => ?_, fun a ha => ?_⟩, Nat.le_trans la2 (by decide), fun i v hv hm => ?_⟩
      · obtain ⟨a', _, rfl⟩ := List.mem_map.mp (show a ∈ (x :: rs).map fun r => (f r).py from ha)
        obtain ⟨b', _, rfl⟩ := List.mem_map.mp (show b ∈ (x :: rs).map fun r => (f r).py from hb)
        exact hal _ _
      · obtain ⟨a', _, rfl⟩ := List.mem_map.mp (show a ∈ (x :: rs).map fun r => (f r).py from ha)
        exact hnn _
      · obtain ⟨d, hd, rd⟩ := q.atV hv
        have hm' : ((x :: rs).map fun r => (f r).py)[i]? = some (PySem.W.minD (f x).py (rs.map fun r => (f r).py)) := hm
        rw [minD_G hlt, List.getElem?_map] at hm'
        rw [List.getElem?_map] at hd
        cases ei : (x :: rs)[i]? with
        | none => rw [ei] at hd; cases hd
        | some r0 =>
          rw [ei] at hd hm'
          simp only [Option.map_some, Option.some.injEq] at hd hm'
          subst hd
          have := inj _ _ hm'
          subst this
          exact k _ _ F H h .refl rd
end
end M
namespace M
open PySem PySem.Spec PyProof.Rows L2
/-! ### comprehensions whose elements are new owned things -/
section
variable {K : PySem.W.Frag} {n : Nat} {ms : List MV} {X : XP}
theorem St.join1 {G F H : Hp} {σ : List (Option V)} {p : Addr} {t : T} {h1 : Hp} (w : OwT K F (.ref p) h1 t) (dj : Dj h1 G) (S : St K (jn h1 G) F H ms σ) : St K G F H (.ot p t :: ms) (some (.ref p) :: σ) := by
  obtain ⟨h2, x, sh, d1, d2⟩ := S.own
  have s1 : Same h1 H := Same.jn_l.trans S.g
  have c1 : Dj h2 h1 := (d2.symm.of_jn_l).symm
  have c2 : Dj h2 G := (d2.symm.of_jn_r).symm
  exact ⟨(Same.jn_r dj).trans S.g, S.f, (S.fg.symm.of_jn_r).symm, jn h1 h2, .ot w x c1.symm, Same.jn s1 sh, Dj.jn_l (S.fg.symm.of_jn_l) d1, Dj.jn_l dj c2⟩
theorem lcN_walk {J : It} {g : TG} {tt : WX → TT} {te : WX → TE} {vs : List Nat} {P : Addr → T → List MV → Prop} {ds : List D} {G F1 H1 : Hp} {σ g1 : List (Option V)} {m1 : List MV} {Q : V → Hp → Prop} {I : Nat → List T → List MV → Prop} (hvs : ∀ v ∈ vs, v < n) (hg : GOk g vs) (hn : σ.length = n) (S1 : St K G F1 H1 m1 (σ ++ g1)) (w : Walks K J F1 ds) (hlen : ds.length ≤ 1000000) (h0 : I 0 [] (wipeM m1 vs))
    (hs : ∀ i d acc m, ds[i]? = some d → I i acc m → wpG K n g d m fun m2 => wpT K n tt m2 (fun b m3 => if b = true then wpN K n te m3 (fun _ u m4 => I (i + 1) (acc ++ [u]) (wipeM m4 vs)) noX else I (i + 1) acc (wipeM m3 vs)) noX)
    (hd : ∀ acc m q, I ds.length acc m → P q (.lst acc) (wipeM m vs))
    (k : ∀ q t ms' gv' F' H', P q t ms' → St K G F' H' (.ot q t :: ms') (some (.ref q) :: (σ ++ gv')) → Same F1 F' → Q (.ref q) H') : tLc (fun _ H Q => Q J H) g (tt W0) (te W0) vs σ H1 Q := by
  have hvn : ∀ v ∈ vs, v < σ.length := fun v hv => by rw [hn]; exact hvs v hv
  have hwl : (L2.wipe σ vs).length = n := by rw [wipe_length]; exact hn
  intro Dl hDl
  -- the list that grows stands behind the slots
  let gh : List T → MV := fun acc => .ot Dl (.lst acc)
  let Pv : Nat → Hp → Prop := fun i H' => ∃ acc m gv' F', I i acc m ∧ acc.length ≤ i ∧ St K G F' H' (m ++ [gh acc]) ((L2.wipe σ vs ++ gv') ++ [some (.ref Dl)]) ∧ Same F1 F'
  have put : ∀ {G F H : Hp} {m : List MV} {s : List (Option V)} {q : MV} {o : Option V}, St K G F H (q :: m) (o :: s) → St K G F H (m ++ [q]) (s ++ [o]) := by
    intro G F H m s q o S
    refine S.sub fun h y => ?_
    have y1 : OwS K F ([q] ++ m) ([o] ++ s) h := y
    obtain ⟨a, b, p1, p2, d, rfl⟩ := OwS.split (a := [q]) (s := [o]) rfl y1
    refine ⟨_, p2.join p1 d.symm, ?_⟩
    rw [jn_comm d.symm]
    exact Same.refl _
  refine ⟨fun i m H' => i + m = ds.length ∧ Pv i H', ⟨ds.length, by omega, [], wipeM m1 vs, g1, F1, h0, by simp, ?_, Same.refl _⟩, fun i m H' hW => ?_⟩
  · exact put ((S1.wipe vs hvn).newOwn hDl (.lst (owL_of .nil) rfl))
  obtain ⟨em, acc, m2, g2, F2, hI, hacc, S2, e2⟩ := hW
  have hm2 : m2.length = (L2.wipe σ vs ++ g2).length := by
    have := S2.len
    simp only [List.length_append, List.length_cons, List.length_nil] at this ⊢
    omega
  have last : ∀ (l : List MV) (q : MV), (l ++ [q])[l.length]? = some q := fun l q => by simp
  cases q : ds[i]? with
  | none =>
    have hi : ds.length ≤ i := List.getElem?_eq_none_iff.mp q
    have hi' : i = ds.length := by omega
    subst hi'
    refine .inl ⟨((w.up e2) _ H' S2.f).2 rfl, ?_⟩
    obtain ⟨h1, w1, dj1, S4⟩ := (S2.unrot hm2).aside
    exact k Dl _ _ g2 F2 H' (hd acc m2 Dl hI) (St.join1 w1 dj1 (St.unwipe vs hvn S4)) e2
  | some d =>
    have hi : i < ds.length := (List.getElem?_eq_some_iff.mp q).1
    obtain ⟨hgo, hy⟩ := ((w.up e2) i H' S2.f).1 d q
    refine .inr ⟨hgo, Pv (i + 1), fun H3 hP => ⟨m - 1, by omega, by omega, hP⟩, fun y H3 hyl => ?_⟩
    obtain ⟨rfl, ry⟩ := hy y H3 hyl
    obtain ⟨G', SL, back⟩ := St.lend hm2 S2
    refine hg (L2.wipe σ vs) (L2.wipe σ vs) y H3 _ (wipe_wipe vs) (hs i d acc m2 q hI G' F2 H3 (L2.wipe σ vs) g2 y _ hwl SL ry fun m3 σ3 h3 hn3 S3 ew => ?_)
    have hv3 : ∀ v ∈ vs, v < σ3.length := fun v hv => by rw [hn3]; exact hvs v hv
    refine h3 W0 G' F2 H3 σ3 g2 _ hn3 S3 (fun b m4 g4 F4 H4 ho S4 e4 => ?_) (fun c m g F' H' p S' e => p.elim)
    cases b with
    | false =>
      rw [if_neg Bool.false_ne_true] at ho ⊢
      have S5 := S4.wipe vs hv3
      rw [ew] at S5
      exact ⟨acc, _, g4, F4, ho, by omega, back F4 H4 _ _ e4 S5, e2.trans e4⟩
    | true =>
      rw [if_pos rfl] at ho ⊢
      refine ho W0 G' F4 H4 σ3 g4 _ hn3 S4 (fun q5 u m5 g5 F5 H5 hI5 S5 e5 => ?_) (fun c m g F' H' p S' e => p.elim)
      obtain ⟨h1, w1, dj1, S5'⟩ := S5.aside
      have S6' := S5'.wipe vs hv3
      rw [ew] at S6'
      have S6 := St.join1 w1 dj1 S6'
      have S7 := back F5 H5 _ _ (e4.trans e5) S6
      have el : ((MV.ot q5 u :: wipeM m5 vs) ++ [gh acc])[(wipeM m5 vs).length + 1]? = some (.ot Dl (.lst acc)) := by
        show (MV.ot q5 u :: (wipeM m5 vs ++ [gh acc]))[(wipeM m5 vs).length + 1]? = _
        rw [List.getElem?_cons_succ]
        exact last _ _
      obtain ⟨ws, hD, hwsl, f⟩ := S7.list el
      refine ⟨ws, hD, by rw [hwsl, sizeLine_eq]; omega, acc ++ [u], _, g5, F5, hI5, by simp; omega, ?_, (e2.trans e4).trans e5⟩
      have S8 := f (ws ++ [.ref q5]) (acc ++ [.lf (.raw (.ref q5))]) fun h0 w0 => ⟨h0, w0.snoc (.raw (.ref q5)), Same.refl _⟩
      have es : (((MV.ot q5 u :: wipeM m5 vs) ++ [gh acc]).set ((wipeM m5 vs).length + 1) (.ot Dl (.lst (acc ++ [.lf (.raw (.ref q5))])))) = MV.ot q5 u :: (wipeM m5 vs ++ [.ot Dl (.lst (acc ++ [.lf (.raw (.ref q5))]))]) := by
        show ((MV.ot q5 u :: (wipeM m5 vs ++ [gh acc])).set ((wipeM m5 vs).length + 1) _) = _
        rw [List.set_cons_succ, List.set_append_right _ _ (Nat.le_refl _)]
        simp
      rw [es] at S8
      have S8' : St K G F5 (upd H5 Dl (.lst (ws ++ [.ref q5]))) (MV.ot q5 u :: (wipeM m5 vs ++ [.ot Dl (.lst (acc ++ [.lf (.raw (.ref q5))]))])) (some (.ref q5) :: ((L2.wipe σ vs ++ g5) ++ [some (.ref Dl)])) := S8
      have S9 := St.inn1 (k := acc.length) S8' (i := (wipeM m5 vs).length) (p := Dl) (t := .lst (acc ++ [.lf (.raw (.ref q5))])) (last _ _) (by simp [T.kid])
      have e9 : (acc ++ [T.lf (.raw (.ref q5))]).set acc.length u = acc ++ [u] := by rw [List.set_append_right _ _ (Nat.le_refl _)]; simp
      rw [List.set_append_right _ _ (Nat.le_refl _)] at S9
      simpa [gh, T.setKid, e9] using S9
theorem wn_lc {ti : WX → TI} {g : TG} {tt : WX → TT} {te : WX → TE} {vs : List Nat} {P : Addr → T → List MV → Prop} (hvs : ∀ v ∈ vs, v < n) (hg : GOk g vs)
    (h : wpI K n ti ms (fun ds m1 => ds.length ≤ 1000000 ∧ ∃ I : Nat → List T → List MV → Prop, I 0 [] (wipeM m1 vs) ∧
      (∀ i d acc m, ds[i]? = some d → I i acc m → wpG K n g d m fun m2 => wpT K n tt m2 (fun b m3 => if b = true then wpN K n te m3 (fun _ u m4 => I (i + 1) (acc ++ [u]) (wipeM m4 vs)) noX else I (i + 1) acc (wipeM m3 vs)) noX) ∧
      ∀ acc m q, I ds.length acc m → P q (.lst acc) (wipeM m vs)) X) :
    wpN K n (fun W => tLcW (ti W) g tt te vs) ms P X := by
  intro W G F H σ gv Q hn S k x
  refine h W G F H σ gv _ hn S (fun ds J m1 g1 F1 H1 ho S1 w e1 => ?_) x
  obtain ⟨hlen, I, h0, hs, hd⟩ := ho
  exact lcN_walk hvs hg hn S1 w hlen h0 hs hd fun q t ms' gv' F' H' p S' e => k q t ms' gv' F' H' p S' (e1.trans e)
/-- [e for x in xs], e new -/
theorem wn_lc1 {α : Type} {ti : WX → TI} {te : WX → TE} {j : Nat} {P : Addr → T → List MV → Prop} (f : α → D) (l : List α) (u : α → T) (m1 : List MV) (hj : j < n)
    (hi : wpI K n ti ms (fun ds m => ds = l.map f ∧ m = m1) X) (hl : l.length ≤ 1000000)
    (he : ∀ a ∈ l, wpN K n te (m1.set j (.fz (f a))) (fun _ e m4 => e = u a ∧ m4.set j .un = m1.set j .un) noX)
    (h : ∀ q, P q (.lst (l.map u)) (m1.set j .un)) : wpN K n (fun W => tLcW (ti W) (gName j) (fun _ => tYes) te [j]) ms P X := by
  refine wn_lc (by simpa using hj) (gok_name (by simp)) ?_
  intro W G F H σ gv Q hn S k x
  refine hi W G F H σ gv Q hn S (fun ds J m g1 F1 H1 ho S1 w e1 => k ds J m g1 F1 H1 ?_ S1 w e1) x
  obtain ⟨rfl, rfl⟩ := ho
  refine ⟨by simpa using hl, fun i acc mm => mm = m.set j .un ∧ acc = (l.take i).map u, ⟨rfl, rfl⟩, ?_, ?_⟩
  · rintro i d acc mm hd ⟨rfl, rfl⟩
    rw [List.getElem?_map] at hd
    cases q : l[i]? with
    | none => rw [q] at hd; cases hd
    | some a =>
      rw [q] at hd
      cases hd
      have nxt : (l.take (i + 1)).map u = (l.take i).map u ++ [u a] := by rw [List.take_add_one, q, List.map_append]; rfl
      refine wg_name hj (wt_yes ?_)
      rw [if_pos rfl, List.set_set]
      have := he a (List.mem_of_getElem? q)
      intro W G F H σ gv Q hn S k x
      refine this W G F H σ gv Q hn S (fun p t m4 g4 F4 H4 ho S4 e4 => k p t m4 g4 F4 H4 ?_ S4 e4) x
      obtain ⟨rfl, h4⟩ := ho
      exact ⟨h4, nxt.symm⟩
  · rintro acc mm q ⟨rfl, rfl⟩
    rw [List.length_map, List.take_length]
    show P q _ ((m.set j .un).set j .un)
    rw [List.set_set]
    exact h q
/-! ### trees with flat leaves -/
mutual
def T.fl : T → Bool
  | .nd _ _ => false
  | .lf d => flat d
  | .lst ts => fls ts
  | .tup ts => fls ts
  | .dic ks => flk ks
  | .obj _ fs => flf fs
def fls : List T → Bool
  | [] => true
  | t :: ts => t.fl && fls ts
def flk : List (Key × T) → Bool
  | [] => true
  | (_, t) :: ts => t.fl && flk ts
def flf : List (PySem.Str × T) → Bool
  | [] => true
  | (_, t) :: ts => t.fl && flf ts
end
mutual
theorem OwT.reT {F F' : Hp} : ∀ {v : V} {h : Hp} {t : T}, OwT K F v h t → t.fl = true → OwT K F' v h t
  | _, _, _, .nd r, e => by simp [T.fl] at e
  | _, _, _, .lf r, e => .lf (r.flat (by simpa [T.fl] using e))
  | _, _, _, .lst r n, e => .lst (OwL.reT r (by simpa [T.fl] using e)) n
  | _, _, _, .tup r n, e => .tup (OwL.reT r (by simpa [T.fl] using e)) n
  | _, _, _, .dic r n, e => .dic (OwK.reT r (by simpa [T.fl] using e)) n
  | _, _, _, .obj r n m q, e => .obj (OwF.reT r (by simpa [T.fl] using e)) n m q
theorem OwL.reT {F F' : Hp} : ∀ {v : List V} {h : Hp} {t : List T}, OwL K F v h t → fls t = true → OwL K F' v h t
  | _, _, _, .nil, _ => .nil
  | _, _, _, .cons r s d, e => by
    simp only [fls, Bool.and_eq_true] at e
    exact .cons (OwT.reT r e.1) (OwL.reT s e.2) d
theorem OwK.reT {F F' : Hp} : ∀ {v : List (Key × V)} {h : Hp} {t : List (Key × T)}, OwK K F v h t → flk t = true → OwK K F' v h t
  | _, _, _, .nil, _ => .nil
  | _, _, _, .cons r s d, e => by
    simp only [flk, Bool.and_eq_true] at e
    exact .cons (OwT.reT r e.1) (OwK.reT s e.2) d
theorem OwF.reT {F F' : Hp} : ∀ {v : List (PySem.Str × V)} {h : Hp} {t : List (PySem.Str × T)}, OwF K F v h t → flf t = true → OwF K F' v h t
  | _, _, _, .nil, _ => .nil
  | _, _, _, .cons r s d, e => by
    simp only [flf, Bool.and_eq_true] at e
    exact .cons (OwT.reT r e.1) (OwF.reT s e.2) d
end
theorem OwS.reO {F : Hp} {σ : List (Option V)} {h h1 : Hp} {j : Nat} {p : Addr} {t : T} (x : OwS K F ms σ h) (e : ms[j]? = some (.fz (.raw (.ref p)))) (w : OwT K F (.ref p) h1 t) (dj : Dj h1 h) : OwS K F (ms.set j (.ot p t)) σ (jn h1 h) := by
  induction x generalizing j with
  | nil => simp at e
  | un x ih =>
    cases j with
    | zero => simp at e
    | succ j => exact .un (ih (by simpa using e) dj)
  | fz r0 x ih =>
    cases j with
    | zero =>
      simp at e
      subst e
      cases r0
      exact .ot w x dj
    | succ j => exact .fz r0 (ih (by simpa using e) dj)
  | ot r0 x dd ih =>
    rename_i ha hb
    cases j with
    | zero => simp at e
    | succ j =>
      have d1 : Dj h1 ha := dj.symm.of_jn_l.symm
      have d2 : Dj h1 hb := dj.symm.of_jn_r.symm
      have := OwS.ot r0 (ih (by simpa using e) d2) (Dj.jn_r d1.symm dd)
      rw [← jn_assoc, jn_comm d1, jn_assoc]
      exact this
/-- all but slot i looked at where it lies; i's thing keeps nothing of the others -/
theorem wd_viewX (i : Nat) {p : Addr} {t : T} {te : WX → TE} {P : D → List MV → Prop} (e : ms[i]? = some (.ot p t)) (h : wpD K n te ((ms.map view).set i (.ot p t)) (fun d m' => flat d = true ∧ ∃ t', m' = (ms.map view).set i (.ot p t') ∧ t'.fl = true ∧ P d (ms.set i (.ot p t'))) (fun c m' => ∃ t', m' = (ms.map view).set i (.ot p t') ∧ t'.fl = true ∧ X c (ms.set i (.ot p t')))) : wpD K n te ms P X := by
  intro W G F H σ gv Q hn S k x
  obtain ⟨h0, y, sh, d1, d2⟩ := S.own
  obtain ⟨h1, h2, rfl, dj, w, f, fr⟩ := y.focus e
  have x2 := fr F (.raw (.ref p)) (Le.of (Same.refl _)) (.raw _)
  have s1 : Same h1 H := Same.jn_l.trans sh
  have s2 : Same h2 H := (Same.jn_r dj).trans sh
  have x3 := x2.view (F' := jn F h2) Same.jn_l (Same.jn_r d1.of_jn_r.symm)
  have em : (ms.set i (.fz (.raw (.ref p)))).map view = (ms.map view).set i (.fz (.raw (.ref p))) := by rw [List.map_set]; rfl
  rw [em] at x3
  have hil : i < ms.length := by
    rcases Nat.lt_or_ge i ms.length with z | z
    · exact z
    · rw [List.getElem?_eq_none z] at e; cases e
  have x4 := x3.reO (j := i) (p := p) (t := t) (h1 := h1) (by rw [List.getElem?_set_self (by simpa using hil)]) (w.le (Le.of Same.jn_l)) Dj.emp_r
  rw [List.set_set, jn_emp] at x4
  have S1 : St K G (jn F h2) H ((ms.map view).set i (.ot p t)) (σ ++ gv) := ⟨S.g, Same.jn S.f s2, Dj.jn_l S.fg d2.of_jn_r, h1, x4, s1, Dj.jn_r d1.of_jn_l dj, d2.of_jn_l⟩
  have fin : ∀ (t' : T) (F2 H2 : Hp) (g2 : List (Option V)), t'.fl = true → Same (jn F h2) F2 → St K G F2 H2 ((ms.map view).set i (.ot p t')) (σ ++ g2) → St K G F H2 (ms.set i (.ot p t')) (σ ++ gv) := by
    intro t' F2 H2 g2 hfl e2 S2
    obtain ⟨h', y2, sh2, c1, c2⟩ := S2.own
    obtain ⟨a, b, rfl, dab, w', _, _⟩ := y2.focus (i := i) (p := p) (t := t') (by rw [List.getElem?_set_self (by simpa using hil)])
    have sF : Same F F2 := Same.jn_l.trans e2
    have sh2F : Same h2 F2 := (Same.jn_r d1.of_jn_r.symm).trans e2
    have da2 : Dj a h2 := (c1.of_jn_l.symm.sub sh2F).symm
    have daF : Dj a F := (c1.of_jn_l.symm.sub sF).symm
    have own := f F a t' (Le.of (Same.refl _)) (w'.reT hfl) da2
    exact ⟨S2.g, sF.trans S2.f, S.fg, jn a h2, own, Same.jn (Same.jn_l.trans sh2) (sh2F.trans S2.f), Dj.jn_l daF d1.of_jn_r, Dj.jn_l c2.of_jn_l d2.of_jn_r⟩
  refine h W G (jn F h2) H σ gv Q hn S1 (fun d v m2 g2 F2 H2 ho S2 r2 e2 => ?_) (fun c m2 g2 F2 H2 ho S2 e2 => ?_)
  · obtain ⟨hfd, t', rfl, hfl, hP⟩ := ho
    exact k d v _ gv F H2 hP (fin t' F2 H2 g2 hfl e2 S2) (r2.flat hfd) (Same.refl _)
  · obtain ⟨t', rfl, hfl, hX⟩ := ho
    exact x c _ gv F H2 hX (fin t' F2 H2 g2 hfl e2 S2) (Same.refl _)
/-- a new thing that keeps nothing of what is looked at -/
theorem wn_viewO {te : WX → TE} {P : Addr → T → List MV → Prop} (h : wpN K n te (ms.map view) (fun p t _ => t.fl = true ∧ P p t ms) (fun c _ => X c ms)) : wpN K n te ms P X := by
  intro W G F H σ gv Q hn S k x
  obtain ⟨h0, y, sh, d1, d2⟩ := S.own
  have S1 : St K G (jn F h0) H (ms.map view) (σ ++ gv) := ⟨S.g, Same.jn S.f sh, Dj.jn_l S.fg d2, emp, y.view Same.jn_l (Same.jn_r d1.symm), Same.emp, Dj.emp_l, Dj.emp_l⟩
  refine h W G (jn F h0) H σ gv Q hn S1 (fun p t m2 g2 F2 H2 ho S2 e2 => ?_) (fun c m2 g2 F2 H2 ho S2 e2 => ?_)
  · obtain ⟨hfl, hP⟩ := ho
    obtain ⟨h', y2, sh2, c1, c2⟩ := S2.own
    cases y2 with
    | ot w' y3 dab =>
      rename_i a b
      have sF : Same F F2 := Same.jn_l.trans e2
      have shF : Same h0 F2 := (Same.jn_r d1.symm).trans e2
      have da2 : Dj a h0 := (c1.of_jn_l.symm.sub shF).symm
      have daF : Dj a F := (c1.of_jn_l.symm.sub sF).symm
      exact k p t ms gv F H2 hP ⟨S2.g, sF.trans S2.f, S.fg, jn a h0, .ot (w'.reT hfl) y da2, Same.jn (Same.jn_l.trans sh2) (shF.trans S2.f), Dj.jn_l daF d1, Dj.jn_l c2.of_jn_l d2⟩ (Same.refl _)
  · have sF : Same F F2 := Same.jn_l.trans e2
    have shF : Same h0 F2 := (Same.jn_r d1.symm).trans e2
    exact x c ms gv F H2 ho ⟨S2.g, sF.trans S2.f, S.fg, h0, y, shF.trans S2.f, d1, d2⟩ (Same.refl _)
end
end M
namespace M
open PySem PySem.Spec PyProof.Rows L2
/-! ### sorted(set(xs)): xs a list of texts, or of ints -/
structure KG {P : Program} {w : World} {κ : Type} [DecidableEq κ] (knd : PySem.KeyKind P w κ) (mk : κ → Tok → Value) (gk : Value → κ) : Prop where
  is : ∀ k t, knd.is k (mk k t) = true
  sep : ∀ k k' t, knd.is k' (mk k t) = true → k = k'
  sc : ∀ k t, (mk k t).scannable = true
  gk : ∀ k t, gk (mk k t) = k
section
variable {P : Program} {w : World} {κ : Type} [DecidableEq κ] {knd : PySem.KeyKind P w κ} {mk : κ → Tok → Value} {gk : Value → κ}
def GE (knd : PySem.KeyKind P w κ) (mk : κ → Tok → Value) (e : Int × Value) : Prop := ∃ k t, e.2 = mk k t ∧ e.1 = knd.hash k
def SetG (knd : PySem.KeyKind P w κ) (mk : κ → Tok → Value) (gk : Value → κ) (h : Heap) (a : Addr) (L : List κ) : Prop :=
  ∃ o es ep t, h.get? a = some o ∧ o.ExactSet ∧ o.data = .set es ep t ∧ (∀ e ∈ es.toList, GE knd mk e) ∧ (es.toList.map fun e => gk e.2).Nodup ∧ (∀ k, k ∈ L ↔ k ∈ es.toList.map fun e => gk e.2) ∧
    es.size < scanBound ∧ t.fits es.size = true ∧ Ris t.place.toList ∧ (w.params.followText "set-order" = true ∨ t.led = true)
theorem SetG.at {h h' : Heap} {a : Addr} {L : List κ} (R : SetG knd mk gk h a L) (k : ∀ o, h.get? a = some o → h'.get? a = some o) : SetG knd mk gk h' a L := by
  obtain ⟨o, es, ep, t, ho, r⟩ := R
  exact ⟨o, es, ep, t, k o ho, r⟩
theorem ge_elems (G : KG knd mk gk) {l : List (Int × Value)} (g : ∀ e ∈ l, GE knd mk e) : ElemsOf knd l := fun e he => by
  obtain ⟨k, tk, h1, h2⟩ := g e he
  exact ⟨⟨k, by rw [h1]; exact G.is k tk, h2⟩, by rw [h1]; exact G.sc k tk⟩
theorem ge_is (G : KG knd mk gk) {e : Int × Value} (g : GE knd mk e) (k : κ) : knd.is k e.2 = true ↔ gk e.2 = k := by
  obtain ⟨k0, tk, h1, _⟩ := g
  rw [h1, G.gk]
  exact ⟨fun z => G.sep _ _ _ z, fun z => by subst z; exact G.is _ _⟩
theorem ge_mem (G : KG knd mk gk) {l : List (Int × Value)} (g : ∀ e ∈ l, GE knd mk e) (k : κ) : k ∈ (l.map fun e => gk e.2) ↔ ∃ e ∈ l, knd.is k e.2 = true := by
  rw [List.mem_map]
  constructor
  · rintro ⟨e, he, q⟩; exact ⟨e, he, (ge_is G (g e he) k).2 q⟩
  · rintro ⟨e, he, q⟩; exact ⟨e, he, (ge_is G (g e he) k).1 q⟩
variable {A : Around} {E : Value → Shared → Prop} {s : Shared} {a : Addr}
theorem setG_tail {g : Bool → Sem Unit} (hg : ∀ (b : Bool) (s₁ : Shared) (Q' : Unit → Shared → Prop), Q' () s₁ → wpAny (model P w) A (g b) Q' E s₁)
    {o : Obj} {es : Array (Int × Value)} {ep : Nat} {t : SetTable} (ho : s.heap.get? a = some o) (hex : o.ExactSet) (hd : o.data = .set es ep t)
    {es1 : Array (Int × Value)} {t2 : SetTable} {L : List κ} (g1 : ∀ e ∈ es1.toList, GE knd mk e) (nd1 : (es1.toList.map fun e => gk e.2).Nodup) (m1 : ∀ k, k ∈ L ↔ k ∈ es1.toList.map fun e => gk e.2)
    (hb1 : es1.size < scanBound) (hf2 : t2.fits es1.size = true) (hr : Ris t2.place.toList) (hl : w.params.followText "set-order" = true ∨ t2.led = true) {wasDummy : Bool} {R : Option Bool → Shared → Prop}
    (hR : ∀ h', Heap.SameBut a s.heap h' → SetG knd mk gk h' a L → R (some true) { s with heap := h' }) :
    wpAny (model P w) A (do
        storeSet a es1 t2
        if (!wasDummy && t2.tooFull) = true then do
            g (relayAll t2 es1 (SetTable.grown es1.size)).2.2
            storeSet a (relayAll t2 es1 (SetTable.grown es1.size)).1 (relayAll t2 es1 (SetTable.grown es1.size)).2.1
            pure (some true)
          else pure (some true)) R E s := by
  refine wpAny_bind (wpAny_storeSet_of ho hd ?_ (fits_of_scanBound hb1))
  have ho1 := store_at (es' := es1) (t' := t2) ho hd
  have sb1 := Heap.SameBut.update s.heap a (Obj.putSet es1 t2)
  split
  · have pm := relayAll_perm t2 es1 (SetTable.grown es1.size)
    have hf3 := relayAll_fits t2 es1 (SetTable.grown es1.size)
    have hr3 := relayAll_ris t2 es1 (SetTable.grown es1.size)
    have hl3 := relayAll_led t2 es1 (SetTable.grown es1.size)
    generalize relayAll t2 es1 (SetTable.grown es1.size) = Z at pm hf3 hr3 hl3 ⊢
    obtain ⟨es2, t3, gave⟩ := Z
    dsimp only at pm hf3 hr3 hl3 ⊢
    have hsz : es2.size = es1.size := by rw [← Array.length_toList, pm.length_eq, Array.length_toList]
    have hb2 : es2.size < scanBound := by rw [hsz]; exact hb1
    refine wpAny_bind (hg _ _ _ ?_)
    refine wpAny_bind (wpAny_storeSet_of ho1 rfl ?_ (fits_of_scanBound hb2))
    have ho2 := store_at (es' := es2) (t' := t3) ho1 rfl
    refine wpAny_pure (hR _ (sb1.trans (Heap.SameBut.update _ a _)) ?_)
    exact ⟨_, es2, _, t3, ho2, hex, rfl, fun e he => g1 e (pm.mem_iff.mp he), (pm.map _).nodup_iff.mpr nd1, fun k => (m1 k).trans (pm.map _).mem_iff.symm, hb2, hf3, hr3,
      hl.imp id fun z => by rw [hl3]; exact z⟩
  · exact wpAny_pure (hR _ sb1 ⟨_, es1, _, t2, ho1, hex, rfl, g1, nd1, m1, hb1, hf2, hr, hl⟩)
theorem setG_add (G : KG knd mk gk) {k : κ} {tk : Tok} {L : List κ} {Q : Bool → Shared → Prop} (R : SetG knd mk gk s.heap a L) (room : ∀ L' : List κ, L'.Nodup → (∀ x ∈ L', x ∈ k :: L) → L'.length < scanBound)
    (hQ : ∀ b h', Heap.SameBut a s.heap h' → SetG knd mk gk h' a (k :: L) → Q b { s with heap := h' }) :
    wpAny (model P w) A (setAddHashed a (mk k tk) (knd.hash k)) Q E s := by
  obtain ⟨o, es, ep, t, ho, hex, hd, g, nd, hm, hb, hf, hr, hl⟩ := R
  have hkey : knd.is k (mk k tk) = true := G.is k tk
  have hsc : (mk k tk).scannable = true := G.sc k tk
  have hel : ElemsOf knd es.toList := ge_elems G g
  unfold setAddHashed setAddHashedIn
  refine wpAny_holding (wpAny_bind (wpAny_setState_of ho hd hf ?_))
  dsimp only
  rw [byScan_of hsc hb hel]
  simp only [↓reduceIte]
  unfold setAddByScan
  refine wpAny_bind ?_
  refine wpAny_bind (wpAny_rule ?_)
  refine wpAny_bind (wpAny_setScan_of hkey ho hd hf hel ?_)
  cases hfi : List.findIdx? (fun e => knd.is k e.2) es.toList with
  | some j =>
    dsimp only
    obtain ⟨hj, pj, _⟩ := List.findIdx?_eq_some_iff_getElem.mp hfi
    have hSk : k ∈ L := (hm k).2 ((ge_mem G g k).2 ⟨es.toList[j], List.getElem_mem hj, pj⟩)
    refine wpAny_pure (wpAny_pure ?_)
    exact hQ _ s.heap (Heap.SameBut.refl a s.heap) ⟨o, es, ep, t, ho, hex, hd, g, nd, fun i => by
      rw [List.mem_cons, ← hm i]
      exact ⟨fun z => z.elim (fun e => e ▸ hSk) id, .inr⟩, hb, hf, hr, hl⟩
  | none =>
    dsimp only
    have hnk : k ∉ es.toList.map fun e => gk e.2 := fun z => by
      obtain ⟨e, he, q⟩ := (ge_mem G g k).1 z
      have c := List.findIdx?_eq_none_iff.mp hfi e he
      rw [q] at c
      cases c
    have hgw : ∀ (b : Bool) {s₁ : Shared} {Q' : Unit → Shared → Prop}, Q' () s₁ → wpAny (model P w) A (match b with | true => rule "set.scan.the-table-gave-way" | false => pure ()) Q' E s₁ :=
      fun b s₁ Q' q => by cases b <;> first | exact wpAny_pure q | exact wpAny_rule q
    have pm := layNew_perm t es (knd.hash k) (mk k tk)
    have hf1 := layNew_fits t es (knd.hash k) (mk k tk)
    have hr1 := layNew_ris t es (knd.hash k) (mk k tk) hr
    have hl1 := layNew_led t es (knd.hash k) (mk k tk)
    generalize layNew t es (knd.hash k) (mk k tk) = Z at pm hf1 hr1 hl1 ⊢
    obtain ⟨es1, t1, wasDummy, gave⟩ := Z
    dsimp only at pm hf1 hr1 hl1 ⊢
    rw [Array.toList_push] at pm
    have pc : es1.toList.Perm ((knd.hash k, mk k tk) :: es.toList) := pm.trans (List.perm_append_singleton _ _)
    have pk : (es1.toList.map fun e => gk e.2).Perm (k :: es.toList.map fun e => gk e.2) := by
      have q := pc.map fun e => gk e.2
      simpa [G.gk] using q
    have g1 : ∀ e ∈ es1.toList, GE knd mk e := fun e he => by
      rcases List.mem_cons.mp (pc.mem_iff.mp he) with z | z
      · rw [z]; exact ⟨k, tk, rfl, rfl⟩
      · exact g e z
    have nd1 : (es1.toList.map fun e => gk e.2).Nodup := pk.nodup_iff.mpr (List.nodup_cons.mpr ⟨hnk, nd⟩)
    have m1 : ∀ i, i ∈ k :: L ↔ i ∈ es1.toList.map fun e => gk e.2 := fun i => by
      rw [pk.mem_iff, List.mem_cons, List.mem_cons, hm i]
    have hsz : es1.size = es.size + 1 := by rw [← Array.length_toList, pc.length_eq, List.length_cons, Array.length_toList]
    have hb1 : es1.size < scanBound := by
      have := room (es1.toList.map fun e => gk e.2) nd1 fun x hx => (m1 x).2 hx
      simpa using this
    have hled : w.params.followText "set-order" = true ∨ t1.led = true := hl.imp id fun z => by rw [hl1]; exact z
    refine wpAny_bind (hgw _ ?_)
    split
    · refine wpAny_bind ?_
      rw [hashByValue_scannable 8 hsc]
      refine wpAny_pure ?_
      refine setG_tail ?_ ho hex hd g1 nd1 m1 hb1 ?_ ?_ ?_ ?_
      · intro b s₁ Q' q; cases b <;> first | exact wpAny_pure q | exact wpAny_rule q
      · first | (split <;> first | exact hf1 | exact SetTable.fits_plain_off hf1) | exact hf1
      · first | (split <;> exact hr1) | exact hr1
      · first | (split <;> exact hled) | exact hled
      · intro h' sb r; dsimp only; exact wpAny_pure (hQ _ h' sb r)
    · refine wpAny_bind (wpAny_pure ?_)
      simp only [↓reduceIte]
      refine setG_tail ?_ ho hex hd g1 nd1 m1 hb1 hf1 hr1 hled ?_
      · intro b s₁ Q' q; cases b <;> first | exact wpAny_pure q | exact wpAny_rule q
      · intro h' sb r; dsimp only; exact wpAny_pure (hQ _ h' sb r)
variable {R : Result → Shared → Prop} {I : Addr} {fp wr : List Addr} {Gn : Array GenState → Array GenState → Prop} {n : Nat} {Pv : Nat → Value → Prop} {St : Nat → Shared → Prop}
theorem setG_loop (G : KG knd mk gk) (W : WalksS P w A.in1 I fp wr Gn n Pv St) {S : Addr} (nf : S ∉ fp) : ∀ (xs seen : List κ) (i : Nat) (s : Shared), i + xs.length = n → (∀ j x, xs[j]? = some x → ∀ v, Pv (i + j) v → ∃ t, v = mk x t) → (∀ L' : List κ, L'.Nodup → (∀ x ∈ L', x ∈ seen ∨ x ∈ xs) → L'.length < scanBound) →
    St i s → SetG knd mk gk s.heap S seen → (∀ s' seen', Moved (S :: wr) Gn s s' → (∀ k, k ∈ seen' ↔ k ∈ seen ∨ k ∈ xs) → SetG knd mk gk s'.heap S seen' → R (.ok (.ret .none)) s') →
    codeAny (model P w) A (.builtin "set.update.loop" ⟨[.ref S, .ref I], []⟩) R s := by
  have nw : S ∉ wr := fun z => nf (W.sub _ z)
  intro xs
  induction xs with
  | nil =>
    intro seen i s e hv hb hst hS hR
    obtain rfl : i = n := e
    refine codeAny_builtin PyProof.Rows.F.entry_set_update_loop (by
      rw [Around.under_plainId PyProof.Rows.F.plain_set_update_loop _]; show wpAny _ A.in1 (pyNext (.ref I) >>= _) _ _ s
      refine wpAny_bind (W.done s _ _ hst fun s' mv => ?_); show wpAny _ A.in1 (ret Value.none) _ _ s'
      exact wpAny_pure (hR s' seen (mv.mono fun b z => .tail _ z) (by simp) (hS.at fun o => mv.heap S o nw)))
  | cons x r ih =>
    intro seen i s e hv hb hst hS hR
    have lt : i < n := by rw [List.length_cons] at e; omega
    refine codeAny_builtin PyProof.Rows.F.entry_set_update_loop (by
      rw [Around.under_plainId PyProof.Rows.F.plain_set_update_loop _]; show wpAny _ A.in1 (pyNext (.ref I) >>= _) _ _ s
      refine wpAny_bind (W.item i s _ _ lt hst fun v s' hP st' mv => ?_)
      obtain ⟨t, rfl⟩ := hv 0 x rfl v (by simpa using hP)
      show wpAny _ A.in1 (holding [mk x t] (setAdd S (mk x t)) >>= _) _ _ s'; refine wpAny_bind (wpAny_holding (by
        unfold setAdd; refine wpAny_holding (wpAny_bind (knd.pyHash (k := x) (G.is _ _) ?_))
        refine setG_add G (s := { s' with toks := s'.toks + 1 }) (hS.at fun o => mv.heap S o nw) (fun L' n' h' => hb L' n' fun y hy => by rcases List.mem_cons.mp (h' y hy) with z | z; exact .inr (by rw [z]; exact List.mem_cons_self); exact .inl z) fun b0 h' sb h2 => ?_
        refine wpAny_pure ⟨plainId_quiet PyProof.Rows.F.plain_set_update_loop _, ih (x :: seen) (i + 1) _ (by rw [List.length_cons] at e; omega) (fun j y hj v hP => hv (j + 1) y hj v (by rw [show i + (j + 1) = i + 1 + j by omega]; exact hP)) ?_ (W.frame _ s' _ _ st' (Nat.le_succ _) fun b hb o ho => ?_) h2 fun s2 seen' mv2 hk hS3 => ?_⟩
        · exact fun L' n' h' => hb L' n' fun y hy => by
            rcases h' y hy with z | z
            · rcases List.mem_cons.mp z with z | z
              · exact .inr (by rw [z]; exact List.mem_cons_self)
              · exact .inl z
            · exact .inr (List.mem_cons_of_mem _ z)
        · rw [sb.2 b fun z => nf (z ▸ hb)]; exact ho
        · refine hR s2 seen' (Moved.trans W.gtrans ((mv.mono fun b z => .tail _ z).then_heap (Nat.le_succ _) fun b o hb ho => ?_) mv2) (fun k => by rw [hk, List.mem_cons, List.mem_cons, or_left_comm, or_assoc]) hS3
          rw [sb.2 b fun z => hb (z ▸ .head _)]; exact ho)))
abbrev setN (w : World) : Obj := { cls := .type "set", dict := none, data := .set #[] 0 (.fresh 0 0 (!w.params.followText "set-order")) }
theorem setG_new {h : Heap} (ho : h.get? a = some (setN w)) : SetG knd mk gk h a [] :=
  ⟨_, #[], 0, _, ho, ⟨rfl, rfl, rfl⟩, rfl, (fun e he => by simp at he), (by simp), (fun k => by simp), (by decide), (by rfl), List.Pairwise.nil, by
    show _ ∨ (!w.params.followText "set-order") = true
    cases w.params.followText "set-order"
    · exact .inr rfl
    · exact .inl rfl⟩
set_option maxHeartbeats 3200000 in
theorem call_setG (G : KG knd mk gk) {l : Addr} {items : Array Value} {xs : List κ} {Q : Value → Shared → Prop} (hh : A.handled = none) (hl : s.heap.IsList l items) (hle : items.size = xs.length) (hi : ∀ (j : Nat) (x : κ), xs[j]? = some x → ∀ v, items[j]? = some v → ∃ t, v = mk x t) (hb : ∀ L' : List κ, L'.Nodup → (∀ x ∈ L', x ∈ xs) → L'.length < scanBound)
    (h : ∀ (h' : Heap) (tk : Nat) (seen : List κ), (∀ k, k ∈ seen ↔ k ∈ xs) → SetG knd mk gk h' s.heap.objs.size seen → (∀ b o, b < s.heap.objs.size → s.heap.get? b = some o → h'.get? b = some o) → Q (.ref s.heap.objs.size) { s with heap := h', toks := tk }) :
    wpAny (model P w) A (call (.type "set") [.ref l]) Q E s := by
  obtain ⟨c, tl, hmro⟩ := PySem.F.called_set.mro
  have hmade := PySem.F.called_set.made; have hsub := PySem.F.called_set.sub
  refine wpAny_call (codeAny_of_tree (show wpAny _ _ (callAny (.type "set") _) _ _ _ from wpAny_pure ⟨Code.quiet_builtin _ (by decide +kernel), codeAny_builtin PySem.F.entry_type_call ?_⟩))
  rw [Around.under_plain (weight_type_call_type "set" [.ref l] []) rfl]
  have h1 := PySem.F.called_set.notType; have h2 := PySem.F.called_set.canCreate; have hct := PySem.F.typeCall_set_1 (.ref l)
  repeat (any_goals (first | assumption | wp_step))
  refine codeAny_mono (code_set_led1 (.ref l) (E := E) (Q₁ := fun obj s₁ => obj = .ref s.heap.objs.size ∧ s₁ = { s with heap := s.heap.push (setN w) }) ⟨rfl, rfl⟩) fun r s₁ hr => ?_
  match r, hr with
  | .ok (.ret obj), hr =>
    obtain ⟨rfl, rfl⟩ := hr
    have hS : (s.heap.push (setN w)).get? s.heap.objs.size = some (setN w) := Heap.get?_push_size _ rfl
    have hT : Shared.TypeIs { s with heap := s.heap.push (setN w) } (.ref s.heap.objs.size) "set" := ⟨_, hS, rfl⟩
    have hli := PySem.F.called_set.init.lookup; have hbi := PySem.F.called_set.init.bind (.ref s.heap.objs.size)
    repeat (any_goals (first | assumption | wp_step))
    refine codeAny_mono (codeAny_call_builtin (R := wants (fun r s₂ => r = .none ∧ ∃ h' tk seen, s₂ = { s with heap := h', toks := tk } ∧ (∀ k, k ∈ seen ↔ k ∈ xs) ∧ SetG knd mk gk h' s.heap.objs.size seen ∧ (∀ b o, b < s.heap.objs.size → s.heap.get? b = some o → h'.get? b = some o)) E) PySem.F.called_set.init.plain PySem.F.entry_set_init (check_set_init_1 hT ?_)) fun r₂ s₂ hr₂ => ?_
    · obtain ⟨⟨ocls, odict, odata, oslots⟩, hol, hcl, nl, hdl⟩ := hl
      simp only at hcl hdl
      subst hcl hdl
      have hol' : (s.heap.push (setN w)).get? l = some { cls := .type "list", dict := odict, data := .seq items nl, slots := oslots } := Heap.get?_push_of_some _ hol
      have hsls := PySem.F.sub_list_set; have hslf := PySem.F.sub_list_frozenset
      have hne : (Value.type "list" == Value.type "dict") = false := by decide
      have hl1 : (s.heap.push (setN w)).IsList l items := ⟨_, hol', rfl, nl, rfl⟩
      unfold Builtin.«set.__init__» noKeywords Builtin.Frozenset.updateFrom; generalize hPI : pyIter = PI; wp_walk; subst hPI
      refine wpAny_pyIter_list hl1 (wpAny_bind (wpAny_runValue ?_))
      have hlS : l < s.heap.objs.size := Heap.lt_size hol
      have z1 : (s.heap.push (setN w)).objs.size = s.heap.objs.size + 1 := Heap.size_push _ _
      have hneI : l ≠ (s.heap.push (setN w)).objs.size := by rw [z1]; exact Nat.ne_of_lt (Nat.lt_succ_of_lt hlS)
      refine setG_loop G ((Walks.list (A := A.in1.in1.in1) (by simp [hh]) _ l hneI items).toS) (S := s.heap.objs.size) (by rw [z1]; simp only [List.mem_cons, List.not_mem_nil, or_false, not_or]; exact ⟨Nat.ne_of_lt (Nat.lt_succ_self _), Nat.ne_of_gt hlS⟩) xs [] 0 _ (by omega) (fun j x hj v hP => hi j x hj v (by simpa using hP)) (fun L' n' h' => hb L' n' fun x hx => by simpa using h' x hx) ⟨⟨_, Heap.get?_push_size _ rfl, rfl, rfl⟩, (hl1.push _)⟩ ?_ ?_
      · exact setG_new (Heap.get?_push_of_some _ hS)
      · intro s' seen' hm hk hS'
        obtain ⟨h', g', d', tk', os'⟩ := s'
        obtain rfl : g' = s.gens := hm.gens
        obtain rfl : d' = s.drawn := hm.drawn
        obtain rfl : os' = s.os := hm.os
        refine wpAny_pure (show wpAny _ _ (ret Value.none) _ _ _ from wpAny_pure ⟨rfl, h', tk', seen', rfl, by simpa using hk, by simpa using hS', fun b o hb e => ?_⟩)
        exact hm.heap b o (by rw [z1]; simp only [List.mem_cons, List.not_mem_nil, or_false, not_or]; exact ⟨Nat.ne_of_lt hb, Nat.ne_of_lt (Nat.lt_succ_of_lt hb)⟩) (Heap.get?_push_of_some _ (Heap.get?_push_of_some _ e))
    · match r₂, hr₂ with
      | .ok (.ret r), hr₂ =>
        obtain ⟨rfl, h', tk, seen, rfl, hk2, hS', hk'⟩ := hr₂
        repeat (any_goals (first | assumption | wp_step))
        exact h _ _ _ hk2 hS' hk'
      | .error e, hr₂ => exact hr₂
  | .error e, hr => exact hr
end
end M
namespace M
open PySem PySem.Spec PyProof.Rows L2
section
variable {P : Program} {w : World}
theorem kg_str : KG (PySem.strKind P w) (fun x t => Value.str x t) PyProof.Rows.strOf where
  is := fun k t => strKind_is P w k t
  sep := fun k k' t h => by
    have h2 : (PySem.strKind P w).is k (.str k t) = true := strKind_is P w k t
    exact (PySem.strKind P w).inj _ _ _ h2 h
  sc := fun k t => rfl
  gk := fun k t => rfl
theorem kg_int : KG (PySem.intKind P w) (fun x t => Value.int x t) Builtin.Re.reRawOf where
  is := fun k t => intKind_is P w k t
  sep := fun k k' t h => by
    have h2 : (PySem.intKind P w).is k (.int k t) = true := intKind_is P w k t
    exact (PySem.intKind P w).inj _ _ _ h2 h
  sc := fun k t => rfl
  gk := fun k t => rfl
variable {A : Around} {E : Value → Shared → Prop} {s : Shared} {a : Addr}
theorem sortedG_int {L : List Int} {Q : Value → Shared → Prop} (R : SetG (PySem.intKind P w) (fun x t => Value.int x t) Builtin.Re.reRawOf s.heap a L) (hh : A.handled = none)
    (hQ : ∀ s' p (out : Array Value) (c : Nat) (ns : List Int), (∀ b o, s.heap.get? b = some o → s'.heap.get? b = some o) → s'.gens = s.gens → s'.os = s.os → s.heap.objs.size ≤ p →
      s'.heap.get? p = some (seqObj "list" out c) → IntsAre out.toList ns → ns.Pairwise (· < ·) → (∀ k, k ∈ ns ↔ k ∈ L) → ns.length ≤ 4096 → Q (.ref p) s') :
    wpAny (model P w) A (call (.builtin "sorted") [.ref a]) Q E s := by
  obtain ⟨o, es, ep, t, ho, hex, hd, g, nd, hm, hb, hf, hr, hl⟩ := R
  have hb' : es.size ≤ 4096 := by unfold scanBound at hb; omega
  refine Calls.call_function_entry kind_sorted plain_sorted entry_sorted (args_sorted1 _) ?_
  unfold Builtin.«sorted»
  refine wpAny_bind (m := checkCount "sorted" 1 1 _) (wpAny_pure ?_)
  refine wpAny_bind (collect_set (A := A.in1) hh ⟨o, ho, hex.1, hd⟩ hf hb hr hl fun s1 vs k1 hz g1 o1 pm => ?_)
  have hvl : vs.length ≤ 4096 := by rw [pm.length_eq, List.length_map, Array.length_toList]; exact hb'
  have hI : IntsAre vs (vs.map Builtin.Re.reRawOf) := ints_of vs fun v hv => by
    obtain ⟨e, he, q⟩ := List.mem_map.mp (pm.mem_iff.mp hv)
    obtain ⟨k, tk, h1, _⟩ := g e he
    exact ⟨k, tk, by rw [← q]; exact h1⟩
  have pk : (vs.map Builtin.Re.reRawOf).Perm (es.toList.map fun e => Builtin.Re.reRawOf e.2) := by
    have q := pm.map Builtin.Re.reRawOf
    rw [List.map_map] at q
    exact q
  refine wpAny_bind (wpAny_newList ?_ (by rw [sizeLine_eq]; omega))
  have hoL : (s1.heap.push (seqObj "list" vs.toArray 0)).get? s1.heap.objs.size = some (seqObj "list" vs.toArray 0) := Heap.get?_push_size _ rfl
  refine wpAny_bind (wpAny_holding (wpAny_call_entry slot_list_sort ⟨_, hoL, rfl⟩ entry_list_sort (list_sort_treeAny hoL hI (by rw [sizeLine_eq]; omega) fun out ns' a1 a2 a3 => ⟨_, rfl, ?_⟩) (args_list_sort _)))
  obtain ⟨c, hc⟩ := sortedHeap_at (vs := vs) (out := out) hoL
  have pn := a2.trans pk
  refine wpAny_pure ⟨_, rfl, hQ _ s1.heap.objs.size out c ns' (fun b u e => ?_) g1 o1 hz hc a1 (lt_of_le_nodup ns' a3 (pn.nodup_iff.mpr nd)) (fun k => by rw [pn.mem_iff, hm k]) ?_⟩
  · have q := k1 b u e
    have hlt := Heap.lt_size q
    show (sortedHeap (s1.heap.push (seqObj "list" vs.toArray 0)) s1.heap.objs.size vs out).get? b = some u
    rw [sortedHeap_old (Nat.ne_of_lt hlt) (by rw [size_push']; exact Nat.lt_succ_of_lt hlt)]
    exact Heap.get?_push_of_some _ q
  · rw [pn.length_eq, List.length_map, Array.length_toList]; exact hb'
theorem sortedG_str {L : List PySem.Str} {Q : Value → Shared → Prop} (R : SetG (PySem.strKind P w) (fun x t => Value.str x t) PyProof.Rows.strOf s.heap a L) (hh : A.handled = none)
    (hQ : ∀ s' p (out : Array Value) (c : Nat) (ns : List PySem.Str), (∀ b o, s.heap.get? b = some o → s'.heap.get? b = some o) → s'.gens = s.gens → s'.os = s.os → s.heap.objs.size ≤ p →
      s'.heap.get? p = some (seqObj "list" out c) → StrsAre out.toList ns → sortedS ns = true → ns.Nodup → (∀ k, k ∈ ns ↔ k ∈ L) → ns.length ≤ 4096 → Q (.ref p) s') :
    wpAny (model P w) A (call (.builtin "sorted") [.ref a]) Q E s := by
  obtain ⟨o, es, ep, t, ho, hex, hd, g, nd, hm, hb, hf, hr, hl⟩ := R
  have hb' : es.size ≤ 4096 := by unfold scanBound at hb; omega
  refine Calls.call_function_entry kind_sorted plain_sorted entry_sorted (args_sorted1 _) ?_
  unfold Builtin.«sorted»
  refine wpAny_bind (m := checkCount "sorted" 1 1 _) (wpAny_pure ?_)
  refine wpAny_bind (collect_set (A := A.in1) hh ⟨o, ho, hex.1, hd⟩ hf hb hr hl fun s1 vs k1 hz g1 o1 pm => ?_)
  have hvl : vs.length ≤ 4096 := by rw [pm.length_eq, List.length_map, Array.length_toList]; exact hb'
  have hS : StrsAre vs (vs.map PyProof.Rows.strOf) := strsAre_map vs fun v hv => by
    obtain ⟨e, he, q⟩ := List.mem_map.mp (pm.mem_iff.mp hv)
    obtain ⟨k, tk, h1, _⟩ := g e he
    exact ⟨k, tk, by rw [← q]; exact h1⟩
  have pk : (vs.map PyProof.Rows.strOf).Perm (es.toList.map fun e => PyProof.Rows.strOf e.2) := by
    have q := pm.map PyProof.Rows.strOf
    rw [List.map_map] at q
    exact q
  refine wpAny_bind (wpAny_newList ?_ (by rw [sizeLine_eq]; omega))
  have hoL : (s1.heap.push (seqObj "list" vs.toArray 0)).get? s1.heap.objs.size = some (seqObj "list" vs.toArray 0) := Heap.get?_push_size _ rfl
  refine wpAny_bind (wpAny_holding (wpAny_call_entry slot_list_sort ⟨_, hoL, rfl⟩ entry_list_sort (list_sort_treeKAny strKind_oneLt hoL hS.keysOf (fun v₁ v₂ rest e => keyKind_strs (by rw [← e]; exact hS)) (by rw [sizeLine_eq]; omega) fun st' hp hs => ⟨_, rfl, ?_⟩) (args_list_sort _)))
  obtain ⟨ss', a1, a2, a3⟩ := sorted_out_str hS hp hs
  obtain ⟨c, hc⟩ := sortedHeap_at (vs := vs) (out := (arrOf st').map (·.2)) hoL
  have pn := a2.trans pk
  refine wpAny_pure ⟨_, rfl, hQ _ s1.heap.objs.size ((arrOf st').map (·.2)) c ss' (fun b u e => ?_) g1 o1 hz hc a1 a3 (pn.nodup_iff.mpr nd) (fun k => by rw [pn.mem_iff, hm k]) ?_⟩
  · have q := k1 b u e
    have hlt := Heap.lt_size q
    show (sortedHeap (s1.heap.push (seqObj "list" vs.toArray 0)) s1.heap.objs.size vs _).get? b = some u
    rw [sortedHeap_old (Nat.ne_of_lt hlt) (by rw [size_push']; exact Nat.lt_succ_of_lt hlt)]
    exact Heap.get?_push_of_some _ q
  · rw [pn.length_eq, List.length_map, Array.length_toList]; exact hb'
end
section
variable {X : Cx}
def tSortSetS (K : PySem.W.Frag) (ta : TE) : TE := fun σ H Q => ta σ H fun x H1 => ∃ l, ∃ xs : List PySem.Str, x = .ref l ∧ SqL K H1 l (xs.map V.str) ∧ (∀ L' : List PySem.Str, L'.Nodup → (∀ x ∈ L', x ∈ xs) → L'.length < 4096) ∧
  ∀ (ys : List PySem.Str) (p : Addr), sortedS ys = true → ys.Nodup → (∀ k, k ∈ ys ↔ k ∈ xs) → H1 p = none → Q (.ref p) (upd H1 p (.lst (ys.map V.str)))
def tSortSetI (K : PySem.W.Frag) (ta : TE) : TE := fun σ H Q => ta σ H fun x H1 => ∃ l, ∃ xs : List Int, x = .ref l ∧ SqL K H1 l (xs.map V.int) ∧ (∀ L' : List Int, L'.Nodup → (∀ x ∈ L', x ∈ xs) → L'.length < 4096) ∧
  ∀ (ys : List Int) (p : Addr), ys.Pairwise (· < ·) → (∀ k, k ∈ ys ↔ k ∈ xs) → H1 p = none → Q (.ref p) (upd H1 p (.lst (ys.map V.int)))
theorem pe_sortSetS {a : Expr} {ta : TE} {p p2 q pos : Pos} (hc : X.calm = true) (hg : Gl X "sorted") (hm : X.mg "sorted" = none) (hg2 : Gl X "set") (hm2 : X.mg "set" = none) (ha : PE X a ta)
    (na : starEach [a] X.env = (false, eval a X.env) :: starEach [] X.env := by rfl) : PE X (.Call (.Name "sorted" p) [.Call (.Name "set" p2) [a] [] q] [] pos) (tSortSetS X.K ta) := by
  refine ⟨fun pins s σ H Q I h => Call_ (ld_blt I hg hm boot_sorted (PyProof.Rows.callWith_builtin1 (PyProof.Rows.args_cons ?_ rfl) rfl rfl))⟩
  refine Call_ (ld_blt I hg2 hm2 boot_set (PyProof.Rows.callWith_type1 (PyProof.Rows.args_cons (thn (ha.run pins s σ H _ I h) fun v s1 ⟨x, H1, I1, r1, l, xs, ex, hq, h1, q1⟩ => PyProof.Rows.args_nil ?_) na) na rfl))
  subst ex
  cases r1
  obtain ⟨its, r, pl, hz⟩ := I1.list hq
  have hst : StrsAre its xs := by simpa using strsAre_of r
  refine call_setG kg_str (xs := xs) (I1.ok.hd hc) pl.isList (by have := StrsAre.len_eq hst; simpa using this) (fun j x hj v hv => ?_) h1 fun h' tk seen hk hS hk2 => PyProof.Rows.args_nil ?_
  · obtain ⟨t, e⟩ := SS.strs_at hst j v (by simpa using hv)
    refine ⟨t, ?_⟩
    rw [e, List.getD_eq_getElem?_getD, hj]; rfl
  have I2 : Inv X pins σ H1 { s1 with heap := h', toks := tk } := I1.kept fun b o e => hk2 b o (Heap.lt_size e) e
  revert hS I2
  show SetG _ _ _ ({ s1 with heap := h', toks := tk } : Shared).heap _ _ → _
  generalize ({ s1 with heap := h', toks := tk } : Shared) = s2
  intro hS I2
  refine sortedG_str (s := s2) hS (I2.ok.hd hc) fun s' p out c ns k g o hp hg hi hs hnd hm hl => ?_
  have hlen : (ns.map V.str).length ≤ sizeLine := by rw [List.length_map, sizeLine_eq]; omega
  have hn : H1 p = none := I2.hok.fresh hp
  have J : Inv X pins σ (upd H1 p (.lst (ns.map V.str))) { s2 with heap := s'.heap, gens := s'.gens, drawn := s'.drawn, toks := s'.toks } :=
    I2.call (ch := []) (Un.laid k hp hn) (I2.hok.laid k hp ⟨hlen, out.toList, c, vals_of_strs hi, hg⟩) (by rw [g]; exact I2.bare) (fun _ z => nomatch z)
  have e : s' = { s2 with heap := s'.heap, gens := s'.gens, drawn := s'.drawn, toks := s'.toks } := by
    cases s'
    cases s2
    cases o
    rfl
  rw [e]
  exact ⟨.ref p, _, J, rfl, q1 ns p hs hnd (fun x => (hm x).trans (hk x)) hn⟩
theorem pe_sortSetI {a : Expr} {ta : TE} {p p2 q pos : Pos} (hc : X.calm = true) (hg : Gl X "sorted") (hm : X.mg "sorted" = none) (hg2 : Gl X "set") (hm2 : X.mg "set" = none) (ha : PE X a ta)
    (na : starEach [a] X.env = (false, eval a X.env) :: starEach [] X.env := by rfl) : PE X (.Call (.Name "sorted" p) [.Call (.Name "set" p2) [a] [] q] [] pos) (tSortSetI X.K ta) := by
  refine ⟨fun pins s σ H Q I h => Call_ (ld_blt I hg hm boot_sorted (PyProof.Rows.callWith_builtin1 (PyProof.Rows.args_cons ?_ rfl) rfl rfl))⟩
  refine Call_ (ld_blt I hg2 hm2 boot_set (PyProof.Rows.callWith_type1 (PyProof.Rows.args_cons (thn (ha.run pins s σ H _ I h) fun v s1 ⟨x, H1, I1, r1, l, xs, ex, hq, h1, q1⟩ => PyProof.Rows.args_nil ?_) na) na rfl))
  subst ex
  cases r1
  obtain ⟨its, r, pl, hz⟩ := I1.list hq
  have hst : IntsAre its xs := r.ints
  have hle : its.length = xs.length := hst.length
  refine call_setG kg_int (xs := xs) (I1.ok.hd hc) pl.isList (by simpa using hle) (fun j x hj v hv => ?_) h1 fun h' tk seen hk hS hk2 => PyProof.Rows.args_nil ?_
  · obtain ⟨t, e⟩ := PyProof.Rows.IntsAre.int_at hst j v (by simpa using hv)
    refine ⟨t, ?_⟩
    rw [e, List.getD_eq_getElem?_getD, hj]; rfl
  have I2 : Inv X pins σ H1 { s1 with heap := h', toks := tk } := I1.kept fun b o e => hk2 b o (Heap.lt_size e) e
  revert hS I2
  show SetG _ _ _ ({ s1 with heap := h', toks := tk } : Shared).heap _ _ → _
  generalize ({ s1 with heap := h', toks := tk } : Shared) = s2
  intro hS I2
  refine sortedG_int (s := s2) hS (I2.ok.hd hc) fun s' p out c ns k g o hp hg hi hs hm hl => ?_
  have hlen : (ns.map V.int).length ≤ sizeLine := by rw [List.length_map, sizeLine_eq]; omega
  have hn : H1 p = none := I2.hok.fresh hp
  have J : Inv X pins σ (upd H1 p (.lst (ns.map V.int))) { s2 with heap := s'.heap, gens := s'.gens, drawn := s'.drawn, toks := s'.toks } :=
    I2.call (ch := []) (Un.laid k hp hn) (I2.hok.laid k hp ⟨hlen, out.toList, c, vals_of_ints hi, hg⟩) (by rw [g]; exact I2.bare) (fun _ z => nomatch z)
  have e : s' = { s2 with heap := s'.heap, gens := s'.gens, drawn := s'.drawn, toks := s'.toks } := by
    cases s'
    cases s2
    cases o
    rfl
  rw [e]
  exact ⟨.ref p, _, J, rfl, q1 ns p hs (fun x => (hm x).trans (hk x)) hn⟩
/-! ### sorted(d.keys()), ints -/
def tSortKeys (td : TE) : TE := fun σ H Q => td σ H fun x H1 => ∃ (a : Addr) (kvs : List (Key × V)) (ks : List Int), x = .ref a ∧ Rd H1 a (.dK kvs) ∧ kvs.map (·.1) = ks.map Sum.inl ∧ ks.length < 64 ∧
  ∀ (ys : List Int) (p : Addr), ys.Perm ks → ys.Pairwise (· ≤ ·) → H1 p = none → Q (.ref p) (upd H1 p (.lst (ys.map V.int)))
theorem pe_sortKeys {e : Expr} {td : TE} {p apos cpos pos : Pos} (hc : X.calm = true) (hg : Gl X "sorted") (hm : X.mg "sorted" = none) (he : PE X e td)
    (hbase : attributeBase e "keys" X.env (eval e X.env) = eval e X.env := by rfl) (hline : (apos.endLine == cpos.line) = true := by rfl) : PE X (.Call (.Name "sorted" p) [.Call (.Attribute e "keys" apos) [] [] cpos] [] pos) (tSortKeys td) := by
  refine ⟨fun pins s σ H Q I h => Call_ (ld_blt I hg hm boot_sorted (PyProof.Rows.callWith_builtin1 (PyProof.Rows.args_cons ?_ rfl) rfl rfl))⟩
  refine wpAny_Call_method (T := "dict") (id := "dict.keys") hbase rfl hline F.plainAttrs_dict F.slot_dict_keys F.type_dict_keys (thn (he.run pins s σ H _ I h) fun u s1 ⟨x, H1, I1, rx, d, kvs, ks, ex, hd, hks, h64, q⟩ => ?_)
  subst ex
  obtain rfl : u = Value.ref d := rx
  obtain ⟨z, lo, vs, rel, dd⟩ := dk_rd I1.hok hd
  obtain ⟨ep, hat⟩ := dd.dictAt
  have hkeys : vs.map (·.1) = ks.map Sum.inl := rel.keys.symm.trans hks
  have hl : vs.length = ks.length := by
    have e := congrArg List.length hkeys
    rw [List.length_map, List.length_map] at e
    exact e
  have h16 : vs.length ≤ sizeLine := by rw [hl, sizeLine_eq]; omega
  refine ⟨dd.typeIs, dd.mapOf.noDict, ?_⟩
  have I2 : Inv X pins σ H1 { s1 with heap := s1.heap.push { cls := .type "dict_keys", data := .fields #[.ref d] } } := I1.kept (t' := s1.toks) fun b ob q => Heap.get?_push_of_some _ q
  show wpAny _ _ (callWith cpos (.builtin "dict.keys") [.ref d] [] []) _ X.xe s1
  refine method_meetsIn F.slot_dict_keys F.entry_dict_keys rfl (PySem.evalArgs_none ⟨rfl, dd.typeIs, F.args_dict_keys_1 _, _, PySem.W.kdl_meets_keys (mixKind X.prog X.w) d lo, ⟨vs, dd⟩, PyProof.Rows.args_nil ?_⟩)
  refine Calls.call_function_entry PyProof.Rows.kind_sorted PyProof.Rows.plain_sorted PyProof.Rows.entry_sorted (PyProof.Rows.args_sorted1 _) ?_
  unfold Builtin.«sorted»
  refine wpAny_bind (m := checkCount "sorted" 1 1 _) (wpAny_pure ?_)
  refine wpAny_bind (PySem.W.kdu_collect (A := X.A.in1) (PySem.W.kdl_keys (knd := mixKind X.prog X.w) (kvs := vs) (ep := ep) (r := s1.heap.objs.size) (d := d)) (I2.ok.hd hc) ⟨⟨_, Heap.get?_push_size _ rfl, rfl, rfl⟩, hat.push _⟩ h16 fun h' tk acc hk hacc => ?_)
  have hal : acc.toList.length = ks.length := by rw [Array.length_toList, hacc.1, hl]
  have hS : IntsAre acc.toList ks := ints_each hal fun j v e => by
    obtain ⟨k, x, e1, e2⟩ := hacc.2 j v (by rw [← Array.getElem?_toList]; exact e)
    have e3 : (vs.map (·.1))[j]? = some k := by rw [List.getElem?_map, e1]; rfl
    rw [hkeys, List.getElem?_map] at e3
    cases e4 : ks[j]? with
    | none => rw [e4] at e3; cases e3
    | some y =>
      rw [e4] at e3
      have e5 : Sum.inl y = k := Option.some.inj e3
      subst e5
      rcases keyIs_shape (show keyIs (Sum.inl y) v = true from e2) with ⟨i, t, ek, ev⟩ | ⟨z, t, ek, ev⟩
      · cases ek
        exact ⟨y, t, rfl, ev⟩
      · cases ek
  have I3 : Inv X pins σ H1 { s1 with heap := h', toks := tk } := I1.kept fun b o e => hk b o (Heap.get?_push_of_some _ e)
  refine wpAny_bind (wpAny_newList ?_ (by rw [hal, sizeLine_eq]; omega))
  have hoL : (h'.push (seqObj "list" acc.toList.toArray 0)).get? h'.objs.size = some (seqObj "list" acc.toList.toArray 0) := Heap.get?_push_size _ rfl
  show wpAny _ _ _ _ _ { s1 with heap := h'.push (seqObj "list" acc.toList.toArray 0), toks := tk }
  refine wpAny_bind (wpAny_holding (wpAny_call_entry PyProof.Rows.slot_list_sort ⟨_, hoL, rfl⟩ PyProof.Rows.entry_list_sort
    (PyProof.Rows.list_sort_tree (s := { s1 with heap := h'.push (seqObj "list" acc.toList.toArray 0), toks := tk }) hoL hS (by rw [hal]; exact h64) fun out ys g1 g2 g3 => ⟨_, rfl, ?_⟩) (PyProof.Rows.args_list_sort _)))
  obtain ⟨e', he'⟩ := PyProof.Rows.sortedHeap_at (vs := acc.toList) (out := out) hoL
  have hlen : (ys.map V.int).length ≤ sizeLine := by
    rw [List.length_map, g2.length_eq]
    exact Nat.le_trans (Nat.le_of_lt h64) (by decide)
  refine wpAny_pure ⟨_, rfl, .ref h'.objs.size, upd H1 h'.objs.size (.lst (ys.map V.int)), I3.laid (t' := tk) (fun b u e => ?_) (Nat.le_refl _)
    (show ObjOk X.prog X.w _ _ _ (.lst (ys.map V.int)) from ⟨hlen, out.toList, e', vals_of_ints g1, by rw [Array.toArray_toList]; exact he'⟩), rfl, q ys _ g2 g3 (I3.hok.fresh (Nat.le_refl _))⟩
  have hb : b < h'.objs.size := Heap.lt_size e
  rw [PyProof.Rows.sortedHeap_old (Nat.ne_of_lt hb) (by rw [size_push']; exact Nat.lt_succ_of_lt hb)]
  exact Heap.get?_push_of_some _ e
end
end M
namespace M
open PySem PySem.Spec PyProof.Rows L2
/-! ### dicts whose keys are pairs of rows: the objects -/
def RowAt (K : PySem.W.Frag) (H : Hp) (b : Addr) (a : List Nat) : Prop := SqT K H b (a.map fun i : Nat => V.int (i : Int))
def KeyAt (K : PySem.W.Frag) (H : Hp) (b : Addr) (k : List Nat × List Nat) : Prop := ∃ b1 b2, SqT K H b [.ref b1, .ref b2] ∧ RowAt K H b1 k.1 ∧ RowAt K H b2 k.2
theorem hashes_nums (w w' : World) : ∀ a : List Nat, NestedKey.hashes w (a.map fun i : Nat => NestedKey.num (i : Int)) = NestedKey.hashes w' (a.map fun i : Nat => NestedKey.num (i : Int))
  | [] => rfl
  | x :: a => by simp only [List.map_cons, NestedKey.hashes, NestedKey.hash, hashes_nums w w' a]
theorem hash_nkey (w w' : World) (k : List Nat × List Nat) : NestedKey.hash w (nkey k) = NestedKey.hash w' (nkey k) := by
  simp only [nkey, nrow, NestedKey.hash, NestedKey.hashes, hashes_nums w w']
theorem depth_nums : ∀ a : List Nat, NestedKey.depthAll (a.map fun i : Nat => NestedKey.num (i : Int)) = 0
  | [] => rfl
  | x :: a => by simp [NestedKey.depthAll, NestedKey.depth, depth_nums a]
theorem depth_nkey (k : List Nat × List Nat) : (nkey k).depth ≤ 8 := by
  simp [nkey, nrow, NestedKey.depth, NestedKey.depthAll, depth_nums]
theorem nums_inj : ∀ {a b : List Nat}, (a.map fun i : Nat => NestedKey.num (i : Int)) = (b.map fun i : Nat => NestedKey.num (i : Int)) → a = b
  | [], [], _ => rfl
  | [], _ :: _, h => by simp at h
  | _ :: _, [], h => by simp at h
  | x :: a, y :: b, h => by
    simp only [List.map_cons, List.cons.injEq, NestedKey.num.injEq] at h
    have := nums_inj h.2
    subst this
    have : x = y := by omega
    rw [this]
theorem nkey_inj {k k' : List Nat × List Nat} (h : nkey k = nkey k') : k = k' := by
  simp only [nkey, nrow, NestedKey.tup.injEq, List.cons.injEq, and_true] at h
  exact Prod.ext (nums_inj h.1) (nums_inj h.2)
theorem NdK.keys {K : PySem.W.Frag} {F : Hp} {xs : List (NestedKey × Addr × Value)} {ks : List (List Nat × List Nat)} (h : NdK K F xs ks) : xs.map (·.1) = ks.map nkey := by
  induction h with
  | nil => rfl
  | cons _ _ ih => simp [ih]
theorem NdK.len {K : PySem.W.Frag} {F : Hp} {xs : List (NestedKey × Addr × Value)} {ks : List (List Nat × List Nat)} (h : NdK K F xs ks) : xs.length = ks.length := by
  have := congrArg List.length h.keys
  simpa using this
theorem NdK.snoc {K : PySem.W.Frag} {F : Hp} {xs : List (NestedKey × Addr × Value)} {ks : List (List Nat × List Nat)} {a : Addr} {k : List Nat × List Nat} (h : NdK K F xs ks) (r : Rp K F (.ref a) (keyT k)) : NdK K F (xs ++ [(nkey k, a, .bool true)]) (ks ++ [k]) := by
  induction h with
  | nil => exact .cons r .nil
  | cons q _ ih => exact .cons q ih
/-- the entries' keys, as the heap tells them -/
def NdA (K : PySem.W.Frag) (H : Hp) (xs : List (NestedKey × Addr × Value)) : Prop := ∀ e ∈ xs, ∃ k, e.1 = nkey k ∧ KeyAt K H e.2.1 k
section
variable {K : PySem.W.Frag} {F H : Hp}
theorem rpl_nums : ∀ {vs : List V} {a : List Nat}, RpL K F vs (a.map fun i : Nat => D.int (i : Int)) → vs = a.map fun i : Nat => V.int (i : Int)
  | _, [], h => by cases h; rfl
  | _, x :: a, h => by
    cases h with
    | cons r t =>
      cases r
      rw [rpl_nums t]; rfl
theorem row_at {v : V} {a : List Nat} (r : Rp K F v (rowT a)) (s : Same F H) : ∃ b, v = .ref b ∧ RowAt K H b a := by
  unfold rowT at r
  cases r with
  | tup q t =>
    rw [rpl_nums t] at q
    exact ⟨_, rfl, Le.sqT (Le.of s) q⟩
theorem key_at {b : Addr} {k : List Nat × List Nat} (r : Rp K F (.ref b) (keyT k)) (s : Same F H) : KeyAt K H b k := by
  unfold keyT at r
  cases r with
  | tup q t =>
    cases t with
    | cons r1 t =>
      cases t with
      | cons r2 t =>
        cases t
        obtain ⟨b1, rfl, h1⟩ := row_at r1 s
        obtain ⟨b2, rfl, h2⟩ := row_at r2 s
        exact ⟨b1, b2, Le.sqT (Le.of s) q, h1, h2⟩
theorem key_ref {v : V} {k : List Nat × List Nat} (r : Rp K F v (keyT k)) : ∃ b, v = .ref b := by
  unfold keyT at r
  cases r with
  | tup q t => exact ⟨_, rfl⟩
theorem NdK.nda {xs : List (NestedKey × Addr × Value)} {ks : List (List Nat × List Nat)} (h : NdK K F xs ks) (s : Same F H) : NdA K H xs := by
  induction h with
  | nil => intro e he; simp at he
  | cons r _ ih =>
    intro e he
    rcases List.mem_cons.mp he with z | z
    · subst z; exact ⟨_, rfl, key_at r s⟩
    · exact ih e z
end
section
variable {X : Cx} {pins : List (Addr × Obj)} {σ : L2.St} {H : Hp} {s : Shared}
theorem nested_nums {h : Heap} : ∀ {a : List Nat} {its : List Value}, Vals (a.map fun i : Nat => V.int (i : Int)) its → NestedAll h (a.map fun i : Nat => NestedKey.num (i : Int)) its
  | [], _, r => by cases r; exact .nil
  | x :: a, _, r => by
    cases r with
    | cons q t =>
      obtain ⟨tk, rfl⟩ := (show ∃ t, _ = Value.int (x : Int) t from q)
      exact .cons (.int _ _) (nested_nums t)
theorem row_is (I : Inv X pins σ H s) {b : Addr} {a : List Nat} (h : RowAt X.K H b a) : NestedIs s.heap (nrow a) (.ref b) := by
  obtain ⟨its, r, ⟨o, e, c, n, d⟩, _⟩ := I.tuple h
  exact .tup e c d (by simpa using nested_nums r)
theorem key_is (I : Inv X pins σ H s) {b : Addr} {k : List Nat × List Nat} (h : KeyAt X.K H b k) : (nestedKind X.prog X.w).is s.heap (nkey k) b := by
  obtain ⟨b1, b2, q, h1, h2⟩ := h
  obtain ⟨its, r, ⟨o, e, c, n, d⟩, _⟩ := I.tuple q
  refine ⟨.tup e c d ?_, depth_nkey k⟩
  cases r with
  | cons q1 r =>
    cases r with
    | cons q2 r =>
      cases r
      cases (show _ = Value.ref b1 from q1)
      cases (show _ = Value.ref b2 from q2)
      exact .cons (row_is I h1) (.cons (row_is I h2) .nil)
theorem nd_of (I : Inv X pins σ H s) {d : Addr} {xs : List (NestedKey × Addr × Value)} (e : H d = some (NdO d xs)) (a : NdA X.K H xs) : xs.length ≤ sizeLine ∧ (d == sysModules) = false ∧ s.heap.DictOfH (nestedKind X.prog X.w) d xs := by
  obtain ⟨⟨z, y, o, es, ep, h1, h2, h3, h4, h5⟩, _⟩ := I.hok d _ e
  refine ⟨z, y, o, es, ep, h1, h2, h3, h4 _ _, fun x hx => ?_, h5⟩
  obtain ⟨k, ek, hk⟩ := a x hx
  rw [ek]
  exact key_is I hk
theorem nd_ok {P : Program} {w : World} {H : Hp} {h : Heap} {a : Addr} {xs : List (NestedKey × Addr × Value)} (z : xs.length ≤ sizeLine) (y : (a == sysModules) = false)
    (q : ∃ o es ep, h.get? a = some o ∧ o.ExactDict ∧ o.data = .dict es ep ∧ (∀ (P : Program) (w : World), es.toList = xs.map (entryOfKey (nestedKind P w))) ∧ (xs.map (·.1)).Nodup) : ObjOk P w H h a (NdO a xs) := by
  refine ⟨⟨z, y, q⟩, ?_, ?_⟩
  · obtain ⟨o, _, _, h1, _⟩ := q; exact ⟨o, h1⟩
  · rintro h1 h2 ⟨z, y, o, es, ep, g1, r⟩ k
    exact ⟨z, y, o, es, ep, k o g1, r⟩
theorem entry_any {P P' : Program} {w w' : World} {xs : List (NestedKey × Addr × Value)} (h : ∀ e ∈ xs, ∃ k, e.1 = nkey k) : xs.map (entryOfKey (nestedKind P w)) = xs.map (entryOfKey (nestedKind P' w')) := by
  apply List.map_congr_left
  intro e he
  obtain ⟨k, ek⟩ := h e he
  unfold entryOfKey
  have : (nestedKind P w).hash e.1 = (nestedKind P' w').hash e.1 := by
    show NestedKey.hash w e.1 = NestedKey.hash w' e.1
    rw [ek]; exact hash_nkey _ _ _
  rw [this]
def tNdNew : TE := fun _ H Q => ∀ p, H p = none → Q (.ref p) (upd H p (NdO p []))
theorem pe_ndNew {pos : Pos} : PE X (.Dict [] [] pos) tNdNew := ⟨fun pins s σ H Q I h =>
  wpAny_Dict_empty ⟨.ref s.heap.objs.size, _, I.laid (a := s.heap.objs.size) (o := NdO s.heap.objs.size []) (t' := s.toks) (fun _ _ q => Heap.get?_push_of_some _ q) (Nat.le_refl _)
    (nd_ok (Nat.zero_le _) (beq_eq_false_iff_ne.mpr (Ne.symm (Nat.ne_of_lt I.big))) ⟨_, #[], 0, Heap.get?_push_size _ rfl, ⟨rfl, rfl, rfl⟩, rfl, fun _ _ => rfl, List.nodup_nil⟩), rfl, h _ (I.hok.fresh (Nat.le_refl _))⟩⟩
def rNotInN (K : PySem.W.Frag) : R2 := fun x y H Q => ∃ b d xs k, x = .ref b ∧ y = .ref d ∧ KeyAt K H b k ∧ H d = some (NdO d xs) ∧ NdA K H xs ∧ Q (.bl (!(xs.any fun e => decide (e.1 = nkey k)))) H
theorem atKey_any {xs : List (NestedKey × Addr × Value)} {k : NestedKey} : (atKey xs k).isSome = xs.any fun e => decide (e.1 = k) := by
  rw [← any_pairsH, pairsH, List.any_map]; rfl
theorem op_notInN (hu : X.A.units + 65 < cLine) : OpR X (compareOp .NotIn) (rNotInN X.K) := by
  intro pins s σ H x y v u Q I rx ry h
  obtain ⟨b, d, xs, k, rfl, rfl, hk, hd, ha, q⟩ := h
  cases (show v = Value.ref b from rx)
  cases (show u = Value.ref d from ry)
  obtain ⟨z, y, dd⟩ := nd_of I hd ha
  refine wpAny_notIn_heap (knd := nestedKind X.prog X.w) (show X.A.in1.units + 8 < cLine by first | (have : X.A.in1.units = X.A.units + 1 := rfl; omega) | (have : X.A.in1.units ≤ X.A.units + 2 := by simp [Around.in1]; omega)) (key_is I hk) y dd ?_
  rw [atKey_any]
  exact ⟨.bl _, H, I.tok _, rfl, q⟩
def sNdPut (K : PySem.W.Frag) (td ty tv : TE) : TS := fun D σ H => tv σ H fun v H1 => td σ H1 fun x H2 => ty σ H2 fun y H3 => ∃ d b xs k, v = .bl true ∧ x = .ref d ∧ y = .ref b ∧ KeyAt K H3 b k ∧ H3 d = some (NdO d xs) ∧ NdA K H3 xs ∧ xs.length < 1000000 ∧
  (xs.any fun e => decide (e.1 = nkey k)) = false ∧ D.nx σ (upd H3 d (NdO d (xs ++ [(nkey k, b, .bool true)])))
theorem ps_ndput {o i value : Expr} {td ty tv : TE} {pos' pos : Pos} (hu : X.A.units + 65 < cLine) (ho : PE X o td) (hi : PE X i ty) (hv : PE X value tv) (hs : swapsWith value (some (.Subscript o i pos')) pos.line X.env = pure false) :
    PS X (.Assign [.Subscript o i pos'] value pos) (sNdPut X.K td ty tv) := by
  refine ⟨fun pins s σ H D I h => ?_⟩
  refine wpAny_Assign_Subscript (thn (hv.run pins s σ H _ I h) fun r s1 ⟨v, H1, I1, rv, q1⟩ => thn (ho.run pins s1 σ H1 _ I1 q1) fun u s2 ⟨x, H2, I2, rx, q2⟩ => thn (hi.run pins s2 σ H2 _ I2 q2) fun iv s3 ⟨y, H3, I3, ry, d, b, xs, k, ev, ex, ey, hk, hd, ha, hl, hn, q3⟩ => ?_) hs
  subst ev ex ey
  obtain rfl : u = Value.ref d := rx
  obtain rfl : iv = Value.ref b := ry
  obtain rfl : r = Value.bool true := rv
  obtain ⟨z, y, dd⟩ := nd_of I3 hd ha
  have hst : storedH xs (nkey k) b (.bool true) = xs ++ [(nkey k, b, .bool true)] := by
    unfold storedH
    rw [atKey_any, hn]
    simp
  refine wpAny_setItem_heap (knd := nestedKind X.prog X.w) (hsz := z) (show X.A.in1.units + 8 < cLine by first | (have : X.A.in1.units = X.A.units + 1 := rfl; omega) | (have : X.A.in1.units ≤ X.A.units + 2 := by simp [Around.in1]; omega)) (key_is I3 hk) dd fun h' dd' hs => ?_
  rw [hst] at dd'
  obtain ⟨q, es, ep, hq, h2, h3, h4, _, h5⟩ := dd'
  refine ⟨σ, _, d_write I3 (by rw [hd]; exact True.intro) hs ⟨q, hq⟩ (nd_ok (by rw [List.length_append, sizeLine_eq]; simp; omega) y ⟨q, es, ep, hq, h2, h3, fun P w => ?_, h5⟩), q3⟩
  rw [h4]
  refine entry_any fun e he => ?_
  rcases List.mem_append.mp he with m | m
  · obtain ⟨k', ek, _⟩ := ha e m
    exact ⟨k', ek⟩
  · rw [List.mem_singleton.mp m]; exact ⟨k, rfl⟩
end
/-! ### the rules -/
section
variable {K : PySem.W.Frag} {n : Nat} {ms : List MV} {X : XP}
theorem wn_nd0 {P : Addr → T → List MV → Prop} (h : ∀ p, P p (.nd p []) ms) : wpN K n (fun _ => tNdNew) ms P X := by
  intro W G F H σ gv Q hn S k x
  intro p hp
  have S' := S.newOwn (o := NdO p []) (t := .nd p []) hp (.nd .nil)
  exact k p _ ms gv F _ (h p) S' (Same.refl _)
theorem St.nd {G F H : Hp} {σ : List (Option V)} {i : Nat} {p : Addr} {ks : List (List Nat × List Nat)} (S : St K G F H ms σ) (e : ms[i]? = some (.ot p (.nd p ks))) : ∃ xs, H p = some (NdO p xs) ∧ NdK K F xs ks ∧
    ∀ xs' ks', NdK K F xs' ks' → St K G F (upd H p (NdO p xs')) (ms.set i (.ot p (.nd p ks'))) σ := by
  obtain ⟨v1, h1, rf, w, s1, f⟩ := S.dig (π := []) e rfl
  cases rf
  cases w with
  | nd w0 =>
    rename_i xs
    refine ⟨xs, s1 _ _ upd_same, w0, fun xs' ks' w' => ?_⟩
    refine f p _ (NdO p xs') (upd emp p (NdO p xs')) (.nd p ks') upd_same (fun b u z => ?_) upd_same (.nd w')
    by_cases hb : b = p
    · subst hb; rw [upd_same] at z ⊢; exact z
    · rw [upd_ne hb] at z ⊢; rw [upd_ne hb]; exact z
theorem any_nkey {ks : List (List Nat × List Nat)} {k : List Nat × List Nat} : (ks.map nkey).any (fun e => decide (e = nkey k)) = ks.contains k := by
  induction ks with
  | nil => rfl
  | cons x ks ih =>
    simp only [List.map_cons, List.any_cons, List.contains_cons, ih]
    congr 1
    by_cases h : x = k
    · subst h; simp
    · have h1 : ¬ nkey x = nkey k := fun z => h (nkey_inj z)
      have h2 : ¬ k = x := fun z => h z.symm
      simp [h1, h2]
theorem wd_notInN {ta tb : WX → TE} {P : D → List MV → Prop} (h : wpD K n ta ms (fun a m1 => ∃ k, a = keyT k ∧ wpD K n tb m1 (fun (b : D) (m2 : List MV) => ∃ (p : Addr) (i : Nat) (ks : List (List Nat × List Nat)), b = D.raw (.ref p) ∧ m2[i]? = some (MV.ot p (T.nd p ks)) ∧ P (.bl (!(ks.contains k))) m2) X) X) :
    wpD K n (fun W => tOp (rNotInN K) (ta W) (tb W)) ms P X := by
  intro W G F H σ gv Q hn S kk x
  refine h W G F H σ gv _ hn S (fun d v m1 g1 F1 H1 ho S1 r1 e1 => ?_) x
  obtain ⟨k, rfl, ho⟩ := ho
  refine ho W G F1 H1 σ g1 _ hn S1 (fun d2 v2 m2 g2 F2 H2 ho S2 r2 e2 => ?_) (fun c m g F' H' p S' e => x c m g F' H' p S' (e1.trans e))
  obtain ⟨p, i, ks, rfl, ei, ho⟩ := ho
  cases r2
  obtain ⟨xs, hp, w, f⟩ := S2.nd ei
  have r1' := r1.up e2
  obtain ⟨b, rfl⟩ := key_ref r1'
  refine ⟨b, p, xs, k, rfl, rfl, key_at r1' S2.f, hp, w.nda S2.f, ?_⟩
  have eq : (xs.any fun e => decide (e.1 = nkey k)) = ks.contains k := by
    have : (xs.any fun e => decide (e.1 = nkey k)) = (xs.map (·.1)).any fun e => decide (e = nkey k) := by rw [List.any_map]; rfl
    rw [this, w.keys, any_nkey]
  rw [eq]
  exact kk _ _ m2 g2 F2 H2 ho S2 (.bl _) (e1.trans e2)
variable {N : List MV → Prop} {R : MV → List MV → Prop}
theorem ws_ndPut {td ty tv : WX → TE} (h : wpD K n tv ms (fun d m1 => d = .bl true ∧ wpD K n td m1 (fun x m2 => ∃ p, x = .raw (.ref p) ∧ wpD K n ty m2 (fun kd m3 => ∃ k i ks, kd = keyT k ∧ m3[i]? = some (.ot p (.nd p ks)) ∧ ks.length < 1000000 ∧ ks.contains k = false ∧ N (m3.set i (.ot p (.nd p (ks ++ [k]))))) X) X) X) :
    wpS K n (fun W => sNdPut K (td W) (ty W) (tv W)) ms N R X := by
  intro W G F H σ gv E hn S k r x
  refine h W G F H σ gv _ hn S (fun d v m1 g1 F1 H1 ho S1 r1 e1 => ?_) (fun c m g F' H' p S' e => x c m σ g F' H' p hn S' e)
  obtain ⟨rfl, ho⟩ := ho
  refine ho W G F1 H1 σ g1 _ hn S1 (fun d2 v2 m2 g2 F2 H2 ho S2 r2 e2 => ?_) (fun c m g F' H' p S' e => x c m σ g F' H' p hn S' (e1.trans e))
  obtain ⟨p, rfl, ho⟩ := ho
  cases r2
  refine ho W G F2 H2 σ g2 _ hn S2 (fun d3 v3 m3 g3 F3 H3 ho S3 r3 e3 => ?_) (fun c m g F' H' p S' e => x c m σ g F' H' p hn S' ((e1.trans e2).trans e))
  obtain ⟨k3, i, ks, rfl, ei, hl, hc, hN⟩ := ho
  obtain ⟨xs, hp, w, f⟩ := S3.nd ei
  obtain ⟨b, rfl⟩ := key_ref r3
  cases r1
  refine ⟨p, b, xs, k3, rfl, rfl, rfl, key_at r3 S3.f, hp, w.nda S3.f, by rw [w.len]; exact hl, ?_, ?_⟩
  · have : (xs.any fun e => decide (e.1 = nkey k3)) = (xs.map (·.1)).any fun e => decide (e = nkey k3) := by rw [List.any_map]; rfl
    rw [this, w.keys, any_nkey]; exact hc
  · exact k _ σ g3 F3 _ hN hn (f _ _ (w.snoc r3)) ((e1.trans e2).trans e3)
end
end M
namespace M
open PySem PySem.Spec PyProof.Rows L2
/-! ### sorted, each once -/
section
variable {α : Type} [DecidableEq α]
def insU (lt : α → α → Bool) (x : α) : List α → List α
  | [] => [x]
  | y :: r => if x = y then y :: r else if lt x y = true then x :: y :: r else y :: insU lt x r
def srtU (lt : α → α → Bool) (xs : List α) : List α := xs.foldr (insU lt) []
structure SO (lt : α → α → Bool) : Prop where
  irr : ∀ a, lt a a = false
  tr : ∀ a b c, lt a b = true → lt b c = true → lt a c = true
  tot : ∀ a b, a ≠ b → lt a b = true ∨ lt b a = true
variable {lt : α → α → Bool}
theorem insU_mem {x y : α} : ∀ {l : List α}, y ∈ insU lt x l ↔ y = x ∨ y ∈ l
  | [] => by simp [insU]
  | z :: r => by
    unfold insU
    split
    · rename_i h; subst h; simp
    · split
      · simp
      · simp only [List.mem_cons, insU_mem (l := r)]
        constructor
        · rintro (h | h | h) <;> simp [h]
        · rintro (h | h | h) <;> simp [h]
theorem insU_sorted (so : SO lt) {x : α} : ∀ {l : List α}, l.Pairwise (fun a b => lt a b = true) → (insU lt x l).Pairwise (fun a b => lt a b = true)
  | [], _ => by simp [insU]
  | z :: r, h => by
    obtain ⟨h1, h2⟩ := List.pairwise_cons.mp h
    unfold insU
    split
    · exact h
    · rename_i hne
      split
      · rename_i hl
        refine List.pairwise_cons.mpr ⟨fun y hy => ?_, h⟩
        rcases List.mem_cons.mp hy with e | e
        · rw [e]; exact hl
        · exact so.tr _ _ _ hl (h1 y e)
      · rename_i hl
        refine List.pairwise_cons.mpr ⟨fun y hy => ?_, insU_sorted so h2⟩
        rcases insU_mem.mp hy with e | e
        · rw [e]
          rcases so.tot x z hne with q | q
          · exact absurd q hl
          · exact q
        · exact h1 y e
theorem srtU_mem {x : α} : ∀ {l : List α}, x ∈ srtU lt l ↔ x ∈ l
  | [] => by simp [srtU]
  | y :: r => by
    show x ∈ insU lt y (srtU lt r) ↔ _
    rw [insU_mem, srtU_mem (l := r), List.mem_cons]
theorem srtU_sorted (so : SO lt) : ∀ l : List α, (srtU lt l).Pairwise (fun a b => lt a b = true)
  | [] => List.Pairwise.nil
  | y :: r => insU_sorted so (srtU_sorted so r)
theorem sorted_uniq (so : SO lt) : ∀ {l m : List α}, l.Pairwise (fun a b => lt a b = true) → m.Pairwise (fun a b => lt a b = true) → (∀ x, x ∈ l ↔ x ∈ m) → l = m
  | [], [], _, _, _ => rfl
  | [], y :: m, _, _, h => by have := (h y).2 List.mem_cons_self; simp at this
  | x :: l, [], _, _, h => by have := (h x).1 List.mem_cons_self; simp at this
  | x :: l, y :: m, hl, hm, h => by
    obtain ⟨a1, a2⟩ := List.pairwise_cons.mp hl
    obtain ⟨b1, b2⟩ := List.pairwise_cons.mp hm
    have exy : x = y := by
      rcases List.mem_cons.mp ((h x).1 List.mem_cons_self) with e | e
      · exact e
      · rcases List.mem_cons.mp ((h y).2 List.mem_cons_self) with e2 | e2
        · exact e2.symm
        · have := so.tr _ _ _ (a1 y e2) (b1 x e)
          rw [so.irr] at this; cases this
    subst exy
    congr 1
    refine sorted_uniq so a2 b2 fun z => ⟨fun hz => ?_, fun hz => ?_⟩
    · rcases List.mem_cons.mp ((h z).1 (List.mem_cons_of_mem _ hz)) with e | e
      · subst e; have := a1 z hz; rw [so.irr] at this; cases this
      · exact e
    · rcases List.mem_cons.mp ((h z).2 (List.mem_cons_of_mem _ hz)) with e | e
      · subst e; have := b1 z hz; rw [so.irr] at this; cases this
      · exact e
theorem sorted_nodup (so : SO lt) {l : List α} (h : l.Pairwise (fun a b => lt a b = true)) : l.Nodup := by
  refine List.Pairwise.imp (fun {a b} hab e => ?_) h
  subst e
  rw [so.irr] at hab; cases hab
end
abbrev ltN : Nat → Nat → Bool := fun a b => decide (a < b)
theorem soN : SO ltN where
  irr := fun a => by simp
  tr := fun a b c => by simp only [decide_eq_true_eq]; omega
  tot := fun a b => by simp only [decide_eq_true_eq]; omega
abbrev ltS : PySem.Str → PySem.Str → Bool := fun a b => decide (a.cps.toList < b.cps.toList)
theorem str_ext {a b : PySem.Str} (h : a.cps.toList = b.cps.toList) : a = b := by
  cases a; cases b
  congr 1
  exact Array.toList_inj.mp h
theorem soS : SO ltS where
  irr := fun a => by simp only [decide_eq_false_iff_not]; exact List.lt_irrefl _
  tr := fun a b c => by simp only [decide_eq_true_eq]; exact fun x y => List.lt_trans x y
  tot := fun a b h => by
    simp only [decide_eq_true_eq]
    by_cases h1 : a.cps.toList < b.cps.toList
    · exact .inl h1
    · by_cases h2 : b.cps.toList < a.cps.toList
      · exact .inr h2
      · exact absurd (str_ext (List.le_antisymm (List.not_lt.mp h2) (List.not_lt.mp h1))) h
abbrev srtN (xs : List Nat) : List Nat := srtU ltN xs
abbrev srtS (xs : List PySem.Str) : List PySem.Str := srtU ltS xs
theorem rising_pw : ∀ {l : List PySem.Str} {p : PySem.Str}, risingS p l = true → (p :: l).Nodup → (p :: l).Pairwise (fun a b => ltS a b = true)
  | [], p, _, _ => by simp
  | x :: r, p, h, nd => by
    simp only [risingS, Bool.and_eq_true, Bool.not_eq_true', ltCps_eq, decide_eq_false_iff_not] at h
    obtain ⟨n1, n2⟩ := List.nodup_cons.mp nd
    have ih := rising_pw h.2 n2
    have hpx : ltS p x = true := by
      rcases soS.tot p x (fun e => n1 (by rw [e]; exact List.mem_cons_self)) with q | q
      · exact q
      · simp only [decide_eq_true_eq] at q
        exact absurd q h.1
    refine List.pairwise_cons.mpr ⟨fun y hy => ?_, ih⟩
    rcases List.mem_cons.mp hy with e | e
    · rw [e]; exact hpx
    · exact soS.tr _ _ _ hpx ((List.pairwise_cons.mp ih).1 y e)
theorem sortedS_eq {ys xs : List PySem.Str} (h : sortedS ys = true) (nd : ys.Nodup) (hm : ∀ k, k ∈ ys ↔ k ∈ xs) : ys = srtS xs := by
  refine sorted_uniq soS ?_ (srtU_sorted soS xs) fun x => by rw [hm, srtU_mem]
  cases ys with
  | nil => exact .nil
  | cons x r => exact rising_pw h nd
theorem sortedI_eq {ys : List Int} {xs : List Nat} (h : ys.Pairwise (· < ·)) (hm : ∀ k, k ∈ ys ↔ k ∈ xs.map fun i : Nat => (i : Int)) : ys = (srtN xs).map fun i : Nat => (i : Int) := by
  have so : SO (fun a b : Int => decide (a < b)) := ⟨fun a => by simp, fun a b c => by simp only [decide_eq_true_eq]; omega, fun a b => by simp only [decide_eq_true_eq]; omega⟩
  refine sorted_uniq so (h.imp (by simp)) ?_ fun x => ?_
  · rw [List.pairwise_map]
    exact (srtU_sorted soN xs).imp (by simp)
  · rw [hm]
    simp only [List.mem_map]
    constructor
    · rintro ⟨a, ha, e⟩; exact ⟨a, srtU_mem.mpr ha, e⟩
    · rintro ⟨a, ha, e⟩; exact ⟨a, srtU_mem.mp ha, e⟩
/-! ### how many there can be -/
theorem nodup_len {α : Type} [DecidableEq α] : ∀ {l m : List α}, l.Nodup → (∀ x ∈ l, x ∈ m) → l.length ≤ m.length
  | [], _, _, _ => by simp
  | x :: l, m, nd, h => by
    obtain ⟨n1, n2⟩ := List.nodup_cons.mp nd
    have hx := h x List.mem_cons_self
    have := nodup_len (l := l) (m := m.erase x) n2 fun y hy => by
      have hy2 := h y (List.mem_cons_of_mem _ hy)
      have hne : y ≠ x := fun e => n1 (e ▸ hy)
      exact (List.mem_erase_of_ne hne).mpr hy2
    rw [List.length_erase_of_mem hx] at this
    have hp : 0 < m.length := List.length_pos_of_mem hx
    simp only [List.length_cons]
    omega
section
variable {K : PySem.W.Frag} {n : Nat} {ms : List MV} {X : XP}
theorem rpl_strs {F : Hp} : ∀ {vs : List V} {xs : List PySem.Str}, RpL K F vs (xs.map .str) → vs = xs.map V.str
  | _, [], q => by cases q; rfl
  | _, x :: xs, q => by
    cases q with
    | cons a b => cases a; rw [rpl_strs b]; rfl
theorem RpL.ofStrs4 {F : Hp} : ∀ (xs : List PySem.Str), RpL K F (xs.map V.str) (xs.map .str)
  | [] => .nil
  | _ :: l => .cons (.str _) (RpL.ofStrs4 l)
theorem RpL.nats {F : Hp} : ∀ (xs : List Nat), RpL K F (xs.map fun i : Nat => V.int (i : Int)) (xs.map fun i : Nat => D.int (i : Int))
  | [] => .nil
  | _ :: l => .cons (.int _) (RpL.nats l)
abbrev natsD (xs : List Nat) : D := .lst (xs.map fun i : Nat => D.int (i : Int))
theorem wd_sortSetS {ta : WX → TE} {P : D → List MV → Prop} (h : wpD K n ta ms (fun d m1 => ∃ xs : List PySem.Str, d = .lst (xs.map .str) ∧ xs.length < 4096 ∧ P (.lst ((srtS xs).map .str)) m1) X) : wpD K n (fun W => tSortSetS K (ta W)) ms P X := by
  intro W G F H σ gv Q hn S k x
  refine h W G F H σ gv _ hn S (fun d v m1 g1 F1 H1 ho S1 r1 e1 => ?_) x
  obtain ⟨xs, rfl, hl, p⟩ := ho
  cases r1 with
  | lst e q =>
    have ev := rpl_strs q
    subst ev
    refine ⟨_, xs, rfl, SqL.of (S1.f _ _ e), fun L' n' h' => ?_, fun ys q2 hs nd hm hq => ?_⟩
    · have := nodup_len n' h'; omega
    · have := sortedS_eq hs nd hm
      subst this
      have S2 := S1.new (o := .lst ((srtS xs).map V.str)) hq
      exact k _ _ m1 g1 _ _ p S2 (.lst upd_same (RpL.ofStrs4 _)) (e1.trans (same_new (S1.f.free hq)))
theorem wd_sortSetI {ta : WX → TE} {P : D → List MV → Prop} (h : wpD K n ta ms (fun d m1 => ∃ xs : List Nat, d = natsD xs ∧ (∀ x ∈ xs, x < 4000) ∧ P (natsD (srtN xs)) m1) X) : wpD K n (fun W => tSortSetI K (ta W)) ms P X := by
  intro W G F H σ gv Q hn S k x
  refine h W G F H σ gv _ hn S (fun d v m1 g1 F1 H1 ho S1 r1 e1 => ?_) x
  obtain ⟨xs, rfl, hl, p⟩ := ho
  cases r1 with
  | lst e q =>
    have ev := rpl_nums q
    subst ev
    have em : (xs.map fun i : Nat => V.int (i : Int)) = (xs.map fun i : Nat => (i : Int)).map V.int := by rw [List.map_map]; rfl
    rw [em] at e
    refine ⟨_, _, rfl, SqL.of (S1.f _ _ e), fun L' n' h' => ?_, fun ys q2 hs hm hq => ?_⟩
    · have := nodup_len (m := (List.range 4000).map fun i : Nat => (i : Int)) n' fun y hy => by
        obtain ⟨a, ha, rfl⟩ := List.mem_map.mp (h' y hy)
        exact List.mem_map.mpr ⟨a, List.mem_range.mpr (hl a ha), rfl⟩
      simp at this; omega
    · have := sortedI_eq hs hm
      subst this
      have S2 := S1.new (o := .lst (((srtN xs).map fun i : Nat => (i : Int)).map V.int)) hq
      refine k _ _ m1 g1 _ _ p S2 (.lst upd_same ?_) (e1.trans (same_new (S1.f.free hq)))
      rw [List.map_map]
      exact RpL.nats _
/-- sorted(d.keys()) of an owned dict with small whole numbers -/
theorem wd_sortKeys {td : WX → TE} {P : D → List MV → Prop} (h : wpD K n td ms (fun d m1 => ∃ (p : Addr) (i : Nat) (ts : List (Key × T)) (ks : List Nat), d = D.raw (.ref p) ∧ m1[i]? = some (MV.ot p (T.dic ts)) ∧ ts.map (·.1) = ks.map (fun j : Nat => Sum.inl (j : Int)) ∧ ks.Nodup ∧ ks.length < 64 ∧ P (natsD (srtN ks)) m1) X) : wpD K n (fun W => tSortKeys (td W)) ms P X := by
  intro W G F H σ gv Q hn S k x
  refine h W G F H σ gv _ hn S (fun d v m1 g1 F1 H1 ho S1 r1 e1 => ?_) x
  obtain ⟨p, i, ts, ks, rfl, ei, ek, nd, hl, hp⟩ := ho
  cases r1
  obtain ⟨vs, h0, hd, w, f⟩ := S1.dic ei
  have keys : ∀ {vs : List (Key × V)} {h : Hp} {ts : List (Key × T)}, OwK K F1 vs h ts → vs.map (·.1) = ts.map (·.1) := by
    intro vs h ts o
    induction vs generalizing h ts with
    | nil => cases o; rfl
    | cons v vs ih =>
      cases o with
      | cons a b c => simp [ih b]
  refine ⟨p, vs, ks.map (fun j : Nat => (j : Int)), rfl, .inl hd, ?_, by simpa using hl, fun ys q pm hs hq => ?_⟩
  · rw [keys w, ek, List.map_map]; rfl
  · have hnd : (ks.map fun j : Nat => (j : Int)).Nodup := by
      rw [List.nodup_iff_pairwise_ne, List.pairwise_map]
      exact List.Pairwise.imp (fun h e => h (by omega)) nd
    have := sortedI_eq (lt_of_le_nodup ys hs (pm.nodup_iff.mpr hnd)) (fun x => pm.mem_iff)
    subst this
    have S2 := S1.new (o := .lst (((srtN ks).map fun i : Nat => (i : Int)).map V.int)) hq
    refine k _ _ m1 g1 _ _ hp S2 (.lst upd_same ?_) (e1.trans (same_new (S1.f.free hq)))
    rw [List.map_map]
    exact RpL.nats _
/-- list(range(a, b)) -/
theorem wd_lstRg2 {ta tb : WX → TE} {P : D → List MV → Prop} (h : wpD K n ta ms (fun d m1 => ∃ a : Nat, d = .int (a : Int) ∧ a ≤ 10000 ∧ wpD K n tb m1 (fun d2 m2 => ∃ b : Nat, d2 = .int (b : Int) ∧ b ≤ 10000 ∧ P (natsD ((List.range (b - a)).map fun i => a + i)) m2) X) X) : wpD K n (fun W => tLstRg (tRg2 (ta W) (tb W))) ms P X := by
  intro W G F H σ gv Q hn S k x
  refine h W G F H σ gv _ hn S (fun d v m1 g1 F1 H1 ho S1 r1 e1 => ?_) x
  obtain ⟨a, rfl, ha, ho⟩ := ho
  cases r1
  refine ho W G F1 H1 σ g1 _ hn S1 (fun d2 v2 m2 g2 F2 H2 ho S2 r2 e2 => ?_) (fun c m g F' H' p S' e => x c m g F' H' p S' (e1.trans e))
  obtain ⟨b, rfl, hb, p⟩ := ho
  cases r2
  refine ⟨a, b, rfl, rfl, RgOk.of_le (by omega) (by omega) (by omega) (by omega), fun q hq => ?_⟩
  have S3 := S2.new (o := .lst (rgV a b)) hq
  refine k _ _ m2 g2 _ _ p S3 (.lst upd_same ?_) ((e1.trans e2).trans (same_new (S2.f.free hq)))
  have := RpL.nats (K := K) (F := upd F2 q (.lst (rgV a b))) ((List.range (b - a)).map fun i => a + i)
  generalize upd F2 q (.lst (rgV a b)) = F9 at this ⊢
  unfold rgV
  have e : ((b : Int) - (a : Int)).toNat = b - a := by omega
  rw [e]
  simpa [Function.comp_def] using this
end
end M
namespace M
open PySem PySem.Spec PyProof.Rows L2
/-! ### a comprehension that gives an owned list of data -/
section
variable {K : PySem.W.Frag} {n : Nat} {ms : List MV} {X : XP}
theorem wn_lcD {ti : WX → TI} {g : TG} {tt : WX → TT} {te : WX → TE} {vs : List Nat} {P : Addr → T → List MV → Prop} (hvs : ∀ v ∈ vs, v < n) (hg : GOk g vs)
    (h : wpI K n ti ms (fun ds m1 => ds.length ≤ 1000000 ∧ ∃ I : Nat → List D → List MV → Prop, I 0 [] (wipeM m1 vs) ∧
      (∀ i d acc m, ds[i]? = some d → I i acc m → wpG K n g d m fun m2 => wpT K n tt m2 (fun b m3 => if b = true then wpD K n te m3 (fun e m4 => I (i + 1) (acc ++ [e]) (wipeM m4 vs)) noX else I (i + 1) acc (wipeM m3 vs)) noX) ∧
      ∀ acc m q, I ds.length acc m → P q (.lst (acc.map .lf)) (wipeM m vs)) X) :
    wpN K n (fun W => tLcW (ti W) g tt te vs) ms P X := by
  intro W G F H σ gv Q hn S k x
  refine h W G F H σ gv _ hn S (fun ds J m1 g1 F1 H1 ho S1 w e1 => ?_) x
  obtain ⟨hlen, I, h0, hs, hd⟩ := ho
  have hvn : ∀ v ∈ vs, v < σ.length := fun v hv => by rw [hn]; exact hvs v hv
  have hwl : (L2.wipe σ vs).length = n := by rw [wipe_length]; exact hn
  intro Dl hDl
  -- the list that grows stands behind the slots
  let gh : List D → MV := fun acc => .ot Dl (.lst (acc.map .lf))
  let Pv : Nat → Hp → Prop := fun i H' => ∃ acc m gv' F', I i acc m ∧ acc.length ≤ i ∧ St K G F' H' (m ++ [gh acc]) ((L2.wipe σ vs ++ gv') ++ [some (.ref Dl)]) ∧ Same F1 F'
  have put : ∀ {G F H : Hp} {m : List MV} {s : List (Option V)} {q : MV} {o : Option V}, St K G F H (q :: m) (o :: s) → St K G F H (m ++ [q]) (s ++ [o]) := by
    intro G F H m s q o S
    refine S.sub fun h y => ?_
    have y1 : OwS K F ([q] ++ m) ([o] ++ s) h := y
    obtain ⟨a, b, p1, p2, d, rfl⟩ := OwS.split (a := [q]) (s := [o]) rfl y1
    refine ⟨_, p2.join p1 d.symm, ?_⟩
    rw [jn_comm d.symm]
    exact Same.refl _
  refine ⟨fun i m H' => i + m = ds.length ∧ Pv i H', ⟨ds.length, by omega, [], wipeM m1 vs, g1, F1, h0, by simp, ?_, Same.refl _⟩, fun i m H' hW => ?_⟩
  · exact put ((S1.wipe vs hvn).newOwn hDl (.lst (owL_of .nil) rfl))
  obtain ⟨em, acc, m2, g2, F2, hI, hacc, S2, e2⟩ := hW
  have hm2 : m2.length = (L2.wipe σ vs ++ g2).length := by
    have := S2.len
    simp only [List.length_append, List.length_cons, List.length_nil] at this ⊢
    omega
  have last : ∀ (l : List MV) (q : MV), (l ++ [q])[l.length]? = some q := fun l q => by simp
  cases q : ds[i]? with
  | none =>
    have hi : ds.length ≤ i := List.getElem?_eq_none_iff.mp q
    have hi' : i = ds.length := by omega
    subst hi'
    refine .inl ⟨((w.up e2) _ H' S2.f).2 rfl, ?_⟩
    obtain ⟨h1, w1, dj1, S4⟩ := (S2.unrot hm2).aside
    exact k Dl _ _ g2 F2 H' (hd acc m2 Dl hI) (St.join1 w1 dj1 (St.unwipe vs hvn S4)) (e1.trans e2)
  | some d =>
    have hi : i < ds.length := (List.getElem?_eq_some_iff.mp q).1
    obtain ⟨hgo, hy⟩ := ((w.up e2) i H' S2.f).1 d q
    refine .inr ⟨hgo, Pv (i + 1), fun H3 hP => ⟨m - 1, by omega, by omega, hP⟩, fun y H3 hyl => ?_⟩
    obtain ⟨rfl, ry⟩ := hy y H3 hyl
    obtain ⟨G', SL, back⟩ := St.lend hm2 S2
    refine hg (L2.wipe σ vs) (L2.wipe σ vs) y H3 _ (wipe_wipe vs) (hs i d acc m2 q hI G' F2 H3 (L2.wipe σ vs) g2 y _ hwl SL ry fun m3 σ3 h3 hn3 S3 ew => ?_)
    have hv3 : ∀ v ∈ vs, v < σ3.length := fun v hv => by rw [hn3]; exact hvs v hv
    refine h3 W0 G' F2 H3 σ3 g2 _ hn3 S3 (fun b m4 g4 F4 H4 ho S4 e4 => ?_) (fun c m g F' H' p S' e => p.elim)
    cases b with
    | false =>
      rw [if_neg Bool.false_ne_true] at ho ⊢
      have S5 := S4.wipe vs hv3
      rw [ew] at S5
      exact ⟨acc, _, g4, F4, ho, by omega, back F4 H4 _ _ e4 S5, e2.trans e4⟩
    | true =>
      rw [if_pos rfl] at ho ⊢
      refine ho W0 G' F4 H4 σ3 g4 _ hn3 S4 (fun e v5 m5 g5 F5 H5 hI5 S5 r5 e5 => ?_) (fun c m g F' H' p S' e => p.elim)
      have S6 := S5.wipe vs hv3
      rw [ew] at S6
      have S7 := back F5 H5 _ _ (e4.trans e5) S6
      obtain ⟨ws, hD, hwsl, f⟩ := S7.list (last _ (gh acc))
      refine ⟨ws, hD, by rw [hwsl, List.length_map, sizeLine_eq]; omega, acc ++ [e], _, g5, F5, hI5, by simp; omega, ?_, (e2.trans e4).trans e5⟩
      have S8 := f (ws ++ [v5]) (acc.map .lf ++ [.lf e]) fun h0 w0 => ⟨h0, w0.snoc r5, Same.refl _⟩
      rw [List.set_append_right _ _ (Nat.le_refl _)] at S8
      simpa [gh] using S8
end
end M
namespace M
open PySem PySem.Spec PyProof.Rows L2
/-! ### what a pattern takes, place by place -/
def isAny (r : RP) : Bool := decide (r.kind = "any")
def anyAt (ps : List RP) (q : Nat) : Bool := match ps[q]? with | some r => isAny r | none => false
theorem anyAt_some {ps : List RP} {q : Nat} (h : anyAt ps q = true) : ∃ r, ps[q]? = some r ∧ isAny r = true := by
  unfold anyAt at h
  cases e : ps[q]? with
  | none => rw [e] at h; cases h
  | some r => rw [e] at h; exact ⟨r, rfl, h⟩
theorem anyAt_lt {ps : List RP} {q : Nat} (h : anyAt ps q = true) : q < ps.length := by
  obtain ⟨r, e, _⟩ := anyAt_some h
  exact (List.getElem?_eq_some_iff.mp e).1
theorem anyAt_of {ps : List RP} {q : Nat} {r : RP} (e : ps[q]? = some r) (h : isAny r = true) : anyAt ps q = true := by
  unfold anyAt; rw [e]; exact h
def Px (r : RP) (x : List PySem.Str) : Prop := isAny r = true ∨ (isAny r = false ∧ ∃ w, x = [w] ∧ takesB r w = true)
/-- the first j parts take just u -/
def Mj (ps : List RP) : Nat → List PySem.Str → Prop
  | 0, u => u = []
  | j + 1, u => ∃ r v x, ps[j]? = some r ∧ u = v ++ x ∧ Mj ps j v ∧ Px r x
def Rc (ps : List RP) (u : List PySem.Str) (j : Nat) : Prop := ∃ v x, u = v ++ x ∧ Mj ps j v ∧ (x = [] ∨ anyAt ps j = true)
/-- all from p to below j take any words -/
def Anys (ps : List RP) (p j : Nat) : Prop := p ≤ j ∧ ∀ q, p ≤ q → q < j → anyAt ps q = true
theorem Anys.refl {ps : List RP} {p : Nat} : Anys ps p p := ⟨Nat.le_refl _, fun q h1 h2 => by omega⟩
theorem Anys.snoc {ps : List RP} {p j : Nat} (h : Anys ps p j) (a : anyAt ps j = true) : Anys ps p (j + 1) := ⟨by have := h.1; omega, fun q h1 h2 => by
  by_cases e : q = j
  · rw [e]; exact a
  · exact h.2 q h1 (by omega)⟩
theorem Mj.anys {ps : List RP} {p : Nat} {u : List PySem.Str} (h : Mj ps p u) : ∀ {j : Nat}, Anys ps p j → Mj ps j u := by
  intro j
  induction j with
  | zero =>
    intro a
    have : p = 0 := by have := a.1; omega
    rw [← this]; exact h
  | succ j ih =>
    intro a
    by_cases e : p = j + 1
    · rw [← e]; exact h
    · have hp := a.1
      obtain ⟨r, er, ha⟩ := anyAt_some (a.2 j (by omega) (by omega))
      exact ⟨r, u, [], er, by simp, ih ⟨by omega, fun q h1 h2 => a.2 q h1 (by omega)⟩, .inl ha⟩
theorem Mj.nil {ps : List RP} : ∀ {j : Nat}, Mj ps j [] ↔ Anys ps 0 j
  | 0 => ⟨fun _ => Anys.refl, fun _ => rfl⟩
  | j + 1 => by
    constructor
    · rintro ⟨r, v, x, er, e, hm, hp⟩
      obtain ⟨rfl, rfl⟩ := List.append_eq_nil_iff.mp e.symm
      have ha : isAny r = true := by
        rcases hp with h | ⟨_, w, h, _⟩
        · exact h
        · cases h
      exact (Mj.nil.mp hm).snoc (anyAt_of er ha)
    · intro h
      exact Mj.anys (p := 0) (show Mj ps 0 [] from rfl) h
/-- the places behind a word -/
def bh1 (ps : List RP) (w : PySem.Str) (p : Nat) : List Nat := match ps[p]? with | some r => if isAny r then [p] else if takesB r w then [p + 1] else [] | none => []
def bhF (ps : List RP) (st : List Nat) (w : PySem.Str) : List Nat := st.flatMap (bh1 ps w)
theorem bhF_mem {ps : List RP} {st : List Nat} {w : PySem.Str} {p : Nat} : p ∈ bhF ps st w ↔ (p ∈ st ∧ anyAt ps p = true) ∨ ∃ p' r, p' ∈ st ∧ ps[p']? = some r ∧ isAny r = false ∧ takesB r w = true ∧ p = p' + 1 := by
  unfold bhF
  rw [List.mem_flatMap]
  constructor
  · rintro ⟨p', hp', h⟩
    unfold bh1 at h
    cases e : ps[p']? with
    | none => rw [e] at h; simp at h
    | some r =>
      rw [e] at h
      simp only at h
      by_cases ha : isAny r = true
      · rw [if_pos ha] at h
        have := List.mem_singleton.mp h
        subst this
        exact .inl ⟨hp', anyAt_of e ha⟩
      · rw [if_neg ha] at h
        by_cases ht : takesB r w = true
        · rw [if_pos ht] at h
          exact .inr ⟨p', r, hp', e, by simpa using ha, ht, List.mem_singleton.mp h⟩
        · rw [if_neg ht] at h; simp at h
  · rintro (⟨h1, h2⟩ | ⟨p', r, h1, h2, h3, h4, h5⟩)
    · obtain ⟨r, e, ha⟩ := anyAt_some h2
      exact ⟨p, h1, by unfold bh1; rw [e]; simp [ha]⟩
    · exact ⟨p', h1, by unfold bh1; rw [h2]; simp [h3, h4, h5]⟩
/-- a set of places, with those behind parts that take any words -/
def IsCl (ps : List RP) (ls out : List Nat) : Prop := ∀ j, j ∈ out ↔ ∃ p ∈ ls, Anys ps p j
def runP (ps : List RP) (p : Nat) : Nat → List Nat
  | 0 => [p]
  | n + 1 => p :: (if anyAt ps p then runP ps (p + 1) n else [])
theorem runP_mem {ps : List RP} : ∀ {n p j : Nat}, ps.length ≤ p + n → (j ∈ runP ps p n ↔ Anys ps p j)
  | 0, p, j, hn => by
    simp only [runP, List.mem_singleton]
    constructor
    · intro e; rw [e]; exact Anys.refl
    · intro h
      by_cases e : j = p
      · exact e
      · have := anyAt_lt (h.2 p (Nat.le_refl _) (by have := h.1; omega))
        omega
  | n + 1, p, j, hn => by
    simp only [runP, List.mem_cons]
    by_cases ha : anyAt ps p = true
    · rw [if_pos ha, runP_mem (n := n) (by omega)]
      constructor
      · rintro (e | h)
        · rw [e]; exact Anys.refl
        · exact ⟨by have := h.1; omega, fun q h1 h2 => by
            by_cases e : q = p
            · rw [e]; exact ha
            · exact h.2 q (by omega) h2⟩
      · intro h
        by_cases e : j = p
        · exact .inl e
        · exact .inr ⟨by have := h.1; omega, fun q h1 h2 => h.2 q (by omega) h2⟩
    · rw [if_neg ha]
      constructor
      · rintro (e | h)
        · rw [e]; exact Anys.refl
        · simp at h
      · intro h
        by_cases e : j = p
        · exact .inl e
        · exact absurd (h.2 p (Nat.le_refl _) (by have := h.1; omega)) ha
def clF (ps : List RP) (ls : List Nat) : List Nat := srtN (ls.flatMap fun p => runP ps p ps.length)
theorem clF_cl {ps : List RP} {ls : List Nat} : IsCl ps ls (clF ps ls) := by
  intro j
  unfold clF
  rw [srtU_mem, List.mem_flatMap]
  constructor
  · rintro ⟨p, hp, h⟩; exact ⟨p, hp, (runP_mem (by omega)).mp h⟩
  · rintro ⟨p, hp, h⟩; exact ⟨p, hp, (runP_mem (by omega)).mpr h⟩
def stF (ps : List RP) (st : List Nat) (w : PySem.Str) : List Nat := clF ps (bhF ps st w)
def runF (ps : List RP) (u : List PySem.Str) : List Nat := u.foldl (stF ps) (clF ps [0])
theorem Rc_snoc {ps : List RP} {u : List PySem.Str} {w : PySem.Str} {j : Nat} : Rc ps (u ++ [w]) j ↔ ∃ p, ((Rc ps u p ∧ anyAt ps p = true) ∨ ∃ p' r, Rc ps u p' ∧ ps[p']? = some r ∧ isAny r = false ∧ takesB r w = true ∧ p = p' + 1) ∧ Anys ps p j := by
  constructor
  · rintro ⟨v, x, e, hm, hx⟩
    have split : ∀ {v x : List PySem.Str}, u ++ [w] = v ++ x → x ≠ [] → ∃ x', x = x' ++ [w] ∧ u = v ++ x' := by
      intro v x e hx
      have h1 : x = x.dropLast ++ [x.getLast hx] := (List.dropLast_concat_getLast hx).symm
      rw [h1, ← List.append_assoc] at e
      have := List.append_inj' e rfl
      refine ⟨x.dropLast, ?_, this.1⟩
      have e2 : w = x.getLast hx := by simpa using this.2
      rw [e2]; exact h1
    by_cases hx0 : x = []
    · subst hx0
      have : ∀ j, Mj ps j (u ++ [w]) → ∃ p, ((Rc ps u p ∧ anyAt ps p = true) ∨ ∃ p' r, Rc ps u p' ∧ ps[p']? = some r ∧ isAny r = false ∧ takesB r w = true ∧ p = p' + 1) ∧ Anys ps p j := by
        intro j
        induction j with
        | zero => intro h; exact absurd (show u ++ [w] = [] from h) (by simp)
        | succ j ih =>
          rintro ⟨r, v', x', er, e', hm', hp⟩
          by_cases hx1 : x' = []
          · subst hx1
            have ha : isAny r = true := by
              rcases hp with h | ⟨_, w, h, _⟩
              · exact h
              · cases h
            rw [List.append_nil] at e'
            rw [← e'] at hm'
            obtain ⟨p, h1, h2⟩ := ih hm'
            exact ⟨p, h1, h2.snoc (anyAt_of er ha)⟩
          · obtain ⟨x'', e1, e2⟩ := split e' hx1
            rcases hp with ha | ⟨ha, w', hw, ht⟩
            · exact ⟨j, .inl ⟨⟨v', x'', e2, hm', .inr (anyAt_of er ha)⟩, anyAt_of er ha⟩, Anys.refl.snoc (anyAt_of er ha)⟩
            · rw [e1] at hw
              have hn : x'' = [] := by
                cases x'' with
                | nil => rfl
                | cons a l => simp at hw
              subst hn
              have : w = w' := by simpa using hw
              subst this
              exact ⟨j + 1, .inr ⟨j, r, ⟨v', [], e2, hm', .inl rfl⟩, er, ha, ht, rfl⟩, Anys.refl⟩
      rw [List.append_nil] at e
      exact this j (by rw [e]; exact hm)
    · obtain ⟨x', e1, e2⟩ := split e hx0
      have ha : anyAt ps j = true := by
        rcases hx with h | h
        · exact absurd h hx0
        · exact h
      exact ⟨j, .inl ⟨⟨v, x', e2, hm, .inr ha⟩, ha⟩, Anys.refl⟩
  · rintro ⟨p, h, a⟩
    rcases h with ⟨⟨v, x, e, hm, _⟩, ha⟩ | ⟨p', r, ⟨v, x, e, hm, hx⟩, er, hn, ht, rfl⟩
    · by_cases ej : p = j
      · subst ej
        exact ⟨v, x ++ [w], by rw [e, List.append_assoc], hm, .inr ha⟩
      · obtain ⟨r, er, har⟩ := anyAt_some ha
        have h1 : Mj ps (p + 1) (u ++ [w]) := ⟨r, v, x ++ [w], er, by rw [e, List.append_assoc], hm, .inl har⟩
        have ap := a.1
        exact ⟨u ++ [w], [], by simp, h1.anys ⟨by omega, fun q h1 h2 => a.2 q (by omega) h2⟩, .inl rfl⟩
    · have hx0 : x = [] := by
        rcases hx with h | h
        · exact h
        · obtain ⟨r', e', h'⟩ := anyAt_some h
          rw [er] at e'
          cases e'
          rw [hn] at h'; cases h'
      subst hx0
      rw [List.append_nil] at e
      have h1 : Mj ps (p' + 1) (u ++ [w]) := ⟨r, u, [w], er, rfl, by rw [e]; exact hm, .inr ⟨hn, w, rfl, ht⟩⟩
      exact ⟨u ++ [w], [], by simp, h1.anys a, .inl rfl⟩
theorem runF_snoc (ps : List RP) (u : List PySem.Str) (w : PySem.Str) : runF ps (u ++ [w]) = stF ps (runF ps u) w := by
  unfold runF; rw [List.foldl_append]; rfl
theorem snoc_ind {α : Type} {P : List α → Prop} (h0 : P []) (h1 : ∀ u w, P u → P (u ++ [w])) (u : List α) : P u := by
  have : ∀ n (u : List α), u.length = n → P u := by
    intro n
    induction n with
    | zero => intro u hu; rw [List.length_eq_zero_iff.mp hu]; exact h0
    | succ n ih =>
      intro u hu
      have hne : u ≠ [] := by intro e; rw [e] at hu; cases hu
      rw [← List.dropLast_concat_getLast hne]
      exact h1 _ _ (ih _ (by simp [hu]))
  exact this _ u rfl
theorem runF_mem {ps : List RP} (u : List PySem.Str) : ∀ j, j ∈ runF ps u ↔ Rc ps u j := by
  refine snoc_ind (P := fun u => ∀ j, j ∈ runF ps u ↔ Rc ps u j) ?_ ?_ u
  · intro j
    show j ∈ clF ps [0] ↔ _
    rw [clF_cl j]
    constructor
    · rintro ⟨p, hp, h⟩
      rw [List.mem_singleton.mp hp] at h
      exact ⟨[], [], rfl, Mj.nil.mpr h, .inl rfl⟩
    · rintro ⟨v, x, e, hm, hx⟩
      obtain ⟨rfl, rfl⟩ := List.append_eq_nil_iff.mp e.symm
      exact ⟨0, List.mem_singleton.mpr rfl, Mj.nil.mp hm⟩
  · intro u w ih j
    rw [runF_snoc, Rc_snoc]
    unfold stF
    rw [clF_cl j]
    constructor
    · rintro ⟨p, hp, a⟩
      refine ⟨p, ?_, a⟩
      rcases bhF_mem.mp hp with ⟨h1, h2⟩ | ⟨p', r, h1, h2⟩
      · exact .inl ⟨(ih p).mp h1, h2⟩
      · exact .inr ⟨p', r, (ih p').mp h1, h2⟩
    · rintro ⟨p, hp, a⟩
      refine ⟨p, bhF_mem.mpr ?_, a⟩
      rcases hp with ⟨h1, h2⟩ | ⟨p', r, h1, h2⟩
      · exact .inl ⟨(ih p).mpr h1, h2⟩
      · exact .inr ⟨p', r, (ih p').mpr h1, h2⟩
/-- whether a pattern fits words -/
def accB (ps : List RP) (u : List PySem.Str) : Bool := (runF ps u).contains ps.length
theorem accB_iff {ps : List RP} {u : List PySem.Str} : accB ps u = true ↔ Mj ps ps.length u := by
  unfold accB
  rw [List.contains_iff_mem, runF_mem]
  constructor
  · rintro ⟨v, x, e, hm, hx⟩
    rcases hx with h | h
    · subst h; rw [e, List.append_nil]; exact hm
    · have := anyAt_lt h; omega
  · intro h; exact ⟨u, [], by simp, h, .inl rfl⟩
/-! ### the law's own way -/
/-- the places in words behind a part -/
def laF (r : RP) (ws : List PySem.Str) (here : List Nat) : List Nat := here.flatMap fun i => if isAny r then (List.range (ws.length + 1 - i)).map fun k => i + k else match ws[i]? with | some w => if takesB r w then [i + 1] else [] | none => []
def heF (ws : List PySem.Str) (ps : List RP) : List Nat := ps.foldl (fun here r => srtN (laF r ws here)) [0]
theorem laF_mem {r : RP} {ws : List PySem.Str} {here : List Nat} {k : Nat} : k ∈ laF r ws here ↔ ∃ i ∈ here, (isAny r = true ∧ i ≤ k ∧ k < ws.length + 1) ∨ (isAny r = false ∧ k = i + 1 ∧ ∃ w, ws[i]? = some w ∧ takesB r w = true) := by
  unfold laF
  rw [List.mem_flatMap]
  constructor
  · rintro ⟨i, hi, h⟩
    refine ⟨i, hi, ?_⟩
    by_cases ha : isAny r = true
    · rw [if_pos ha] at h
      obtain ⟨q, hq, rfl⟩ := List.mem_map.mp h
      have := List.mem_range.mp hq
      exact .inl ⟨ha, by omega, by omega⟩
    · rw [if_neg ha] at h
      cases e : ws[i]? with
      | none => rw [e] at h; simp at h
      | some w =>
        rw [e] at h
        simp only at h
        by_cases ht : takesB r w = true
        · rw [if_pos ht] at h
          exact .inr ⟨by simpa using ha, List.mem_singleton.mp h, w, rfl, ht⟩
        · rw [if_neg ht] at h; simp at h
  · rintro ⟨i, hi, ⟨ha, h1, h2⟩ | ⟨ha, rfl, w, e, ht⟩⟩
    · refine ⟨i, hi, ?_⟩
      rw [if_pos ha]
      exact List.mem_map.mpr ⟨k - i, List.mem_range.mpr (by omega), by omega⟩
    · refine ⟨i, hi, ?_⟩
      rw [if_neg (by rw [ha]; simp), e]
      simp [ht]
theorem heF_snoc (ws : List PySem.Str) (ps : List RP) (r : RP) : heF ws (ps ++ [r]) = srtN (laF r ws (heF ws ps)) := by
  unfold heF; rw [List.foldl_append]; rfl
theorem Mj_take {ps qs : List RP} : ∀ {j : Nat} {u : List PySem.Str}, j ≤ ps.length → (Mj (ps ++ qs) j u ↔ Mj ps j u)
  | 0, u, _ => Iff.rfl
  | j + 1, u, h => by
    show (∃ r v x, (ps ++ qs)[j]? = some r ∧ u = v ++ x ∧ Mj (ps ++ qs) j v ∧ Px r x) ↔ ∃ r v x, ps[j]? = some r ∧ u = v ++ x ∧ Mj ps j v ∧ Px r x
    have e : (ps ++ qs)[j]? = ps[j]? := List.getElem?_append_left (by omega)
    rw [e]
    constructor
    · rintro ⟨r, v, x, h1, h2, h3, h4⟩; exact ⟨r, v, x, h1, h2, (Mj_take (by omega)).mp h3, h4⟩
    · rintro ⟨r, v, x, h1, h2, h3, h4⟩; exact ⟨r, v, x, h1, h2, (Mj_take (by omega)).mpr h3, h4⟩
theorem heF_mem {ws : List PySem.Str} (ps : List RP) : ∀ k, k ∈ heF ws ps ↔ k ≤ ws.length ∧ Mj ps ps.length (ws.take k) := by
  refine snoc_ind (P := fun ps => ∀ k, k ∈ heF ws ps ↔ k ≤ ws.length ∧ Mj ps ps.length (ws.take k)) ?_ ?_ ps
  · intro k
    show k ∈ [0] ↔ k ≤ ws.length ∧ ws.take k = []
    rw [List.mem_singleton, List.take_eq_nil_iff]
    constructor
    · intro e; exact ⟨by omega, .inl e⟩
    · rintro ⟨h, e | e⟩
      · exact e
      · rw [e] at h; simp at h; exact h
  · intro ps r ih k
    rw [heF_snoc, srtU_mem, laF_mem]
    have el : (ps ++ [r]).length = ps.length + 1 := by simp
    have er : (ps ++ [r])[ps.length]? = some r := by simp
    rw [el]
    constructor
    · rintro ⟨i, hi, h⟩
      obtain ⟨h1, h2⟩ := (ih i).mp hi
      rcases h with ⟨ha, h3, h4⟩ | ⟨ha, rfl, w, e, ht⟩
      · refine ⟨by omega, r, ws.take i, (ws.take k).drop i, er, ?_, (Mj_take (Nat.le_refl _)).mpr h2, .inl ha⟩
        have : ws.take i = (ws.take k).take i := by rw [List.take_take, Nat.min_eq_left h3]
        rw [this, List.take_append_drop]
      · have hlt := (List.getElem?_eq_some_iff.mp e).1
        refine ⟨by omega, r, ws.take i, [w], er, ?_, (Mj_take (Nat.le_refl _)).mpr h2, .inr ⟨ha, w, rfl, ht⟩⟩
        rw [List.take_add_one, e]; rfl
    · rintro ⟨hk, r', v, x, e1, e2, h3, h4⟩
      rw [er] at e1
      cases e1
      have h3' := (Mj_take (Nat.le_refl _)).mp h3
      have hv : v = ws.take v.length := by
        have : v = (ws.take k).take v.length := by rw [e2]; simp
        rw [List.take_take] at this
        have hle : v.length ≤ k := by
          have := congrArg List.length e2
          simp only [List.length_append, List.length_take] at this
          omega
        rw [Nat.min_eq_left hle] at this
        exact this
      have hle : v.length + x.length = k := by
        have := congrArg List.length e2
        simp only [List.length_append, List.length_take] at this
        omega
      refine ⟨v.length, (ih _).mpr ⟨by omega, by rw [← hv]; exact h3'⟩, ?_⟩
      rcases h4 with ha | ⟨ha, w, rfl, ht⟩
      · exact .inl ⟨ha, by omega, by omega⟩
      · refine .inr ⟨ha, by simp at hle; omega, w, ?_, ht⟩
        have hlt : v.length < ws.length := by simp at hle; omega
        have e3 : ws.take k = ws.take v.length ++ [w] := by rw [← hv]; exact e2
        have hk1 : k = v.length + 1 := by simp at hle; omega
        rw [hk1, List.take_add_one, List.getElem?_eq_getElem hlt] at e3
        have := List.append_cancel_left e3
        rw [List.getElem?_eq_getElem hlt]
        simpa using this
theorem fits_eq (ps : List RP) (ws : List PySem.Str) : (heF ws ps).contains ws.length = accB ps ws := by
  rw [Bool.eq_iff_iff, List.contains_iff_mem, heF_mem, accB_iff]
  simp
/-! ### match -/
theorem Mj_cons {r : RP} {ps : List RP} : ∀ {j : Nat} {u : List PySem.Str}, Mj (r :: ps) (j + 1) u ↔ ∃ v x, u = v ++ x ∧ Px r v ∧ Mj ps j x
  | 0, u => by
    constructor
    · rintro ⟨r', v, x, e, h1, h2, h3⟩
      have hv : v = [] := h2
      subst hv
      simp at e
      subst e
      exact ⟨x, [], by simpa using h1, h3, rfl⟩
    · rintro ⟨v, x, h1, h2, h3⟩
      have hx : x = [] := h3
      subst hx
      exact ⟨r, [], v, rfl, by simpa using h1, rfl, h2⟩
  | j + 1, u => by
    constructor
    · rintro ⟨r', v, x, e, h1, h2, h3⟩
      obtain ⟨v1, x1, e1, p1, m1⟩ := Mj_cons.mp h2
      refine ⟨v1, x1 ++ x, by rw [h1, e1, List.append_assoc], p1, r', x1, x, by simpa using e, rfl, m1, h3⟩
    · rintro ⟨v, x, h1, h2, r', x1, x2, e, e1, m1, p1⟩
      exact ⟨r', v ++ x1, x2, by simpa using e, by rw [h1, e1, List.append_assoc], Mj_cons.mpr ⟨v, x1, rfl, h2, m1⟩, p1⟩
theorem mfL_iff : ∀ (ps : List RP) (u : List PySem.Str), (mfL ps u).isSome = true ↔ Mj ps ps.length u
  | [], u => by
    simp only [mfL]
    show _ ↔ u = []
    by_cases h : u = []
    · simp [h]
    · simp [h]
  | r :: ps, u => by
    show _ ↔ Mj (r :: ps) (ps.length + 1) u
    rw [Mj_cons]
    simp only [mfL]
    by_cases ha : r.kind = "any"
    · have ha' : isAny r = true := by unfold isAny; exact decide_eq_true ha
      rw [if_pos ha]
      constructor
      · intro h
        obtain ⟨res, hres⟩ := Option.isSome_iff_exists.mp h
        obtain ⟨k, hk, hk2⟩ := List.exists_of_findSome?_eq_some hres
        obtain ⟨r1, h1, h2⟩ := Option.map_eq_some_iff.mp hk2
        exact ⟨u.take k, u.drop k, (List.take_append_drop _ _).symm, .inl ha', (mfL_iff ps _).mp (by rw [h1]; rfl)⟩
      · rintro ⟨v, x, rfl, _, hm⟩
        rw [List.findSome?_isSome_iff]
        refine ⟨v.length, List.mem_range.mpr (by simp only [List.length_append]; omega), ?_⟩
        rw [List.drop_left, Option.isSome_map]
        exact (mfL_iff ps _).mpr hm
    · have ha' : isAny r = false := by unfold isAny; exact decide_eq_false ha
      rw [if_neg ha]
      cases u with
      | nil =>
        constructor
        · intro h; cases h
        · rintro ⟨v, x, e, hp, _⟩
          obtain ⟨rfl, rfl⟩ := List.append_eq_nil_iff.mp e.symm
          rcases hp with h | ⟨_, w, h, _⟩
          · rw [ha'] at h; cases h
          · cases h
      | cons w u =>
        simp only
        constructor
        · intro h
          by_cases ht : takesB r w = true
          · rw [if_pos ht, Option.isSome_map] at h
            exact ⟨[w], u, rfl, .inr ⟨ha', w, rfl, ht⟩, (mfL_iff ps _).mp h⟩
          · rw [if_neg ht] at h; cases h
        · rintro ⟨v, x, e, hp, hm⟩
          rcases hp with h | ⟨_, w', rfl, ht⟩
          · rw [ha'] at h; cases h
          · simp at e
            obtain ⟨rfl, rfl⟩ := e
            rw [if_pos ht, Option.isSome_map]
            exact (mfL_iff ps _).mpr hm
theorem mfL_acc (ps : List RP) (u : List PySem.Str) : (mfL ps u).isSome = accB ps u := by
  rw [Bool.eq_iff_iff, mfL_iff, accB_iff]
end M
namespace M
open PySem PySem.Spec PyProof.Rows L2
/-! ### searching in breadth -/
section
variable {S α : Type} [DecidableEq S] [DecidableEq α]
def cod (ws : List α) (u : List α) : Nat := u.foldl (fun c w => c * ws.length + (ws.idxOf w + 1)) 0
theorem cod_snoc (ws u : List α) (w : α) : cod ws (u ++ [w]) = cod ws u * ws.length + (ws.idxOf w + 1) := by
  unfold cod; rw [List.foldl_append]; rfl
def Over (ws u : List α) : Prop := ∀ w ∈ u, w ∈ ws
theorem Over.nil {ws : List α} : Over ws [] := fun w h => by simp at h
theorem Over.snoc {ws u : List α} {w : α} : Over ws (u ++ [w]) ↔ Over ws u ∧ w ∈ ws := by
  unfold Over
  constructor
  · intro h; exact ⟨fun x hx => h x (List.mem_append_left _ hx), h w (by simp)⟩
  · rintro ⟨h1, h2⟩ x hx
    rcases List.mem_append.mp hx with h | h
    · exact h1 x h
    · rw [List.mem_singleton.mp h]; exact h2
def loC (m : Nat) : Nat → Nat
  | 0 => 0
  | k + 1 => loC m k * m + 1
theorem cod_range {ws : List α} (u : List α) : Over ws u → loC ws.length u.length ≤ cod ws u ∧ cod ws u < loC ws.length (u.length + 1) := by
  refine snoc_ind (P := fun u => Over ws u → loC ws.length u.length ≤ cod ws u ∧ cod ws u < loC ws.length (u.length + 1)) ?_ ?_ u
  · intro _
    exact ⟨Nat.le_refl _, by simp [loC, cod]⟩
  · intro u w ih h
    obtain ⟨h1, h2⟩ := Over.snoc.mp h
    obtain ⟨a, b⟩ := ih h1
    rw [cod_snoc, List.length_append, List.length_singleton]
    have hi : ws.idxOf w < ws.length := List.idxOf_lt_length_iff.mpr h2
    constructor
    · show loC ws.length u.length * ws.length + 1 ≤ _
      have := Nat.mul_le_mul_right ws.length a
      omega
    · show _ < loC ws.length (u.length + 1) * ws.length + 1
      have hb : cod ws u + 1 ≤ loC ws.length (u.length + 1) := b
      have := Nat.mul_le_mul_right ws.length hb
      rw [Nat.add_mul] at this
      omega
theorem loC_mono {m : Nat} (hm : 1 ≤ m) : ∀ {i j : Nat}, i ≤ j → loC m i ≤ loC m j := by
  intro i j h
  induction j with
  | zero => have : i = 0 := by omega
            rw [this]; exact Nat.le_refl _
  | succ j ih =>
    by_cases e : i = j + 1
    · rw [e]; exact Nat.le_refl _
    · have h1 := ih (by omega)
      show _ ≤ loC m j * m + 1
      have := Nat.le_mul_of_pos_right (loC m j) (show 0 < m from hm)
      omega
theorem cod_len {ws u v : List α} (hu : Over ws u) (hv : Over ws v) (h : u.length < v.length) : cod ws u < cod ws v := by
  have hm : 1 ≤ ws.length := by
    cases v with
    | nil => simp at h
    | cons x v => exact List.length_pos_of_mem (hv x List.mem_cons_self)
  have a := (cod_range u hu).2
  have b := (cod_range v hv).1
  have := loC_mono hm (show u.length + 1 ≤ v.length from h)
  omega
theorem cod_le_len {ws u v : List α} (hu : Over ws u) (hv : Over ws v) (h : cod ws u ≤ cod ws v) : u.length ≤ v.length := by
  by_cases e : u.length ≤ v.length
  · exact e
  · have := cod_len hv hu (by omega); omega
theorem idx_inj {ws : List α} {a b : α} (ha : a ∈ ws) (hb : b ∈ ws) (h : ws.idxOf a = ws.idxOf b) : a = b := by
  have h1 : ws[ws.idxOf a]? = some a := by
    rw [List.getElem?_eq_getElem (List.idxOf_lt_length_iff.mpr ha)]
    simp
  have h2 : ws[ws.idxOf b]? = some b := by
    rw [List.getElem?_eq_getElem (List.idxOf_lt_length_iff.mpr hb)]
    simp
  rw [h, h2] at h1
  exact (Option.some.inj h1).symm
theorem cod_inj {ws : List α} (u : List α) : ∀ v, Over ws u → Over ws v → cod ws u = cod ws v → u = v := by
  refine snoc_ind (P := fun u => ∀ v, Over ws u → Over ws v → cod ws u = cod ws v → u = v) ?_ ?_ u
  · intro v hu hv h
    have := cod_le_len hv hu (by omega)
    simp at this
    exact this.symm
  · intro u w ih v hu hv h
    have hl : v.length = (u ++ [w]).length := Nat.le_antisymm (cod_le_len hv hu (by omega)) (cod_le_len hu hv (by omega))
    have hne : v ≠ [] := by intro e; rw [e] at hl; simp at hl
    have ev := (List.dropLast_concat_getLast hne).symm
    generalize v.dropLast = v' at ev
    generalize v.getLast hne = w' at ev
    subst ev
    obtain ⟨h1, h2⟩ := Over.snoc.mp hu
    obtain ⟨h3, h4⟩ := Over.snoc.mp hv
    rw [cod_snoc, cod_snoc] at h
    have i1 : ws.idxOf w < ws.length := List.idxOf_lt_length_iff.mpr h2
    have i2 : ws.idxOf w' < ws.length := List.idxOf_lt_length_iff.mpr h4
    have e1 : cod ws u = cod ws v' := by
      by_cases c : cod ws u < cod ws v'
      · have := Nat.mul_le_mul_right ws.length (show cod ws u + 1 ≤ cod ws v' from c)
        rw [Nat.add_mul] at this; omega
      · by_cases c2 : cod ws v' < cod ws u
        · have := Nat.mul_le_mul_right ws.length (show cod ws v' + 1 ≤ cod ws u from c2)
          rw [Nat.add_mul] at this; omega
        · omega
    have e2 : ws.idxOf w = ws.idxOf w' := by rw [e1] at h; omega
    rw [ih v' h1 h3 e1, idx_inj h2 h4 e2]
/-! #### one level -/
variable (δ : S → α → S)
def ex1 (a : List S × List (S × List α)) (sr : S × List α) (w : α) : List S × List (S × List α) :=
  if a.1.contains (δ sr.1 w) then a else (a.1 ++ [δ sr.1 w], a.2 ++ [(δ sr.1 w, sr.2 ++ [w])])
def exR (ws : List α) (a : List S × List (S × List α)) (sr : S × List α) : List S × List (S × List α) := ws.foldl (fun a w => ex1 δ a sr w) a
def exL (ws : List α) (seen : List S) (level : List (S × List α)) : List S × List (S × List α) := level.foldl (exR δ ws) (seen, [])
structure Bf (ws : List α) (s0 : S) (ok : S → Bool) (k : Nat) (dn lv : List (S × List α)) (sn : List S) : Prop where
  seen : sn = (dn ++ lv).map (·.1)
  nd : sn.Nodup
  rn : ∀ x ∈ dn ++ lv, x.1 = x.2.foldl δ s0 ∧ Over ws x.2
  nok : ∀ x ∈ dn, ok x.1 = false
  dl : ∀ x ∈ dn, x.2.length < k
  ll : ∀ x ∈ lv, x.2.length = k
  cl : ∀ x ∈ dn, ∀ w ∈ ws, ∃ y ∈ dn ++ lv, y.1 = δ x.1 w ∧ cod ws y.2 ≤ cod ws (x.2 ++ [w])
  so : lv.Pairwise fun x y => cod ws x.2 < cod ws y.2
  st : (s0, []) ∈ dn ++ lv
variable {δ}
theorem Bf.start {ws : List α} {s0 : S} {ok : S → Bool} : Bf δ ws s0 ok 0 [] [(s0, [])] [s0] where
  seen := rfl
  nd := by simp
  rn := fun x hx => by simp at hx; subst hx; exact ⟨rfl, Over.nil⟩
  nok := fun x hx => by simp at hx
  dl := fun x hx => by simp at hx
  ll := fun x hx => by simp at hx; subst hx; rfl
  cl := fun x hx => by simp at hx
  so := by simp
  st := by simp
theorem Bf.reach {ws : List α} {s0 : S} {ok : S → Bool} {k : Nat} {dn lv : List (S × List α)} {seen : List S} (B : Bf δ ws s0 ok k dn lv seen) (u : List α) : Over ws u →
    (∃ y ∈ dn ++ lv, y.1 = u.foldl δ s0 ∧ cod ws y.2 ≤ cod ws u) ∨ ∃ u' z, u = u' ++ z ∧ z ≠ [] ∧ ∃ y ∈ lv, cod ws y.2 ≤ cod ws u' := by
  refine snoc_ind (P := fun u => Over ws u → (∃ y ∈ dn ++ lv, y.1 = u.foldl δ s0 ∧ cod ws y.2 ≤ cod ws u) ∨ ∃ u' z, u = u' ++ z ∧ z ≠ [] ∧ ∃ y ∈ lv, cod ws y.2 ≤ cod ws u') ?_ ?_ u
  · intro _
    exact .inl ⟨_, B.st, rfl, Nat.le_refl _⟩
  · intro u w ih h
    obtain ⟨h1, h2⟩ := Over.snoc.mp h
    rcases ih h1 with ⟨y, hy, e, c⟩ | ⟨u', z, rfl, hz, y, hy, c⟩
    · rcases List.mem_append.mp hy with m | m
      · obtain ⟨y', hy', e', c'⟩ := B.cl y m w h2
        refine .inl ⟨y', hy', by rw [e', e, List.foldl_append]; rfl, Nat.le_trans c' ?_⟩
        rw [cod_snoc, cod_snoc]
        have := Nat.mul_le_mul_right ws.length c
        omega
      · exact .inr ⟨u, [w], rfl, by simp, y, m, c⟩
    · exact .inr ⟨u', z ++ [w], by rw [List.append_assoc], by simp, y, hy, c⟩
theorem Bf.none {ws : List α} {s0 : S} {ok : S → Bool} {k : Nat} {dn : List (S × List α)} {seen : List S} (B : Bf δ ws s0 ok k dn [] seen) (u : List α) (hu : Over ws u) : ok (u.foldl δ s0) = false := by
  rcases B.reach u hu with ⟨y, hy, e, _⟩ | ⟨_, _, _, _, y, hy, _⟩
  · rw [List.append_nil] at hy
    rw [← e]; exact B.nok y hy
  · simp at hy
theorem Bf.some {ws : List α} {s0 : S} {ok : S → Bool} {k i : Nat} {dn lv : List (S × List α)} {seen : List S} {x : S × List α} (B : Bf δ ws s0 ok k dn lv seen) (hx : lv[i]? = some x) (hok : ok x.1 = true) (hb : ∀ j y, j < i → lv[j]? = some y → ok y.1 = false) :
    Over ws x.2 ∧ ok (x.2.foldl δ s0) = true ∧ ∀ u, Over ws u → ok (u.foldl δ s0) = true → cod ws x.2 ≤ cod ws u := by
  have hm : x ∈ lv := List.mem_of_getElem? hx
  obtain ⟨e1, o1⟩ := B.rn x (List.mem_append_right _ hm)
  refine ⟨o1, by rw [← e1]; exact hok, fun u hu hok2 => ?_⟩
  rcases B.reach u hu with ⟨y, hy, e, c⟩ | ⟨u', z, rfl, hz, y, hy, c⟩
  · rcases List.mem_append.mp hy with m | m
    · have := B.nok y m
      rw [e, hok2] at this; cases this
    · obtain ⟨j, hj⟩ := List.getElem?_of_mem m
      have hij : i ≤ j := by
        by_cases q : i ≤ j
        · exact q
        · have := hb j y (by omega) hj
          rw [e, hok2] at this; cases this
      by_cases q : i = j
      · subst q
        rw [hx] at hj; cases hj; exact c
      · obtain ⟨h1, g1⟩ := List.getElem?_eq_some_iff.mp hx
        obtain ⟨h2, g2⟩ := List.getElem?_eq_some_iff.mp hj
        have := List.pairwise_iff_getElem.mp B.so i j h1 h2 (by omega)
        rw [g1, g2] at this
        omega
  · have hu' : Over ws u' := fun w hw => hu w (List.mem_append_left _ hw)
    have oy := (B.rn y (List.mem_append_right _ hy)).2
    have l1 := cod_le_len oy hu' c
    have l2 := B.ll y hy
    have l3 := B.ll x hm
    have l4 : 0 < z.length := List.length_pos_iff.mpr hz
    exact Nat.le_of_lt (cod_len o1 hu (by rw [List.length_append]; omega))
/-! #### the next level -/
structure Mid (δ : S → α → S) (ws : List α) (s0 : S) (reps : List (S × List α)) (b : Nat) (a : List S × List (S × List α)) : Prop where
  seen : a.1 = (reps ++ a.2).map (·.1)
  nd : a.1.Nodup
  rn : ∀ x ∈ a.2, x.1 = x.2.foldl δ s0 ∧ Over ws x.2
  so : a.2.Pairwise fun x y => cod ws x.2 < cod ws y.2
  top : ∀ x ∈ a.2, cod ws x.2 < b
theorem Mid.up {ws : List α} {s0 : S} {reps : List (S × List α)} {b b' : Nat} {a : List S × List (S × List α)} (h : Mid δ ws s0 reps b a) (hb : b ≤ b') : Mid δ ws s0 reps b' a :=
  ⟨h.seen, h.nd, h.rn, h.so, fun x hx => Nat.lt_of_lt_of_le (h.top x hx) hb⟩
theorem Mid.step {ws : List α} {s0 : S} {reps : List (S × List α)} {k : Nat} {a : List S × List (S × List α)} {sr : S × List α} {w : α} (hre : ∀ x ∈ reps, x.2.length ≤ k ∧ Over ws x.2) (hk : sr.2.length = k) (hs : sr.1 = sr.2.foldl δ s0) (ho : Over ws sr.2) (hw : w ∈ ws)
    (h : Mid δ ws s0 reps (cod ws (sr.2 ++ [w])) a) : Mid δ ws s0 reps (cod ws (sr.2 ++ [w]) + 1) (ex1 δ a sr w) ∧ (∃ y ∈ reps ++ (ex1 δ a sr w).2, y.1 = δ sr.1 w ∧ cod ws y.2 ≤ cod ws (sr.2 ++ [w])) ∧ (∀ x ∈ a.2, x ∈ (ex1 δ a sr w).2) ∧ ∀ x ∈ (ex1 δ a sr w).2, x ∈ a.2 ∨ x.2.length = k + 1 := by
  have how : Over ws (sr.2 ++ [w]) := Over.snoc.mpr ⟨ho, hw⟩
  unfold ex1
  by_cases hc : a.1.contains (δ sr.1 w) = true
  · rw [if_pos hc]
    refine ⟨h.up (Nat.le_succ _), ?_, fun x hx => hx, fun x hx => .inl hx⟩
    have hm := List.contains_iff_mem.mp hc
    rw [h.seen] at hm
    obtain ⟨y, hy, e⟩ := List.mem_map.mp hm
    refine ⟨y, hy, e, ?_⟩
    rcases List.mem_append.mp hy with m | m
    · obtain ⟨l, o⟩ := hre y m
      exact Nat.le_of_lt (cod_len o how (by rw [List.length_append]; simp; omega))
    · exact Nat.le_of_lt (h.top y m)
  · rw [if_neg hc]
    have hnm : δ sr.1 w ∉ a.1 := fun z => hc (List.contains_iff_mem.mpr z)
    refine ⟨⟨?_, ?_, ?_, ?_, ?_⟩, ?_, fun x hx => List.mem_append_left _ hx, ?_⟩
    · show a.1 ++ [δ sr.1 w] = _
      rw [h.seen]; simp
    · show (a.1 ++ [δ sr.1 w]).Nodup
      rw [List.nodup_append]
      refine ⟨h.nd, by simp, fun x hx y hy e => ?_⟩
      rw [List.mem_singleton.mp hy] at e
      subst e; exact hnm hx
    · intro x hx
      rcases List.mem_append.mp hx with m | m
      · exact h.rn x m
      · rw [List.mem_singleton.mp m]
        exact ⟨by show δ sr.1 w = _; rw [hs, List.foldl_append]; rfl, how⟩
    · show (a.2 ++ [(δ sr.1 w, sr.2 ++ [w])]).Pairwise _
      rw [List.pairwise_append]
      refine ⟨h.so, by simp, fun x hx y hy => ?_⟩
      rw [List.mem_singleton.mp hy]
      exact h.top x hx
    · intro x hx
      rcases List.mem_append.mp hx with m | m
      · have := h.top x m; omega
      · rw [List.mem_singleton.mp m]; exact Nat.lt_succ_self _
    · exact ⟨(δ sr.1 w, sr.2 ++ [w]), List.mem_append_right _ (List.mem_append_right _ (by simp)), rfl, Nat.le_refl _⟩
    · intro x hx
      rcases List.mem_append.mp hx with m | m
      · exact .inl m
      · rw [List.mem_singleton.mp m]
        exact .inr (by show (sr.2 ++ [w]).length = _; simp [hk])
/-- along the words -/
theorem Mid.row {ws : List α} (nd : ws.Nodup) {s0 : S} {reps : List (S × List α)} {k : Nat} {sr : S × List α} (hre : ∀ x ∈ reps, x.2.length ≤ k ∧ Over ws x.2) (hk : sr.2.length = k) (hs : sr.1 = sr.2.foldl δ s0) (ho : Over ws sr.2) :
    ∀ (vs pre : List α) (a : List S × List (S × List α)), pre ++ vs = ws → Mid δ ws s0 reps (cod ws sr.2 * ws.length + pre.length + 1) a →
      Mid δ ws s0 reps (cod ws sr.2 * ws.length + ws.length + 1) (vs.foldl (fun a w => ex1 δ a sr w) a) ∧ (∀ w ∈ vs, ∃ y ∈ reps ++ (vs.foldl (fun a w => ex1 δ a sr w) a).2, y.1 = δ sr.1 w ∧ cod ws y.2 ≤ cod ws (sr.2 ++ [w])) ∧
      (∀ x ∈ a.2, x ∈ (vs.foldl (fun a w => ex1 δ a sr w) a).2) ∧ ∀ x ∈ (vs.foldl (fun a w => ex1 δ a sr w) a).2, x ∈ a.2 ∨ x.2.length = k + 1
  | [], pre, a, e, h => by
    have : pre.length = ws.length := by rw [← e]; simp
    rw [this] at h
    exact ⟨h, fun w hw => by simp at hw, fun x hx => hx, fun x hx => .inl hx⟩
  | w :: vs, pre, a, e, h => by
    have hw : w ∈ ws := by rw [← e]; simp
    have hi : ws.idxOf w = pre.length := by
      rw [← e] at nd
      have hnp : w ∉ pre := fun z => (List.nodup_append.mp nd).2.2 w z w List.mem_cons_self rfl
      rw [← e, List.idxOf_append, if_neg hnp]
      simp
    have ec : cod ws (sr.2 ++ [w]) = cod ws sr.2 * ws.length + pre.length + 1 := by rw [cod_snoc, hi]; omega
    rw [← ec] at h
    obtain ⟨h1, h2, h3, h4⟩ := Mid.step hre hk hs ho hw h
    rw [ec] at h1
    obtain ⟨g1, g2, g3, g4⟩ := Mid.row nd hre hk hs ho vs (pre ++ [w]) (ex1 δ a sr w) (by rw [← e]; simp) (by simpa [Nat.add_assoc] using h1)
    refine ⟨g1, fun w' hw' => ?_, fun x hx => g3 x (h3 x hx), fun x hx => ?_⟩
    · rcases List.mem_cons.mp hw' with q | q
      · subst q
        obtain ⟨y, hy, e1, c⟩ := h2
        refine ⟨y, ?_, e1, c⟩
        rcases List.mem_append.mp hy with m | m
        · exact List.mem_append_left _ m
        · exact List.mem_append_right _ (g3 y m)
      · exact g2 w' q
    · rcases g4 x hx with m | m
      · exact h4 x m
      · exact .inr m
theorem Mid.level {ws : List α} (nd : ws.Nodup) {s0 : S} {reps : List (S × List α)} {k : Nat} (hre : ∀ x ∈ reps, x.2.length ≤ k ∧ Over ws x.2) :
    ∀ (lv : List (S × List α)) (b : Nat) (a : List S × List (S × List α)), (∀ x ∈ lv, x.2.length = k ∧ x.1 = x.2.foldl δ s0 ∧ Over ws x.2 ∧ b ≤ cod ws x.2) → (lv.Pairwise fun x y => cod ws x.2 < cod ws y.2) → Mid δ ws s0 reps (b * ws.length + 1) a →
      (∃ b', Mid δ ws s0 reps b' (lv.foldl (exR δ ws) a)) ∧ (∀ x ∈ lv, ∀ w ∈ ws, ∃ y ∈ reps ++ (lv.foldl (exR δ ws) a).2, y.1 = δ x.1 w ∧ cod ws y.2 ≤ cod ws (x.2 ++ [w])) ∧
      (∀ x ∈ a.2, x ∈ (lv.foldl (exR δ ws) a).2) ∧ ∀ x ∈ (lv.foldl (exR δ ws) a).2, x ∈ a.2 ∨ x.2.length = k + 1
  | [], b, a, _, _, h => ⟨⟨_, h⟩, fun x hx => by simp at hx, fun x hx => hx, fun x hx => .inl hx⟩
  | sr :: lv, b, a, hl, so, h => by
    obtain ⟨k1, k2, k3, k4⟩ := hl sr List.mem_cons_self
    obtain ⟨s1, s2⟩ := List.pairwise_cons.mp so
    have hb : b * ws.length + 1 ≤ cod ws sr.2 * ws.length + ([] : List α).length + 1 := by
      have := Nat.mul_le_mul_right ws.length k4
      simp; omega
    obtain ⟨r1, r2, r3, r4⟩ := Mid.row nd hre k1 k2 k3 ws [] a (by simp) (h.up hb)
    obtain ⟨g1, g2, g3, g4⟩ := Mid.level nd hre lv (cod ws sr.2 + 1) (exR δ ws a sr) (fun x hx => by
      obtain ⟨l1, l2, l3, _⟩ := hl x (List.mem_cons_of_mem _ hx)
      exact ⟨l1, l2, l3, s1 x hx⟩) s2 (by
      have : (cod ws sr.2 + 1) * ws.length + 1 = cod ws sr.2 * ws.length + ws.length + 1 := by rw [Nat.add_mul]; omega
      rw [this]; exact r1)
    refine ⟨g1, fun x hx w hw => ?_, fun x hx => g3 x (r3 x hx), fun x hx => ?_⟩
    · rcases List.mem_cons.mp hx with q | q
      · subst q
        obtain ⟨y, hy, e1, c⟩ := r2 w hw
        refine ⟨y, ?_, e1, c⟩
        rcases List.mem_append.mp hy with m | m
        · exact List.mem_append_left _ m
        · exact List.mem_append_right _ (g3 y m)
      · exact g2 x q w hw
    · rcases g4 x hx with m | m
      · exact r4 x m
      · exact .inr m
theorem Bf.next {ws : List α} (nd : ws.Nodup) {s0 : S} {ok : S → Bool} {k : Nat} {dn lv : List (S × List α)} {seen : List S} (B : Bf δ ws s0 ok k dn lv seen) (hno : ∀ x ∈ lv, ok x.1 = false) :
    Bf δ ws s0 ok (k + 1) (dn ++ lv) (exL δ ws seen lv).2 (exL δ ws seen lv).1 := by
  have hre : ∀ x ∈ dn ++ lv, x.2.length ≤ k ∧ Over ws x.2 := fun x hx => by
    refine ⟨?_, (B.rn x hx).2⟩
    rcases List.mem_append.mp hx with m | m
    · exact Nat.le_of_lt (B.dl x m)
    · exact Nat.le_of_eq (B.ll x m)
  obtain ⟨⟨b', g1⟩, g2, g3, g4⟩ := Mid.level (δ := δ) (s0 := s0) nd hre lv 0 (seen, []) (fun x hx => ⟨B.ll x hx, (B.rn x (List.mem_append_right _ hx)).1, (B.rn x (List.mem_append_right _ hx)).2, Nat.zero_le _⟩) B.so
    ⟨by simp [B.seen], B.nd, fun x hx => by simp at hx, by simp, fun x hx => by simp at hx⟩
  refine ⟨g1.seen, g1.nd, fun x hx => ?_, fun x hx => ?_, fun x hx => ?_, fun x hx => ?_, fun x hx w hw => ?_, g1.so, List.mem_append_left _ B.st⟩
  · rcases List.mem_append.mp hx with m | m
    · exact B.rn x m
    · exact g1.rn x m
  · rcases List.mem_append.mp hx with m | m
    · exact B.nok x m
    · exact hno x m
  · have := (hre x hx).1; omega
  · rcases g4 x hx with m | m
    · simp at m
    · exact m
  · rcases List.mem_append.mp hx with m | m
    · obtain ⟨y, hy, e, c⟩ := B.cl x m w hw
      exact ⟨y, List.mem_append_left _ hy, e, c⟩
    · exact g2 x m w hw
end
end M
namespace M
open PySem PySem.Spec PyProof.Rows L2
/-! ### small rules -/
theorem wd_tupOf {K : PySem.W.Frag} {n : Nat} {ms : List MV} {X : XP} {ta : WX → TE} {P : D → List MV → Prop} (h : wpD K n ta ms (fun d m1 => ∃ ds, d = .lst ds ∧ P (.tup ds) m1) X) : wpD K n (fun W => tThen (ta W) (kTup K)) ms P X := by
  intro W G F H σ gv Q hn S k x
  refine h W G F H σ gv _ hn S (fun d v m1 g1 F1 H1 ho S1 r1 e1 => ?_) x
  obtain ⟨ds, rfl, p⟩ := ho
  cases r1 with
  | lst e q =>
    rename_i a vs
    refine .inl ⟨_, vs, rfl, SqL.of (S1.f _ _ e), fun q2 hq => ?_⟩
    have S2 := S1.new (o := .tup vs) hq
    exact k _ _ m1 g1 _ _ p S2 (.tup (SqT.of upd_same) (q.up (same_new (S1.f.free hq)))) (e1.trans (same_new (S1.f.free hq)))
theorem inD_nats (x : Nat) : ∀ l : List Nat, inD (.int (x : Int)) (l.map fun i : Nat => D.int (i : Int)) = l.contains x
  | [] => by simp [inD]
  | y :: l => by
    have := inD_nats x l
    simp only [inD, List.map_cons, List.any_cons, List.contains_cons] at this ⊢
    rw [this]
    congr 1
    by_cases h : x = y
    · subst h; simp [eqD]
    · have g1 : ((y : Int) == (x : Int)) = false := by simp; omega
      have g2 : (x == y) = false := by simpa using h
      simp [eqD, g1, g2]
theorem nats_flat (l : List Nat) : (l.map fun i : Nat => D.int (i : Int)).all flat = true := by
  rw [List.all_map]; simp [List.all_eq_true, flat]
/-- the keys of found -/
def kyT (ks : List Nat) : T := .dic (ks.map fun j : Nat => (Sum.inl (j : Int), T.lf (.bl true)))
def adK (ks : List Nat) (j : Nat) : List Nat := if ks.contains j then ks else ks ++ [j]
theorem adK_mem {ks : List Nat} {j x : Nat} : x ∈ adK ks j ↔ x ∈ ks ∨ x = j := by
  unfold adK
  split
  · rename_i h
    have := List.contains_iff_mem.mp h
    constructor
    · exact .inl
    · rintro (h | rfl)
      · exact h
      · exact this
  · simp
theorem adK_nd {ks : List Nat} {j : Nat} (h : ks.Nodup) : (adK ks j).Nodup := by
  unfold adK
  split
  · exact h
  · rename_i hc
    rw [List.nodup_append]
    refine ⟨h, by simp, fun x hx y hy e => ?_⟩
    rw [List.mem_singleton.mp hy] at e
    subst e
    exact hc (List.contains_iff_mem.mpr hx)
theorem putM_ky (ks : List Nat) (j : Nat) : putM (Sum.inl (j : Int)) (T.lf (.bl true)) (ks.map fun j : Nat => ((Sum.inl (j : Int) : Key), T.lf (.bl true))) = (adK ks j).map fun j : Nat => ((Sum.inl (j : Int) : Key), T.lf (.bl true)) := by
  unfold putM adK
  have e : ((ks.map fun j : Nat => ((Sum.inl (j : Int) : Key), T.lf (.bl true))).any fun kv => decide (kv.1 = Sum.inl (j : Int))) = ks.contains j := by
    rw [List.any_map]
    induction ks with
    | nil => rfl
    | cons x ks ih =>
      simp only [List.any_cons, List.contains_cons, ih, Function.comp]
      congr 1
      by_cases h : x = j
      · subst h; simp
      · have h1 : ¬ ((Sum.inl (x : Int) : Key) = Sum.inl (j : Int)) := fun z => h (by cases z; rfl)
        have h2 : ¬ j = x := fun z => h z.symm
        simp [h1, h2]
  rw [e]
  split
  · rw [List.map_map]
    apply List.map_congr_left
    intro x _
    simp only [Function.comp]
    split
    · rename_i h; rfl
    · rfl
  · simp
def GoodPs (ps : List RP) : Prop := ps.length ≤ 6 ∧ ∀ r ∈ ps, r.ok ∧ goodPart r = true
theorem GoodPs.at {ps : List RP} (h : GoodPs ps) {i : Nat} {r : RP} (e : ps[i]? = some r) : r.ok ∧ goodPart r = true := h.2 r (List.mem_of_getElem? e)
def fs_closed (K : PySem.W.Frag) : FS := fun ms P X => ∃ ps ls, ms = [.fz (patD ps), .fz (natsD ls)] ∧ GoodPs ps ∧ ls.length ≤ 1000 ∧ (∀ x ∈ ls, x ≤ ps.length) ∧ P (.fz (rowT (clF ps ls))) ms
/-- closed: slots 0 pattern, 1 places, 2 found, 3 place -/
def t_closed (K : PySem.W.Frag) : WX → TS := fun W => (tSeq (tAsg tDNewK (gName 2)) (tSeq (tFor (iList K (tVar 1)) (gName 3) (tSeq (sDPut (tVar 2) (tVar 3) (tC (.bl true))) (tWhile (tAnd (tTest (tOp (rI0 fun i j => .bl (decide (i < j))) (tVar 3) (tCB (rLenA K) (tCons (tVar 0) tNil)))) (tTest (tOp (rEqA K) (tOp (rIxA K) (tOp (rIxA K) (tVar 0) (tVar 3)) (tC (.int 0))) (tC (.str "any"))))) (tSeq (tAsg (tOp (rAddA K) (tVar 3) (tC (.int 1))) (gName 3)) (sDPut (tVar 2) (tVar 3) (tC (.bl true))))))) (tRet (tThen (tSortKeys (tVar 2)) (kTup K)))))
theorem small_keys {ks : List Nat} {n : Nat} (nd : ks.Nodup) (h : ∀ x ∈ ks, x ≤ n) : ks.length ≤ n + 1 := by
  have := nodup_len (m := List.range (n + 1)) nd fun x hx => List.mem_range.mpr (by have := h x hx; omega)
  simpa using this
theorem h_closed {K : PySem.W.Frag} : FsOk K 2 4 (fs_closed K) (t_closed K) := by
  intro ms P X hf
  obtain ⟨ps, ls, rfl, hg, hl, hle, hP⟩ := hf
  have hl6 := hg.1
  refine ⟨rfl, ?_⟩
  unfold t_closed
  refine ws_seq (ws_setN (by decide) (wn_dic0 fun p => ?_))
  refine ws_cut (fun m => ∃ ks z, m = [.fz (patD ps), .fz (natsD ls), .ot p (kyT ks), z] ∧ ks.Nodup ∧ (∀ x, x ∈ ks ↔ ∃ q ∈ ls, Anys ps q x) ∧ ∀ x ∈ ks, x ≤ ps.length) ?_ ?_
  · refine ws_for (wi_list (wd_var rfl (by decide) ⟨_, rfl, ?_⟩))
    refine ⟨fun i m => ∃ ks z, m = [.fz (patD ps), .fz (natsD ls), .ot p (kyT ks), z] ∧ ks.Nodup ∧ (∀ x, x ∈ ks ↔ ∃ q ∈ ls.take i, Anys ps q x) ∧ ∀ x ∈ ks, x ≤ ps.length, ⟨[], _, rfl, by simp, by simp, by simp⟩, ?_, ?_⟩
    · rintro i d mm hd ⟨ks, z, rfl, nd, hk, hb⟩
      rw [List.getElem?_map] at hd
      obtain ⟨a, ea, rfl⟩ := Option.map_eq_some_iff.mp hd
      have hap := hle a (List.mem_of_getElem? ea)
      have tk : ∀ q, q ∈ ls.take (i + 1) ↔ q ∈ ls.take i ∨ q = a := by
        intro q; rw [List.take_add_one, ea]; simp
      have hkl : ∀ {ks : List Nat}, ks.Nodup → (∀ x ∈ ks, x ≤ ps.length) → (ks.map fun j : Nat => ((Sum.inl (j : Int) : Key), T.lf (.bl true))).length < 1000000 := fun nd hb => by
        have := small_keys nd hb; simp; omega
      refine wg_name (by decide) (ws_seq (ws_dput (wd_bl (wd_varO rfl (by decide) ⟨p, rfl, wd_var rfl (by decide) ⟨Sum.inl (a : Int), 2, _, rfl, rfl, hkl nd hb, ?_⟩⟩))))
      rw [putM_ky]
      show wpS K 4 _ [.fz (patD ps), .fz (natsD ls), .ot p (kyT (adK ks a)), .fz (.int (a : Int))] _ _ _
      refine ws_while (fun q m => ∃ (c : Nat) (k2 : List Nat), m = [.fz (patD ps), .fz (natsD ls), .ot p (kyT k2), .fz (.int (c : Int))] ∧ q = ps.length - c ∧ c ≤ ps.length ∧ Anys ps a c ∧ k2.Nodup ∧ (∀ x, x ∈ k2 ↔ x ∈ ks ∨ (a ≤ x ∧ x ≤ c)) ∧ ∀ x ∈ k2, x ≤ ps.length)
        ⟨_, a, adK ks a, rfl, rfl, hap, Anys.refl, adK_nd nd, fun x => by rw [adK_mem]; constructor; (rintro (h | h); exact .inl h; exact .inr (by omega)); (rintro (h | h); exact .inl h; exact .inr (by omega)), fun x hx => by rcases adK_mem.mp hx with h | h; exact hb x h; omega⟩ ?_
      rintro q m ⟨c, k2, rfl, rfl, hc, han, nd2, hk2, hb2⟩
      have stop : anyAt ps c = false → ∃ ks z, [MV.fz (patD ps), .fz (natsD ls), .ot p (kyT k2), .fz (.int (c : Int))] = [.fz (patD ps), .fz (natsD ls), .ot p (kyT ks), z] ∧ ks.Nodup ∧ (∀ x, x ∈ ks ↔ ∃ q ∈ ls.take (i + 1), Anys ps q x) ∧ ∀ x ∈ ks, x ≤ ps.length := fun hna => by
        refine ⟨k2, _, rfl, nd2, fun x => ?_, hb2⟩
        rw [hk2, hk]
        constructor
        · rintro (⟨q, hq, h⟩ | ⟨h1, h2⟩)
          · exact ⟨q, (tk q).mpr (.inl hq), h⟩
          · exact ⟨a, (tk a).mpr (.inr rfl), h1, fun y y1 y2 => han.2 y y1 (by omega)⟩
        · rintro ⟨q, hq, h⟩
          rcases (tk q).mp hq with h' | h'
          · exact .inl ⟨q, h', h⟩
          · subst h'
            refine .inr ⟨h.1, ?_⟩
            by_cases hx : x ≤ c
            · exact hx
            · have := h.2 c han.1 (by omega)
              rw [hna] at this; cases this
      refine wt_and (wt_test (wd_op (wd_var rfl (by decide) (wd_cb (wa_cons (wd_var rfl (by decide) (wa_nil (c_len (m := ps.length) (by simp [lenD, patD]) (by omega) (o_I0b ⟨_, rfl, ?_ ⟩)))))))))
      by_cases hcl : c < ps.length
      · have d1 : decide ((c : Int) < (ps.length : Int)) = true := decide_eq_true (by omega)
        rw [d1, if_pos rfl]
        have er : ps[c]? = some ps[c] := List.getElem?_eq_getElem hcl
        generalize ps[c] = r at er
        have ixr : atI (ps.map rpD) (c : Int) = some (.tup [.str r.kind, r.arg]) := atI_at (by rw [List.getElem?_map, er, ← good_rp (hg.at er).2]; rfl)
        refine wt_test (wd_op (wd_op (wd_op (wd_var rfl (by decide) (wd_var rfl (by decide) (o_ixL ixr (wd_int (o_ixT rfl (wd_str (o_eqS ⟨_, rfl, ?_ ⟩))))))))))
        refine ite_b (fun h => ?_) (fun h => stop ?_)
        · have ha : anyAt ps c = true := anyAt_of er h
          refine ws_seq (ws_set (by decide) (wd_op (wd_var rfl (by decide) (wd_int (o_addI ?_ )))))
          refine ws_dput (wd_bl (wd_varO rfl (by decide) ⟨p, rfl, wd_var rfl (by decide) ⟨Sum.inl ((c + 1 : Nat) : Int), 2, _, rfl, rfl, hkl nd2 hb2, ?_⟩⟩))
          rw [putM_ky]
          refine ⟨ps.length - (c + 1), by omega, c + 1, adK k2 (c + 1), rfl, rfl, hcl, han.snoc ha, adK_nd nd2, fun x => ?_, fun x hx => ?_⟩
          · have hac := han.1
            rw [adK_mem, hk2]
            constructor
            · rintro ((h | h) | h)
              · exact .inl h
              · exact .inr (by omega)
              · exact .inr (by omega)
            · rintro (h | h)
              · exact .inl (.inl h)
              · by_cases e : x = c + 1
                · exact .inr e
                · exact .inl (.inr (by omega))
          · rcases adK_mem.mp hx with h | h
            · exact hb2 x h
            · omega
        · unfold anyAt; rw [er]; exact h
      · have d1 : decide ((c : Int) < (ps.length : Int)) = false := decide_eq_false (by omega)
        rw [d1, if_neg Bool.false_ne_true]
        refine ite_f rfl (stop ?_)
        cases h : anyAt ps c with
        | false => rfl
        | true => exact absurd (anyAt_lt h) hcl
    · rintro mm ⟨ks, z, rfl, nd, hk, hb⟩
      refine ⟨ks, z, rfl, nd, fun x => ?_, hb⟩
      rw [hk]
      simp
  · rintro mm ⟨ks, z, rfl, nd, hk, hb⟩
    have := small_keys nd hb
    refine ws_ret (wd_tupOf (wd_sortKeys (wd_varO rfl (by decide) ⟨p, 2, _, ks, rfl, rfl, by rw [List.map_map]; rfl, nd, by omega, _, rfl, _, .fz (.fz .nil), ?_⟩)))
    have e : srtN ks = clF ps ls := by
      refine sorted_uniq soN (srtU_sorted soN ks) (srtU_sorted soN _) fun x => ?_
      rw [srtU_mem, hk, ← clF_cl x]
    rw [e]
    exact hP
def fs_behind (K : PySem.W.Frag) : FS := fun ms P X => ∃ ps st w, ms = [.fz (patD ps), .fz (rowT st), .fz (.str w)] ∧ GoodPs ps ∧ st.length ≤ 100 ∧ P (.fz (rowT (stF ps st w))) ms
/-- behind: slots 0 pattern, 1 places, 2 word, 3 found, 4 place -/
def t_behind (K : PySem.W.Frag) : WX → TS := fun W => (tSeq (tAsg (tLst tNil) (gName 3)) (tSeq (tFor (iTup K (tVar 1)) (gName 4) (tIfS (tTest (tOp (rI0 fun i j => .bl (decide (i < j))) (tVar 4) (tCB (rLenA K) (tCons (tVar 0) tNil)))) (tIfS (tTest (tOp (rEqA K) (tOp (rIxA K) (tOp (rIxA K) (tVar 0) (tVar 4)) (tC (.int 0))) (tC (.str "any")))) (tDrop (tBM K "list" rAppend (tVar 3) (tCons (tVar 4) tNil))) (tIfS (tB (tCallS (SpM K (fs_takes K)) (WE W) (tCons (tOp (rIxA K) (tVar 0) (tVar 4)) (tCons (tVar 2) tNil)))) (tDrop (tBM K "list" rAppend (tVar 3) (tCons (tOp (rAddA K) (tVar 4) (tC (.int 1))) tNil))) tNext)) tNext)) (tRet (tCallS (SpM K (fs_closed K)) (WE W) (tCons (tVar 0) (tCons (tVar 3) tNil))))))
theorem bhF_snoc (ps : List RP) (st : List Nat) (p : Nat) (w : PySem.Str) : bhF ps (st ++ [p]) w = bhF ps st w ++ bh1 ps w p := by
  unfold bhF; simp
theorem bh1_len (ps : List RP) (w : PySem.Str) (p : Nat) : (bh1 ps w p).length ≤ 1 := by
  unfold bh1
  cases ps[p]? with
  | none => simp
  | some r =>
    simp only
    split
    · simp
    · split <;> simp
theorem bhF_len (ps : List RP) (w : PySem.Str) : ∀ st : List Nat, (bhF ps st w).length ≤ st.length
  | [] => by simp [bhF]
  | p :: st => by
    have ih := bhF_len ps w st
    have := bh1_len ps w p
    unfold bhF at ih ⊢
    simp only [List.flatMap_cons, List.length_append, List.length_cons]
    omega
theorem h_behind {K : PySem.W.Frag} : FsOk K 3 5 (fs_behind K) (t_behind K) := by
  intro ms P X hf
  obtain ⟨ps, st, w, rfl, hg, hst, hP⟩ := hf
  have hl6 := hg.1
  refine ⟨rfl, ?_⟩
  unfold t_behind
  refine ws_seq (ws_setN (by decide) (wn_lst (wa_nil ⟨by decide, fun p => ?_⟩)))
  refine ws_cut (fun m => ∃ z, m = [.fz (patD ps), .fz (rowT st), .fz (.str w), .ot p (.lst (((bhF ps st w).map fun i : Nat => D.int (i : Int)).map .lf)), z]) ?_ ?_
  · refine ws_for (wi_tup (wd_var rfl (by decide) ⟨_, rfl, ?_⟩))
    refine ⟨fun i m => ∃ z, m = [.fz (patD ps), .fz (rowT st), .fz (.str w), .ot p (.lst (((bhF ps (st.take i) w).map fun i : Nat => D.int (i : Int)).map .lf)), z], ⟨_, rfl⟩, ?_, ?_⟩
    · rintro i d mm hd ⟨z, rfl⟩
      rw [List.getElem?_map] at hd
      obtain ⟨a, ea, rfl⟩ := Option.map_eq_some_iff.mp hd
      have tk : st.take (i + 1) = st.take i ++ [a] := by rw [List.take_add_one, ea]; rfl
      have hbl := bhF_len ps w (st.take i)
      have hlt : (st.take i).length ≤ st.length := by simp; omega
      have hsz : (((bhF ps (st.take i) w).map fun i : Nat => D.int (i : Int)).map T.lf).length < 1000000 := by simp; omega
      refine wg_name (by decide) (ws_if (wt_test (wd_op (wd_var rfl (by decide) (wd_cb (wa_cons (wd_var rfl (by decide) (wa_nil (c_len (m := ps.length) (by simp [lenD, patD]) (by omega) (o_I0b ⟨_, rfl, ?_ ⟩))))))))))
      by_cases hcl : a < ps.length
      · refine ite_t (decide_eq_true (by omega)) ?_
        have er : ps[a]? = some ps[a] := List.getElem?_eq_getElem hcl
        generalize ps[a] = r at er
        have ixr : atI (ps.map rpD) (a : Int) = some (rpD r) := atI_at (by rw [List.getElem?_map, er]; rfl)
        have erp := good_rp (hg.at er).2
        have ixk : atI [D.str r.kind, r.arg] 0 = some (.str r.kind) := rfl
        refine ws_if (wt_test (wd_op (wd_op (wd_op (wd_var rfl (by decide) (wd_var rfl (by decide) (o_ixL ixr (wd_int ?_ ))))))))
        rw [erp]
        refine o_ixT ixk (wd_str (o_eqS ⟨_, rfl, ite_b (fun h => ?_) (fun h => ?_)⟩))
        · refine ws_append (by decide) rfl (wd_var rfl (by decide) ⟨_, rfl, hsz, .fz (.int (a : Int)), ?_⟩)
          rw [tk, bhF_snoc]; unfold bh1; rw [er]
          have ha : isAny r = true := h
          simp [ha]
        · have ha : isAny r = false := h
          refine ws_if (wt_B (wd_call [] (wa_cons (wd_op (wd_var rfl (by decide) (wd_var rfl (by decide) (o_ixL ixr (wa_cons (wd_var rfl (by decide) (wa_nil ⟨_, _, .nil, r, w, rfl, (hg.at er).1, (hg.at er).2, _, _, .nil, _, rfl, _, rfl, ite_b (fun ht => ?_) (fun ht => ?_) ⟩))))))))))
          · refine ws_append (by decide) rfl (wd_op (wd_var rfl (by decide) (wd_int (o_addI ⟨_, rfl, hsz, .fz (.int (a : Int)), ?_⟩))))
            rw [tk, bhF_snoc]; unfold bh1; rw [er]
            simp [ha, ht]
          · refine ws_next ⟨.fz (.int (a : Int)), ?_⟩
            rw [tk, bhF_snoc]; unfold bh1; rw [er]
            simp [ha, ht]
      · refine ite_f (decide_eq_false (by omega)) (ws_next ⟨.fz (.int (a : Int)), ?_⟩)
        rw [tk, bhF_snoc]; unfold bh1; rw [List.getElem?_eq_none (by omega)]
        simp
    · rintro mm ⟨z, rfl⟩
      refine ⟨z, ?_⟩
      simp
  · rintro mm ⟨z, rfl⟩
    refine ws_freeze 3 rfl ?_
    have et : T.toD (.lst (((bhF ps st w).map fun i : Nat => D.int (i : Int)).map .lf)) = natsD (bhF ps st w) := toD_lst _
    rw [et]
    have hbl := bhF_len ps w st
    refine ws_ret (wd_call [] (wa_cons (wd_var rfl (by decide) (wa_cons (wd_var rfl (by decide) (wa_nil ⟨_, _, .nil, ps, bhF ps st w, rfl, hg, by omega, fun x hx => ?_, _, _, .nil, _, rfl, _, .fz (.fz (.fz .nil)), hP ⟩))))))
    rcases bhF_mem.mp hx with ⟨_, h⟩ | ⟨p', r, _, e, _, _, rfl⟩
    · have := anyAt_lt h; omega
    · have := (List.getElem?_eq_some_iff.mp e).1; omega
end M
namespace M
open PySem PySem.Spec PyProof.Rows L2
/-! ### found.extend(xs) -/
section
variable {K : PySem.W.Frag} {n : Nat} {ms : List MV} {X : XP} {N : List MV → Prop} {R : MV → List MV → Prop}
theorem OwL.appLf {F : Hp} {h : Hp} : ∀ {zs : List V} {ds : List D} {vs : List V} {ts : List T}, OwL K F vs h ts → RpL K F zs ds → OwL K F (vs ++ zs) h (ts ++ ds.map .lf)
  | [], _, vs, ts, w, r => by
    cases r
    simpa using w
  | z :: zs, _, vs, ts, w, r => by
    cases r with
    | cons a b =>
      have := OwL.appLf (w.snoc a) b
      simpa using this
theorem ws_extend {i : Nat} {p : Addr} {ts : List T} {te : WX → TE} (hi : i < n) (e : ms[i]? = some (.ot p (.lst ts)))
    (h : wpD K n te ms (fun d m1 => ∃ ts1 ds, d = .lst ds ∧ m1[i]? = some (.ot p (.lst ts1)) ∧ ts1.length + ds.length < 1000000 ∧ N (m1.set i (.ot p (.lst (ts1 ++ ds.map .lf))))) X) : wpS K n (fun W => tDrop (tBM K "list" rExtend (tVar i) (tCons (te W) tNil))) ms N R X := by
  intro W G F H σ gv E hn S k r x
  have hv := get_app (by omega) (S.getO e)
  obtain ⟨vs0, hp0, _⟩ := S.list e
  refine ⟨_, hv, .inl ⟨rfl, _, SqL.of hp0⟩, ?_⟩
  refine h W G F H σ gv _ hn S (fun d v m1 g1 F1 H1 ho S1 r1 e1 => ?_) (fun c m g F' H' p S' e => x c m σ g F' H' p hn S' e)
  obtain ⟨ts1, ds, rfl, ei, hl, hN⟩ := ho
  obtain ⟨vs, hp, hlen, f⟩ := S1.list ei
  cases r1 with
  | lst q1 w1 =>
    rename_i b zs
    refine ⟨p, b, vs, zs, rfl, rfl, hp, S1.f _ _ q1, ?_, ?_⟩
    · rw [sizeLine_eq, w1.length]; omega
    · exact k _ σ g1 F1 _ hN hn (f _ _ fun h0 w => ⟨h0, w.appLf w1, Same.refl _⟩) e1
end
/-! ### the words of patterns -/
def RP.ww : RP → List PySem.Str
  | .of ws => ws
  | .ot k s _ => if k = "word" then [s] else []
def wiF (ps : List RP) : List PySem.Str := ps.flatMap RP.ww
theorem ww_len {r : RP} (h : goodPart r = true) : r.ww.length ≤ 4 := by
  cases r with
  | of ws =>
    simp only [goodPart, Bool.and_eq_true, decide_eq_true_eq] at h
    exact h.1.2
  | ot k s ex =>
    simp only [RP.ww]
    split <;> simp
theorem wiF_len : ∀ {ps : List RP}, (∀ r ∈ ps, goodPart r = true) → (wiF ps).length ≤ 4 * ps.length
  | [], _ => by simp [wiF]
  | r :: ps, h => by
    have ih := wiF_len (ps := ps) fun r hr => h r (List.mem_cons_of_mem _ hr)
    have := ww_len (h r List.mem_cons_self)
    unfold wiF at ih ⊢
    simp only [List.flatMap_cons, List.length_append, List.length_cons]
    omega
theorem wiF_app (ps qs : List RP) : wiF (ps ++ qs) = wiF ps ++ wiF qs := by simp [wiF]
theorem GoodPs.len {ps : List RP} (h : GoodPs ps) : (wiF ps).length ≤ 24 := by
  have := wiF_len (ps := ps) fun r hr => (h.2 r hr).2
  have := h.1
  omega
theorem goodPs_of {ps : List RP} (h : goodP ps = true) (ok : ∀ r ∈ ps, r.ok) : GoodPs ps := by
  obtain ⟨hlen, hgp, _⟩ := goodP_iff.mp h
  exact ⟨hlen.2, fun r hr => ⟨ok r hr, hgp r hr⟩⟩
def fs_words_in (K : PySem.W.Frag) : FS := fun ms P X => ∃ ps, ms = [.fz (patD ps)] ∧ GoodPs ps ∧ P (.fz (strsD (wiF ps))) ms
/-- words_in: slots 0 pattern, 1 found, 2 part -/
def t_words_in (K : PySem.W.Frag) : WX → TS := fun W => (tSeq (tAsg (tLst tNil) (gName 1)) (tSeq (tFor (iList K (tVar 0)) (gName 2) (tIfS (tTest (tOp (rEqA K) (tOp (rIxA K) (tVar 2) (tC (.int 0))) (tC (.str "word")))) (tDrop (tBM K "list" rAppend (tVar 1) (tCons (tOp (rIxA K) (tVar 2) (tC (.int 1))) tNil))) (tIfS (tTest (tOp (rEqA K) (tOp (rIxA K) (tVar 2) (tC (.int 0))) (tC (.str "of")))) (tDrop (tBM K "list" rExtend (tVar 1) (tCons (tOp (rIxA K) (tVar 2) (tC (.int 1))) tNil))) tNext))) (tRet (tVar 1))))
theorem h_words_in {K : PySem.W.Frag} : FsOk K 1 3 (fs_words_in K) (t_words_in K) := by
  intro ms P X hf
  obtain ⟨ps, rfl, hg, hP⟩ := hf
  have hl6 := hg.1
  have h24 := hg.len
  refine ⟨rfl, ?_⟩
  unfold t_words_in
  refine ws_seq (ws_setN (by decide) (wn_lst (wa_nil ⟨by decide, fun p => ?_⟩)))
  refine ws_cut (fun m => ∃ z, m = [.fz (patD ps), .ot p (.lst (((wiF ps).map D.str).map .lf)), z]) ?_ ?_
  · refine ws_for (wi_list (wd_var rfl (by decide) ⟨_, rfl, ?_⟩))
    refine ⟨fun i m => ∃ z, m = [.fz (patD ps), .ot p (.lst (((wiF (ps.take i)).map D.str).map .lf)), z], ⟨_, rfl⟩, ?_, ?_⟩
    · rintro i d mm hd ⟨z, rfl⟩
      rw [List.getElem?_map] at hd
      obtain ⟨r, er, rfl⟩ := Option.map_eq_some_iff.mp hd
      obtain ⟨hok, hgr⟩ := hg.at er
      have tk : wiF (ps.take (i + 1)) = wiF (ps.take i) ++ r.ww := by rw [List.take_add_one, er, wiF_app]; simp [wiF]
      have hsz : (wiF (ps.take i)).length ≤ 24 := by
        have := wiF_len (ps := ps.take i) fun r hr => (hg.2 r (List.mem_of_mem_take hr)).2
        simp at this; omega
      have hww := ww_len hgr
      rw [good_rp hgr]
      refine wg_name (by decide) (ws_if (wt_test (wd_op (wd_op (wd_var rfl (by decide) (wd_int (o_ixT rfl (wd_str (o_eqS ⟨_, rfl, ite_b (fun h => ?_) (fun h => ?_) ⟩)))))))))
      · have hk := of_decide_eq_true h
        cases r with
        | of ws => exact absurd hk (show ¬ (("of" : PySem.Str) = "word") by decide +kernel)
        | ot k s ex =>
          simp only [RP.kind] at hk
          subst hk
          refine ws_append (by decide) rfl (wd_op (wd_var rfl (by decide) (wd_int (o_ixT rfl ⟨_, rfl, by simp; omega, .fz (.tup [.str "word", .str s]), ?_⟩))))
          rw [tk]
          simp [RP.ww, RP.arg, RP.kind]
      · have hk := of_decide_eq_false h
        refine ws_if (wt_test (wd_op (wd_op (wd_var rfl (by decide) (wd_int (o_ixT rfl (wd_str (o_eqS ⟨_, rfl, ite_b (fun h2 => ?_) (fun h2 => ?_) ⟩))))))))
        · cases r with
          | of ws =>
            refine ws_extend (by decide) rfl (wd_op (wd_var rfl (by decide) (wd_int (o_ixT rfl ⟨_, _, rfl, rfl, by simp [RP.ww] at hww ⊢; omega, .fz (.tup [.str "of", strsD ws]), ?_⟩))))
            rw [tk]
            simp [RP.ww, RP.arg, RP.kind, strsD]
          | ot k s ex =>
            exact absurd (of_decide_eq_true h2) hok.1
        · refine ws_next ⟨.fz (.tup [.str r.kind, r.arg]), ?_⟩
          rw [tk]
          have e : r.ww = [] := by
            cases r with
            | of ws => exact absurd rfl (of_decide_eq_false h2)
            | ot k s ex =>
              simp only [RP.kind] at hk
              simp [RP.ww, hk]
          simp [e]
    · rintro mm ⟨z, rfl⟩
      refine ⟨z, ?_⟩
      simp
  · rintro mm ⟨z, rfl⟩
    refine ws_ret (wd_freeze 1 rfl (wd_var rfl (by decide) ⟨_, .fz .nil, ?_⟩))
    rw [toD_lst]
    exact hP
def fs_look_both (K : PySem.W.Frag) : FS := fun ms P X => ∃ ps qs, ms = [.fz (patD ps), .fz (patD qs)] ∧ (∀ r ∈ ps, r.ok) ∧ (∀ r ∈ qs, r.ok) ∧ goodP ps = true ∧ goodP qs = true ∧ P (.fz .non) ms
/-- look_both: slots 0 one, 1 other -/
def t_look_both (K : PySem.W.Frag) : WX → TS := fun W => (tSeq (tDrop (tCallS (SpM K (fs_look_pattern K)) (WE W) (tCons (tVar 0) tNil))) (tDrop (tCallS (SpM K (fs_look_pattern K)) (WE W) (tCons (tVar 1) tNil))))
theorem h_look_both {K : PySem.W.Frag} : FsOk K 2 2 (fs_look_both K) (t_look_both K) := by
  intro ms P X hf
  obtain ⟨ps, qs, rfl, o1, o2, g1, g2, hP⟩ := hf
  have l1 := (goodPs_of g1 o1).1
  have l2 := (goodPs_of g2 o2).1
  refine ⟨rfl, ?_⟩
  unfold t_look_both
  refine ws_seq (ws_drop (wd_call [] (wa_cons (wd_var rfl (by decide) (wa_nil ⟨_, _, .nil, ps, rfl, by omega, o1, fun _ => ⟨_, _, .nil, _, rfl, ?_⟩, fun z => by rw [g1] at z; cases z ⟩)))))
  refine ws_drop (wd_call [] (wa_cons (wd_var rfl (by decide) (wa_nil ⟨_, _, .nil, qs, rfl, by omega, o2, fun _ => ⟨_, _, .nil, _, rfl, ?_⟩, fun z => by rw [g2] at z; cases z ⟩))))
  exact ⟨_, .fz (.fz .nil), hP⟩
/-! ### the alphabet -/
def aS (k : Nat) : PySem.Str := ⟨(List.replicate k 97).toArray⟩
theorem aS_one : aS 1 = "a" := by decide +kernel
theorem aS_snoc (k : Nat) : aS k ++ "a" = aS (k + 1) := by
  rw [← aS_one]
  show PySem.Str.mk _ = _
  unfold aS
  congr 1
  rw [List.replicate_succ']
  apply Array.toList_inj.mp
  simp [List.replicate_succ']
theorem aS_inj {i j : Nat} (h : aS i = aS j) : i = j := by
  have := congrArg (fun x : PySem.Str => x.cps.toList.length) h
  simpa [aS] using this
theorem aS_len (k : Nat) : (aS k).length = k := by simp [aS, PySem.Str.length]
def frF (some : List PySem.Str) : PySem.Str := aS (((List.range (some.length + 1)).find? fun k => !some.contains (aS (k + 1))).getD 0 + 1)
theorem fr_le {some : List PySem.Str} {k : Nat} (h : ∀ j, j < k → aS (j + 1) ∈ some) : k ≤ some.length := by
  have := nodup_len (l := (List.range k).map fun j => aS (j + 1)) (m := some) ?_ ?_
  · simpa using this
  · rw [List.nodup_iff_pairwise_ne, List.pairwise_map]
    refine List.Pairwise.imp (fun hne e => hne ?_) (List.nodup_range (n := k))
    have := aS_inj e
    omega
  · intro x hx
    obtain ⟨j, hj, rfl⟩ := List.mem_map.mp hx
    exact h j (List.mem_range.mp hj)
theorem find_first {f : Nat → Bool} : ∀ {n k : Nat}, k < n → f k = true → (∀ j, j < k → f j = false) → (List.range n).find? f = some k := by
  intro n k hk hf hb
  rw [List.find?_range_eq_some]
  exact ⟨hf, List.mem_range.mpr hk, fun j hj => by simpa using hb j hj⟩
theorem frF_eq {some : List PySem.Str} {k : Nat} (h : ∀ j, j < k → aS (j + 1) ∈ some) (hn : aS (k + 1) ∉ some) : aS (k + 1) = frF some := by
  unfold frF
  have := fr_le h
  rw [find_first (k := k) (by omega) (by simpa using hn) (fun j hj => by simpa using h j hj)]
  rfl
def alF (ps qs : List RP) : List PySem.Str := srtS (wiF ps ++ wiF qs ++ [frF (wiF ps ++ wiF qs)])
theorem alF_nd (ps qs : List RP) : (alF ps qs).Nodup := sorted_nodup soS (srtU_sorted soS _)
theorem alF_len {ps qs : List RP} (hp : GoodPs ps) (hq : GoodPs qs) : (alF ps qs).length ≤ 49 := by
  have := nodup_len (alF_nd ps qs) (m := wiF ps ++ wiF qs ++ [frF (wiF ps ++ wiF qs)]) fun x hx => srtU_mem.mp hx
  have := hp.len
  have := hq.len
  simp at *
  omega
theorem strs_flat (l : List PySem.Str) : (l.map D.str).all flat = true := by
  rw [List.all_map]; simp [List.all_eq_true, flat]
/-- fresh = "a"; while fresh in some: fresh = fresh + "a" -/
theorem ws_fresh {K : PySem.W.Frag} {n : Nat} {X : XP} {N : List MV → Prop} {R : MV → List MV → Prop} {i f : Nat} {xs : List PySem.Str} {pre : List MV} (hl : xs.length ≤ 1000) (hf : pre.length = f) (hfn : f < n) (hin : i < n) (hi : pre[i]? = some (.fz (strsD xs))) {post : List MV}
    (h : N (pre ++ .fz (.str (frF xs)) :: post)) : wpS K n (fun W => tWhile (tTest (tOp (rInA K) (tVar f) (tVar i))) (tAsg (tOp (rAddA K) (tVar f) (tC (.str "a"))) (gName f))) (pre ++ .fz (.str "a") :: post) N R X := by
  refine ws_while (fun q m => ∃ k : Nat, m = pre ++ .fz (.str (aS (k + 1))) :: post ∧ q = xs.length + 1 - k ∧ ∀ j, j < k → aS (j + 1) ∈ xs) ⟨_, 0, by rw [aS_one], rfl, fun j hj => by omega⟩ ?_
  rintro q m ⟨k, rfl, rfl, hk⟩
  have hil : i < pre.length := (List.getElem?_eq_some_iff.mp hi).1
  have ef : ∀ (v : MV), (pre ++ v :: post)[f]? = some v := fun v => by rw [List.getElem?_append_right (by omega)]; simp [hf]
  have ei : ∀ (v : MV), (pre ++ v :: post)[i]? = some (.fz (strsD xs)) := fun v => by rw [List.getElem?_append_left hil]; exact hi
  have es : ∀ (v u : MV), (pre ++ v :: post).set f u = pre ++ u :: post := fun v u => by rw [List.set_append_right _ _ (by omega)]; simp [hf]
  have hkl := fr_le hk
  refine wt_test (wd_op (wd_var (ef _) hfn (wd_var (ei _) hin (o_inL rfl (strs_flat _) ⟨_, rfl, ?_⟩))))
  rw [inD_strs]
  refine ite_b (fun hm => ?_) (fun hm => ?_)
  · have hm := of_decide_eq_true hm
    have ha : (aS (k + 1)).length + ("a" : PySem.Str).length ≤ 1000000 := by
      rw [aS_len]
      have : ("a" : PySem.Str).length = 1 := by decide +kernel
      omega
    refine ws_set hfn (wd_op (wd_var (ef _) hfn (wd_str (o_addS ha ?_))))
    rw [es, aS_snoc]
    have hk2 : ∀ j, j < k + 1 → aS (j + 1) ∈ xs := fun j hj => by
      by_cases e : j = k
      · rw [e]; exact hm
      · exact hk j (by omega)
    have := fr_le hk2
    exact ⟨xs.length + 1 - (k + 1), by omega, k + 1, rfl, rfl, hk2⟩
  · have := frF_eq hk (of_decide_eq_false hm)
    rw [this]
    exact h
def fs_alphabet (K : PySem.W.Frag) : FS := fun ms P X => ∃ ps qs, ms = [.fz (patD ps), .fz (patD qs)] ∧ (∀ r ∈ ps, r.ok) ∧ (∀ r ∈ qs, r.ok) ∧ goodP ps = true ∧ goodP qs = true ∧ P (.fz (strsD (alF ps qs))) ms
/-- alphabet: slots 0 one, 1 other, 2 some, 3 fresh -/
def t_alphabet (K : PySem.W.Frag) : WX → TS := fun W => (tSeq (tDrop (tCallS (SpM K (fs_look_both K)) (WE W) (tCons (tVar 0) (tCons (tVar 1) tNil)))) (tSeq (tAsg (tOp (rAddA K) (tCallS (SpM K (fs_words_in K)) (WE W) (tCons (tVar 0) tNil)) (tCallS (SpM K (fs_words_in K)) (WE W) (tCons (tVar 1) tNil))) (gName 2)) (tSeq (tAsg (tC (.str "a")) (gName 3)) (tSeq (tWhile (tTest (tOp (rInA K) (tVar 3) (tVar 2))) (tAsg (tOp (rAddA K) (tVar 3) (tC (.str "a"))) (gName 3))) (tRet (tSortSetS K (tOp (rAddA K) (tVar 2) (tLst (tCons (tVar 3) tNil)))))))))
theorem h_alphabet {K : PySem.W.Frag} : FsOk K 2 4 (fs_alphabet K) (t_alphabet K) := by
  intro ms P X hf
  obtain ⟨ps, qs, rfl, o1, o2, g1, g2, hP⟩ := hf
  have gp := goodPs_of g1 o1
  have gq := goodPs_of g2 o2
  have l1 := gp.len
  have l2 := gq.len
  refine ⟨rfl, ?_⟩
  unfold t_alphabet
  refine ws_seq (ws_drop (wd_call [] (wa_cons (wd_var rfl (by decide) (wa_cons (wd_var rfl (by decide) (wa_nil ⟨_, _, .nil, ps, qs, rfl, o1, o2, g1, g2, _, _, .nil, _, rfl, ?_ ⟩)))))))
  refine ws_seq (ws_set (by decide) (wd_op (wd_call [] (wa_cons (wd_var rfl (by decide) (wa_nil ⟨_, _, .nil, ps, rfl, gp, _, _, .nil, _, rfl, wd_call [] (wa_cons (wd_var rfl (by decide) (wa_nil ⟨_, _, .nil, qs, rfl, gq, _, _, .nil, _, rfl, o_addL (by simp; omega) ?_ ⟩)))⟩))))))
  refine ws_seq (ws_set (by decide) (wd_str ?_))
  have e1 : D.lst ((wiF ps).map D.str ++ (wiF qs).map D.str) = strsD (wiF ps ++ wiF qs) := by simp [strsD]
  rw [e1]
  refine ws_seq (ws_fresh (pre := [.fz (patD ps), .fz (patD qs), .fz (strsD (wiF ps ++ wiF qs))]) (post := []) (by simp; omega) (f := 3) rfl (Nat.le_of_ble_eq_true rfl) (by decide) rfl ?_)
  refine ws_ret (wd_sortSetS (wd_op (wd_var rfl (by decide) (wd_lst (wa_cons (wd_var rfl (by decide) (wa_nil ⟨Nat.le_of_ble_eq_true rfl, o_addL (by simp; omega) ⟨wiF ps ++ wiF qs ++ [frF (wiF ps ++ wiF qs)], by simp, by simp; omega, _, .fz (.fz .nil), hP ⟩⟩)))))))
end M
namespace M
open PySem PySem.Spec PyProof.Rows L2
/-! ### the states -/
abbrev St2 : Type := List Nat × List Nat
def dl2 (ps qs : List RP) (s : St2) (w : PySem.Str) : St2 := (stF ps s.1 w, stF qs s.2 w)
def s02 (ps qs : List RP) : St2 := (clF ps [0], clF qs [0])
def ok2 (ps qs : List RP) (wt : Bool) (s : St2) : Bool := s.1.contains ps.length && (s.2.contains qs.length == wt)
theorem run2 (ps qs : List RP) (u : List PySem.Str) : u.foldl (dl2 ps qs) (s02 ps qs) = (runF ps u, runF qs u) := by
  refine snoc_ind (P := fun u => u.foldl (dl2 ps qs) (s02 ps qs) = (runF ps u, runF qs u)) rfl (fun u w ih => ?_) u
  rw [List.foldl_append, ih, runF_snoc, runF_snoc]
  rfl
def okW (ps qs : List RP) (wt : Bool) (u : List PySem.Str) : Bool := accB ps u && (accB qs u == wt)
theorem okW_eq (ps qs : List RP) (wt : Bool) (u : List PySem.Str) : ok2 ps qs wt (u.foldl (dl2 ps qs) (s02 ps qs)) = okW ps qs wt u := by
  rw [run2]; rfl
def SH (ps qs : List RP) (wt : Bool) : Option (List PySem.Str) → Prop
  | some r => r.length ≤ 256 ∧ Over (alF ps qs) r ∧ okW ps qs wt r = true ∧ ∀ u, Over (alF ps qs) u → okW ps qs wt u = true → cod (alF ps qs) r ≤ cod (alF ps qs) u
  | none => ∀ u, Over (alF ps qs) u → okW ps qs wt u = false
def resD : Option (List PySem.Str) → D
  | none => .non
  | some r => strsD r
/-! #### how many -/
def subsL {α : Type} : List α → List (List α)
  | [] => [[]]
  | x :: l => subsL l ++ (subsL l).map (x :: ·)
theorem subs_len {α : Type} : ∀ l : List α, (subsL l).length = 2 ^ l.length
  | [] => rfl
  | x :: l => by simp [subsL, subs_len l, Nat.pow_succ]; omega
theorem subs_mem {α : Type} {a l : List α} (h : a.Sublist l) : a ∈ subsL l := by
  induction h with
  | slnil => simp [subsL]
  | cons x _ ih => exact List.mem_append_left _ ih
  | cons_cons x _ ih => exact List.mem_append_right _ (List.mem_map.mpr ⟨_, ih, rfl⟩)
theorem row_sub {a : List Nat} {n : Nat} (h : a.Pairwise (fun x y => ltN x y = true)) (hb : ∀ x ∈ a, x ≤ n) : a ∈ subsL (List.range (n + 1)) := by
  have hr : (List.range (n + 1)).Pairwise (fun x y => ltN x y = true) := by
    have := List.pairwise_lt_range (n := n + 1)
    exact this.imp (by simp)
  have e : a = (List.range (n + 1)).filter fun x => a.contains x := by
    refine sorted_uniq soN h (hr.sublist List.filter_sublist) fun x => ?_
    rw [List.mem_filter, List.mem_range, List.contains_iff_mem]
    exact ⟨fun hx => ⟨by have := hb x hx; omega, hx⟩, fun hx => hx.2⟩
  rw [e]
  exact subs_mem List.filter_sublist
theorem Mj_le {ps : List RP} : ∀ {j : Nat} {u : List PySem.Str}, Mj ps j u → j ≤ ps.length
  | 0, _, _ => Nat.zero_le _
  | j + 1, _, ⟨r, _, _, e, _⟩ => (List.getElem?_eq_some_iff.mp e).1
theorem run_ok (ps : List RP) (u : List PySem.Str) : (runF ps u).Pairwise (fun x y => ltN x y = true) ∧ ∀ x ∈ runF ps u, x ≤ ps.length := by
  constructor
  · refine snoc_ind (P := fun u => (runF ps u).Pairwise (fun x y => ltN x y = true)) (srtU_sorted soN _) (fun u w _ => ?_) u
    rw [runF_snoc]
    exact srtU_sorted soN _
  · intro x hx
    obtain ⟨v, y, _, hm, _⟩ := (runF_mem u x).mp hx
    exact Mj_le hm
theorem run_len (ps : List RP) (u : List PySem.Str) : (runF ps u).length ≤ ps.length + 1 := small_keys (sorted_nodup soN (run_ok ps u).1) (run_ok ps u).2
def unv (n m : Nat) : List St2 := (subsL (List.range (n + 1))).flatMap fun a => (subsL (List.range (m + 1))).map fun b => (a, b)
theorem unv_len {n m : Nat} (hn : n ≤ 3) (hm : m ≤ 3) : (unv n m).length ≤ 256 := by
  unfold unv
  rw [List.length_flatMap]
  have e : (fun a => ((subsL (List.range (m + 1))).map fun b => (a, b)).length) = fun _ : List Nat => 2 ^ (m + 1) := by
    funext a; rw [List.length_map, subs_len, List.length_range]
  rw [e, List.map_const', List.sum_replicate_nat, subs_len, List.length_range]
  have h1 : 2 ^ (n + 1) ≤ 2 ^ 4 := Nat.pow_le_pow_right (by decide) (by omega)
  have h2 : 2 ^ (m + 1) ≤ 2 ^ 4 := Nat.pow_le_pow_right (by decide) (by omega)
  have := Nat.mul_le_mul h1 h2
  exact this
theorem unv_mem (ps qs : List RP) (u : List PySem.Str) : (runF ps u, runF qs u) ∈ unv ps.length qs.length := by
  obtain ⟨a1, a2⟩ := run_ok ps u
  obtain ⟨b1, b2⟩ := run_ok qs u
  exact List.mem_flatMap.mpr ⟨_, row_sub a1 a2, List.mem_map.mpr ⟨_, row_sub b1 b2, rfl⟩⟩
abbrev Bf2 (ps qs : List RP) (wt : Bool) (k : Nat) (dn lv : List (St2 × List PySem.Str)) (sn : List St2) : Prop := Bf (dl2 ps qs) (alF ps qs) (s02 ps qs) (ok2 ps qs wt) k dn lv sn
theorem bf_len {ps qs : List RP} {wt : Bool} {k : Nat} {dn lv : List (St2 × List PySem.Str)} {sn : List St2} (B : Bf2 ps qs wt k dn lv sn) (hp : ps.length ≤ 3) (hq : qs.length ≤ 3) : sn.length ≤ 256 := by
  refine Nat.le_trans (nodup_len (m := unv ps.length qs.length) B.nd fun x hx => ?_) (unv_len hp hq)
  rw [B.seen] at hx
  obtain ⟨y, hy, rfl⟩ := List.mem_map.mp hx
  rw [(B.rn y hy).1, run2]
  exact unv_mem ps qs _
theorem bf_st {ps qs : List RP} {wt : Bool} {k : Nat} {dn lv : List (St2 × List PySem.Str)} {sn : List St2} (B : Bf2 ps qs wt k dn lv sn) {x : St2 × List PySem.Str} (hx : x ∈ lv) : x.1.1.length ≤ ps.length + 1 ∧ x.1.2.length ≤ qs.length + 1 := by
  rw [(B.rn x (List.mem_append_right _ hx)).1, run2]
  exact ⟨run_len ps _, run_len qs _⟩
theorem ex1_len {S α : Type} [DecidableEq S] {δ : S → α → S} (a : List S × List (S × List α)) (sr : S × List α) (w : α) : (ex1 δ a sr w).1.length ≤ a.1.length + 1 ∧ (ex1 δ a sr w).2.length ≤ a.2.length + 1 := by
  unfold ex1
  split
  · omega
  · simp
theorem exw_len {S α : Type} [DecidableEq S] {δ : S → α → S} (sr : S × List α) : ∀ (ws : List α) (a : List S × List (S × List α)), (ws.foldl (fun a w => ex1 δ a sr w) a).1.length ≤ a.1.length + ws.length ∧ (ws.foldl (fun a w => ex1 δ a sr w) a).2.length ≤ a.2.length + ws.length
  | [], a => by simp
  | w :: ws, a => by
    have h1 := ex1_len (δ := δ) a sr w
    have h2 := exw_len (δ := δ) sr ws (ex1 δ a sr w)
    simp only [List.foldl_cons, List.length_cons]
    omega
theorem exl_len {S α : Type} [DecidableEq S] {δ : S → α → S} (ws : List α) : ∀ (lv : List (S × List α)) (a : List S × List (S × List α)), (lv.foldl (exR δ ws) a).1.length ≤ a.1.length + ws.length * lv.length ∧ (lv.foldl (exR δ ws) a).2.length ≤ a.2.length + ws.length * lv.length
  | [], a => by simp
  | x :: lv, a => by
    have h1 := exw_len (δ := δ) x ws a
    have h2 := exl_len (δ := δ) ws lv (exR δ ws a x)
    simp only [List.foldl_cons, List.length_cons, Nat.mul_add, Nat.mul_one]
    unfold exR at h2 ⊢
    omega
theorem ex1_new {S α : Type} [DecidableEq S] {δ : S → α → S} {a : List S × List (S × List α)} {sr : S × List α} {w : α} (h : δ sr.1 w ∉ a.1) : ex1 δ a sr w = (a.1 ++ [δ sr.1 w], a.2 ++ [(δ sr.1 w, sr.2 ++ [w])]) := by
  unfold ex1
  rw [if_neg fun z => h (List.contains_iff_mem.mp z)]
theorem ex1_old {S α : Type} [DecidableEq S] {δ : S → α → S} {a : List S × List (S × List α)} {sr : S × List α} {w : α} (h : δ sr.1 w ∈ a.1) : ex1 δ a sr w = a := by
  unfold ex1
  rw [if_pos (List.contains_iff_mem.mpr h)]
/-! ### the walk -/
def lvD (lv : List (St2 × List PySem.Str)) : List D := lv.map fun x => .tup [keyT x.1, strsD x.2]
def fs_shortest (K : PySem.W.Frag) : FS := fun ms P X => ∃ ps qs wt, ms = [.fz (patD ps), .fz (patD qs), .fz (.bl wt)] ∧ (∀ r ∈ ps, r.ok) ∧ (∀ r ∈ qs, r.ok) ∧ goodP ps = true ∧ goodP qs = true ∧ ps.length ≤ 3 ∧ qs.length ≤ 3 ∧ ∀ res, SH ps qs wt res → P (.fz (resD res)) ms
/-- shortest: slots 0 one, 1 other, 2 wanted, 3 words, 4 start, 5 seen, 6 level, 7 state, 8 row, 9 later, 10 word, 11 new -/
def t_shortest (K : PySem.W.Frag) : WX → TS := fun W => (tSeq (tAsg (tCallS (SpM K (fs_alphabet K)) (WE W) (tCons (tVar 0) (tCons (tVar 1) tNil))) (gName 3)) (tSeq (tAsg (tTup (tCons (tCallS (SpM K (fs_closed K)) (WE W) (tCons (tVar 0) (tCons (tLst (tCons (tC (.int 0)) tNil)) tNil))) (tCons (tCallS (SpM K (fs_closed K)) (WE W) (tCons (tVar 1) (tCons (tLst (tCons (tC (.int 0)) tNil)) tNil))) tNil))) (gName 4)) (tSeq (tAsg tNdNew (gName 5)) (tSeq (sNdPut K (tVar 5) (tVar 4) (tC (.bl true))) (tSeq (tAsg (tLst (tCons (tTup (tCons (tVar 4) (tCons (tLst tNil) tNil))) tNil)) (gName 6)) (tSeq (tWhile (tTru K (tVar 6)) (tSeq (tFor (iList K (tVar 6)) (gTup K 2 (gCons (gName 7) (gCons (gName 8) gNil))) (tIfS (tAnd (tTest (tOp (rInA K) (tCB (rLenA K) (tCons (tVar 0) tNil)) (tOp (rIxA K) (tVar 7) (tC (.int 0))))) (tTest (tOp (rEqA K) (tOp (rInA K) (tCB (rLenA K) (tCons (tVar 1) tNil)) (tOp (rIxA K) (tVar 7) (tC (.int 1)))) (tVar 2)))) (tRet (tVar 8)) tNext)) (tSeq (tAsg (tLst tNil) (gName 9)) (tSeq (tFor (iList K (tVar 6)) (gTup K 2 (gCons (gName 7) (gCons (gName 8) gNil))) (tFor (iList K (tVar 3)) (gName 10) (tSeq (tAsg (tTup (tCons (tCallS (SpM K (fs_behind K)) (WE W) (tCons (tVar 0) (tCons (tOp (rIxA K) (tVar 7) (tC (.int 0))) (tCons (tVar 10) tNil)))) (tCons (tCallS (SpM K (fs_behind K)) (WE W) (tCons (tVar 1) (tCons (tOp (rIxA K) (tVar 7) (tC (.int 1))) (tCons (tVar 10) tNil)))) tNil))) (gName 11)) (tIfS (tTest (tOp (rNotInN K) (tVar 11) (tVar 5))) (tSeq (sNdPut K (tVar 5) (tVar 11) (tC (.bl true))) (tDrop (tBM K "list" rAppend (tVar 9) (tCons (tTup (tCons (tVar 11) (tCons (tOp (rAddA K) (tVar 8) (tLst (tCons (tVar 10) tNil))) tNil))) tNil)))) tNext)))) (tAsg (tVar 9) (gName 6)))))) (tRet (tC .non))))))))
theorem eqv_bl (a b : Bool) : PyData.eqv (D.bl a).py (D.bl b).py = (a == b) := by cases a <;> cases b <;> rfl
theorem h_shortest {K : PySem.W.Frag} : FsOk K 3 12 (fs_shortest K) (t_shortest K) := by
  intro ms P X hf
  obtain ⟨ps, qs, wt, rfl, o1, o2, g1, g2, lp, lq, hP⟩ := hf
  have gp := goodPs_of g1 o1
  have gq := goodPs_of g2 o2
  have hal := alF_len gp gq
  refine ⟨rfl, ?_⟩
  unfold t_shortest
  refine ws_seq (ws_set (by decide) (wd_call [] (wa_cons (wd_var rfl (by decide) (wa_cons (wd_var rfl (by decide) (wa_nil ⟨_, _, .nil, ps, qs, rfl, o1, o2, g1, g2, _, _, .nil, _, rfl, ?_ ⟩)))))))
  refine ws_seq (ws_set (by decide) (wd_tup (wa_cons (wd_call [] (wa_cons (wd_var rfl (by decide) (wa_cons (wd_lst (wa_cons (wd_int (wa_nil ⟨Nat.le_of_ble_eq_true rfl, wa_nil ⟨_, _, .nil, ps, [0], rfl, gp, by simp, by simp, _, _, .nil, _, rfl, ?_ ⟩⟩)))))))))))
  refine wa_cons (wd_call [] (wa_cons (wd_var rfl (by decide) (wa_cons (wd_lst (wa_cons (wd_int (wa_nil ⟨Nat.le_of_ble_eq_true rfl, wa_nil ⟨_, _, .nil, qs, [0], rfl, gq, by simp, by simp, _, _, .nil, _, rfl, wa_nil ⟨Nat.le_of_ble_eq_true rfl, ?_ ⟩⟩⟩))))))))
  show wpS K 12 _ [.fz (patD ps), .fz (patD qs), .fz (.bl wt), .fz (strsD (alF ps qs)), .fz (keyT (s02 ps qs)), .un, .un, .un, .un, .un, .un, .un] _ _ _
  refine ws_seq (ws_setN (by decide) (wn_nd0 fun p => ?_))
  refine ws_seq (ws_ndPut (wd_bl ⟨rfl, wd_varO rfl (by decide) ⟨p, rfl, wd_var rfl (by decide) ⟨s02 ps qs, 5, [], rfl, rfl, by simp, rfl, ?_⟩⟩⟩))
  refine ws_seq (ws_set (by decide) (wd_lst (wa_cons (wd_tup (wa_cons (wd_var rfl (by decide) (wa_cons (wd_lst (wa_nil ⟨Nat.le_of_ble_eq_true rfl, wa_nil ⟨Nat.le_of_ble_eq_true rfl, wa_nil ⟨Nat.le_of_ble_eq_true rfl, ?_ ⟩⟩⟩)))))))))
  show wpS K 12 _ [.fz (patD ps), .fz (patD qs), .fz (.bl wt), .fz (strsD (alF ps qs)), .fz (keyT (s02 ps qs)), .ot p (.nd p [s02 ps qs]), .fz (.lst (lvD [(s02 ps qs, [])])), .un, .un, .un, .un, .un] _ _ _
  have hinl : ∀ {x : St2 × List PySem.Str}, lenD (patD ps) = some ps.length ∧ lenD (patD qs) = some qs.length := by simp [lenD, patD]
  refine ws_cut (fun m => ∃ k dn sn z7 z8 z9 z10 z11, m = [.fz (patD ps), .fz (patD qs), .fz (.bl wt), .fz (strsD (alF ps qs)), .fz (keyT (s02 ps qs)), .ot p (.nd p sn), .fz (.lst (lvD [])), z7, z8, z9, z10, z11] ∧ Bf2 ps qs wt k dn [] sn) ?_ ?_
  · refine ws_while (fun q m => ∃ k dn lv sn z7 z8 z9 z10 z11, m = [.fz (patD ps), .fz (patD qs), .fz (.bl wt), .fz (strsD (alF ps qs)), .fz (keyT (s02 ps qs)), .ot p (.nd p sn), .fz (.lst (lvD lv)), z7, z8, z9, z10, z11] ∧ Bf2 ps qs wt k dn lv sn ∧ k ≤ dn.length ∧ q = 2 * (256 - sn.length) + (if lv = [] then 0 else 1))
      ⟨_, 0, [], [(s02 ps qs, [])], [s02 ps qs], _, _, _, _, _, rfl, Bf.start, Nat.zero_le _, rfl⟩ ?_
    rintro q m ⟨k, dn, lv, sn, z7, z8, z9, z10, z11, rfl, B, hk, rfl⟩
    have hsn := bf_len B lp lq
    have hdl : dn.length + lv.length = sn.length := by rw [B.seen]; simp
    refine wt_tru (wd_var rfl (by decide) ⟨!lv.isEmpty, by cases lv <;> rfl, ?_⟩)
    cases hlv : lv with
    | nil =>
      subst hlv
      exact ite_f rfl ⟨k, dn, sn, z7, z8, z9, z10, z11, rfl, B⟩
    | cons x0 lv0 =>
      have hne : lv ≠ [] := by rw [hlv]; simp
      rw [← hlv]
      refine ite_t (by rw [hlv]; rfl) ?_
      rw [if_neg hne]
      refine ws_cut (fun m => ∃ z7 z8, m = [.fz (patD ps), .fz (patD qs), .fz (.bl wt), .fz (strsD (alF ps qs)), .fz (keyT (s02 ps qs)), .ot p (.nd p sn), .fz (.lst (lvD lv)), z7, z8, z9, z10, z11] ∧ ∀ x ∈ lv, ok2 ps qs wt x.1 = false) ?_ ?_
      · refine ws_for (wi_list (wd_var rfl (by decide) ⟨_, rfl, ?_⟩))
        refine ⟨fun i m => ∃ z7 z8, m = [.fz (patD ps), .fz (patD qs), .fz (.bl wt), .fz (strsD (alF ps qs)), .fz (keyT (s02 ps qs)), .ot p (.nd p sn), .fz (.lst (lvD lv)), z7, z8, z9, z10, z11] ∧ ∀ j y, j < i → lv[j]? = some y → ok2 ps qs wt y.1 = false, ⟨_, _, rfl, fun j y h => by omega⟩, ?_, ?_⟩
        · rintro i d mm hd ⟨z7, z8, rfl, hb⟩
          unfold lvD at hd
          rw [List.getElem?_map] at hd
          obtain ⟨x, ex, rfl⟩ := Option.map_eq_some_iff.mp hd
          refine wg_tup rfl (wgs_cons (wg_name (by decide) (wgs_cons (wg_name (by decide) (wgs_nil ?_)))))
          have nxt : ok2 ps qs wt x.1 = false → ∃ z7 z8, [MV.fz (patD ps), .fz (patD qs), .fz (.bl wt), .fz (strsD (alF ps qs)), .fz (keyT (s02 ps qs)), .ot p (.nd p sn), .fz (.lst (lvD lv)), .fz (keyT x.1), .fz (strsD x.2), z9, z10, z11] = [.fz (patD ps), .fz (patD qs), .fz (.bl wt), .fz (strsD (alF ps qs)), .fz (keyT (s02 ps qs)), .ot p (.nd p sn), .fz (.lst (lvD lv)), z7, z8, z9, z10, z11] ∧ ∀ j y, j < i + 1 → lv[j]? = some y → ok2 ps qs wt y.1 = false := fun h => by
            refine ⟨_, _, rfl, fun j y hj e => ?_⟩
            by_cases c : j = i
            · subst c; rw [ex] at e; cases e; exact h
            · exact hb j y (by omega) e
          refine ws_if (wt_and (wt_test (wd_op (wd_cb (wa_cons (wd_var rfl (by decide) (wa_nil (c_len (m := ps.length) (by simp [lenD, patD]) (by omega) (wd_op (wd_var rfl (by decide) (wd_int (o_ixT (d := rowT x.1.1) rfl (o_inT rfl (nats_flat _) ⟨_, rfl, ?_ ⟩)))))))))))))
          rw [inD_nats]
          refine ite_b (fun h1 => ?_) (fun h1 => ite_f rfl (ws_next (nxt (by unfold ok2; rw [h1]; rfl))))
          refine wt_test (wd_op (wd_op (wd_cb (wa_cons (wd_var rfl (by decide) (wa_nil (c_len (m := qs.length) (by simp [lenD, patD]) (by omega) (wd_op (wd_var rfl (by decide) (wd_int (o_ixT (d := rowT x.1.2) rfl (o_inT rfl (nats_flat _) (wd_var rfl (by decide) (o_eqD rfl rfl ⟨_, rfl, ?_ ⟩))))))))))))))
          rw [inD_nats, eqv_bl]
          refine ite_b (fun h2 => ?_) (fun h2 => ws_next (nxt (by unfold ok2; rw [h1, h2]; rfl)))
          refine ws_ret (wd_var rfl (by decide) ⟨_, .fz (.fz (.fz .nil)), hP (some x.2) ?_⟩)
          obtain ⟨a1, a2, a3⟩ := B.some ex (by unfold ok2; rw [h1, h2]; rfl) hb
          rw [okW_eq] at a2
          refine ⟨?_, a1, a2, fun u hu hk => a3 u hu (by rw [okW_eq]; exact hk)⟩
          have := B.ll x (List.mem_of_getElem? ex)
          omega
        · rintro mm ⟨z7, z8, rfl, hb⟩
          refine ⟨z7, z8, rfl, fun x hx => ?_⟩
          obtain ⟨j, hj⟩ := List.getElem?_of_mem hx
          exact hb j x (by have := (List.getElem?_eq_some_iff.mp hj).1; simpa [lvD] using this) hj
      · rintro mm ⟨z7, z8, rfl, hno⟩
        refine ws_seq (ws_setN (by decide) (wn_lst (wa_nil ⟨by decide, fun p9 => ?_⟩)))
        have B2 := B.next (alF_nd ps qs) hno
        refine ws_cut (fun m => ∃ z7 z8 z10 z11, m = [.fz (patD ps), .fz (patD qs), .fz (.bl wt), .fz (strsD (alF ps qs)), .fz (keyT (s02 ps qs)), .ot p (.nd p (exL (dl2 ps qs) (alF ps qs) sn lv).1), .fz (.lst (lvD lv)), z7, z8, .ot p9 (.lst ((lvD (exL (dl2 ps qs) (alF ps qs) sn lv).2).map .lf)), z10, z11]) ?_ ?_
        · refine ws_for (wi_list (wd_var rfl (by decide) ⟨_, rfl, ?_⟩))
          refine ⟨fun i m => ∃ z7 z8 z10 z11, m = [.fz (patD ps), .fz (patD qs), .fz (.bl wt), .fz (strsD (alF ps qs)), .fz (keyT (s02 ps qs)), .ot p (.nd p ((lv.take i).foldl (exR (dl2 ps qs) (alF ps qs)) (sn, [])).1), .fz (.lst (lvD lv)), z7, z8, .ot p9 (.lst ((lvD ((lv.take i).foldl (exR (dl2 ps qs) (alF ps qs)) (sn, [])).2).map .lf)), z10, z11], ⟨_, _, _, _, rfl⟩, ?_, ?_⟩
          · rintro i d mm hd ⟨z7, z8, z10, z11, rfl⟩
            unfold lvD at hd
            rw [List.getElem?_map] at hd
            obtain ⟨x, ex, rfl⟩ := Option.map_eq_some_iff.mp hd
            have hxm : x ∈ lv := List.mem_of_getElem? ex
            obtain ⟨b1, b2⟩ := bf_st B hxm
            have tk : (lv.take (i + 1)).foldl (exR (dl2 ps qs) (alF ps qs)) (sn, []) = exR (dl2 ps qs) (alF ps qs) ((lv.take i).foldl (exR (dl2 ps qs) (alF ps qs)) (sn, [])) x := by
              rw [List.take_add_one, ex, List.foldl_append]; rfl
            have ha := exl_len (δ := dl2 ps qs) (alF ps qs) (lv.take i) (sn, [])
            have hti : (lv.take i).length ≤ 256 := by simp; omega
            have hmul : (alF ps qs).length * (lv.take i).length ≤ 49 * 256 := Nat.mul_le_mul hal hti
            simp only [tk]
            generalize (lv.take i).foldl (exR (dl2 ps qs) (alF ps qs)) (sn, []) = a at ha ⊢
            simp only [List.length_nil] at ha
            have ha1 : a.1.length ≤ 13000 := by omega
            have ha2 : a.2.length ≤ 13000 := by omega
            have hrk := B.ll x hxm
            refine wg_tup rfl (wgs_cons (wg_name (by decide) (wgs_cons (wg_name (by decide) (wgs_nil ?_)))))
            show wpS K 12 _ [.fz (patD ps), .fz (patD qs), .fz (.bl wt), .fz (strsD (alF ps qs)), .fz (keyT (s02 ps qs)), .ot p (.nd p a.1), .fz (.lst (lvD lv)), .fz (keyT x.1), .fz (strsD x.2), .ot p9 (.lst ((lvD a.2).map .lf)), z10, z11] _ _ _
            refine ws_for (wi_list (wd_var rfl (by decide) ⟨_, rfl, ?_⟩))
            refine ⟨fun j m => ∃ z10 z11, m = [.fz (patD ps), .fz (patD qs), .fz (.bl wt), .fz (strsD (alF ps qs)), .fz (keyT (s02 ps qs)), .ot p (.nd p (((alF ps qs).take j).foldl (fun a w => ex1 (dl2 ps qs) a x w) a).1), .fz (.lst (lvD lv)), .fz (keyT x.1), .fz (strsD x.2), .ot p9 (.lst ((lvD (((alF ps qs).take j).foldl (fun a w => ex1 (dl2 ps qs) a x w) a).2).map .lf)), z10, z11], ⟨_, _, rfl⟩, ?_, ?_⟩
            · rintro j d mm hd ⟨z10, z11, rfl⟩
              rw [List.getElem?_map] at hd
              obtain ⟨w, ew, rfl⟩ := Option.map_eq_some_iff.mp hd
              have tj : ((alF ps qs).take (j + 1)).foldl (fun a w => ex1 (dl2 ps qs) a x w) a = ex1 (dl2 ps qs) (((alF ps qs).take j).foldl (fun a w => ex1 (dl2 ps qs) a x w) a) x w := by
                rw [List.take_add_one, ew, List.foldl_append]; rfl
              have hb := exw_len (δ := dl2 ps qs) x ((alF ps qs).take j) a
              have htj : ((alF ps qs).take j).length ≤ 49 := by simp; omega
              simp only [tj]
              generalize ((alF ps qs).take j).foldl (fun a w => ex1 (dl2 ps qs) a x w) a = b at hb ⊢
              have hb1 : b.1.length ≤ 14000 := by omega
              have hb2 : b.2.length ≤ 14000 := by omega
              refine wg_name (by decide) ?_
              refine ws_seq (ws_set (by decide) (wd_tup (wa_cons (wd_call [] (wa_cons (wd_var rfl (by decide) (wa_cons (wd_op (wd_var rfl (by decide) (wd_int (o_ixT (d := rowT x.1.1) rfl (wa_cons (wd_var rfl (by decide) (wa_nil ⟨_, _, .nil, ps, x.1.1, w, rfl, gp, by omega, _, _, .nil, _, rfl, ?_ ⟩))))))))))))))
              refine wa_cons (wd_call [] (wa_cons (wd_var rfl (by decide) (wa_cons (wd_op (wd_var rfl (by decide) (wd_int (o_ixT (d := rowT x.1.2) rfl (wa_cons (wd_var rfl (by decide) (wa_nil ⟨_, _, .nil, qs, x.1.2, w, rfl, gq, by omega, _, _, .nil, _, rfl, wa_nil ⟨Nat.le_of_ble_eq_true rfl, ?_ ⟩⟩)))))))))))
              show wpS K 12 _ [.fz (patD ps), .fz (patD qs), .fz (.bl wt), .fz (strsD (alF ps qs)), .fz (keyT (s02 ps qs)), .ot p (.nd p b.1), .fz (.lst (lvD lv)), .fz (keyT x.1), .fz (strsD x.2), .ot p9 (.lst ((lvD b.2).map .lf)), .fz (.str w), .fz (keyT (dl2 ps qs x.1 w))] _ _ _
              refine ws_if (wt_test (wd_notInN (wd_var rfl (by decide) ⟨_, rfl, wd_varO rfl (by decide) ⟨p, 5, b.1, rfl, rfl, _, rfl, ite_b (fun h => ?_) (fun h => ?_) ⟩⟩)))
              · have hc : b.1.contains (dl2 ps qs x.1 w) = false := by simpa using h
                refine ws_seq (ws_ndPut (wd_bl ⟨rfl, wd_varO rfl (by decide) ⟨p, rfl, wd_var rfl (by decide) ⟨dl2 ps qs x.1 w, 5, b.1, rfl, rfl, by omega, hc, ?_⟩⟩⟩))
                refine ws_append (by decide) rfl (wd_tup (wa_cons (wd_var rfl (by decide) (wa_cons (wd_op (wd_var rfl (by decide) (wd_lst (wa_cons (wd_var rfl (by decide) (wa_nil ⟨Nat.le_of_ble_eq_true rfl, o_addL (by simp; omega) (wa_nil ⟨Nat.le_of_ble_eq_true rfl, _, rfl, by simp [lvD]; omega, .fz (.str w), .fz (keyT (dl2 ps qs x.1 w)), ?_ ⟩)⟩))))))))))
                rw [ex1_new fun z => by rw [List.contains_iff_mem.mpr z] at hc; cases hc]
                simp [lvD, strsD]
              · have hc : b.1.contains (dl2 ps qs x.1 w) = true := by simpa using h
                refine ws_next ⟨.fz (.str w), .fz (keyT (dl2 ps qs x.1 w)), ?_⟩
                rw [ex1_old (List.contains_iff_mem.mp hc)]
            · rintro mm ⟨z10, z11, rfl⟩
              refine ⟨.fz (keyT x.1), .fz (strsD x.2), z10, z11, ?_⟩
              rw [List.length_map, List.take_length]
              rfl
          · rintro mm ⟨z7, z8, z10, z11, rfl⟩
            refine ⟨z7, z8, z10, z11, ?_⟩
            have el : (lvD lv).length = lv.length := by simp [lvD]
            rw [el, List.take_length]
            rfl
        · rintro mm ⟨z7, z8, z10, z11, rfl⟩
          refine ws_set (by decide) (wd_freeze 9 rfl (wd_var rfl (by decide) ?_))
          rw [toD_lst]
          generalize exL (dl2 ps qs) (alF ps qs) sn lv = e at B2 ⊢
          have hsn2 := bf_len B2 lp lq
          have hlp : 0 < lv.length := List.length_pos_iff.mpr hne
          have hdl2 : dn.length + lv.length + e.2.length = e.1.length := by rw [B2.seen]; simp; omega
          refine ⟨2 * (256 - e.1.length) + (if e.2 = [] then 0 else 1), ?_, k + 1, dn ++ lv, e.2, e.1, _, _, _, _, _, rfl, B2, by rw [List.length_append]; omega, rfl⟩
          by_cases he : e.2 = []
          · rw [if_pos he]
            rw [he] at hdl2
            simp at hdl2
            omega
          · rw [if_neg he]
            have : 0 < e.2.length := List.length_pos_iff.mpr he
            omega
  · rintro mm ⟨k, dn, sn, z7, z8, z9, z10, z11, rfl, B⟩
    refine ws_ret (wd_non ⟨_, .fz (.fz (.fz .nil)), hP none fun u hu => ?_⟩)
    rw [← okW_eq]
    exact B.none u hu
end M
namespace M
open PySem PySem.Spec PyProof.Rows L2
/-! ### covers, apart, common, needless -/
open Classical in
noncomputable def cov (ps qs : List RP) : Bool := decide (∀ u, Over (alF ps qs) u → okW ps qs false u = false)
open Classical in
theorem SH_none {ps qs : List RP} {res : Option (List PySem.Str)} (h : SH ps qs false res) : isNone (resD res) = some (cov ps qs) := by
  unfold cov
  cases res with
  | none =>
    have : (∀ u, Over (alF ps qs) u → okW ps qs false u = false) := h
    simp only [resD, isNone]
    rw [decide_eq_true this]
  | some r =>
    obtain ⟨_, h1, h2, _⟩ := h
    have : ¬ (∀ u, Over (alF ps qs) u → okW ps qs false u = false) := fun z => by
      have := z r h1
      rw [h2] at this; cases this
    simp only [resD, isNone, strsD]
    rw [decide_eq_false this]
open Classical in
theorem cov_self (ps : List RP) : cov ps ps = true := by
  unfold cov
  refine decide_eq_true fun u _ => ?_
  unfold okW
  cases accB ps u <;> rfl
def Gd2 (ps : List RP) : Prop := (∀ r ∈ ps, r.ok) ∧ goodP ps = true ∧ ps.length ≤ 3
def fs_apart (K : PySem.W.Frag) : FS := fun ms P X => ∃ ps qs, ms = [.fz (patD ps), .fz (patD qs)] ∧ Gd2 ps ∧ Gd2 qs ∧ ∀ res, SH ps qs false res → P (.fz (resD res)) ms
/-- apart: slots 0 one, 1 other -/
def t_apart (K : PySem.W.Frag) : WX → TS := fun W => (tSeq (tDrop (tCallS (SpM K (fs_look_both K)) (WE W) (tCons (tVar 0) (tCons (tVar 1) tNil)))) (tRet (tCallS (SpM K (fs_shortest K)) (WE W) (tCons (tVar 0) (tCons (tVar 1) (tCons (tC (.bl false)) tNil))))))
theorem h_apart {K : PySem.W.Frag} : FsOk K 2 2 (fs_apart K) (t_apart K) := by
  intro ms P X hf
  obtain ⟨ps, qs, rfl, ⟨o1, g1, l1⟩, ⟨o2, g2, l2⟩, hP⟩ := hf
  refine ⟨rfl, ?_⟩
  unfold t_apart
  refine ws_seq (ws_drop (wd_call [] (wa_cons (wd_var rfl (by decide) (wa_cons (wd_var rfl (by decide) (wa_nil ⟨_, _, .nil, ps, qs, rfl, o1, o2, g1, g2, _, _, .nil, _, rfl, ?_ ⟩)))))))
  refine ws_ret (wd_call [] (wa_cons (wd_var rfl (by decide) (wa_cons (wd_var rfl (by decide) (wa_cons (wd_bl (wa_nil ⟨_, _, .nil, ps, qs, false, rfl, o1, o2, g1, g2, l1, l2, fun res h => ⟨_, _, .nil, _, rfl, _, .fz (.fz .nil), hP res h ⟩⟩))))))))
def fs_common (K : PySem.W.Frag) : FS := fun ms P X => ∃ ps qs, ms = [.fz (patD ps), .fz (patD qs)] ∧ Gd2 ps ∧ Gd2 qs ∧ ∀ res, SH ps qs true res → P (.fz (resD res)) ms
/-- common: slots 0 one, 1 other -/
def t_common (K : PySem.W.Frag) : WX → TS := fun W => (tSeq (tDrop (tCallS (SpM K (fs_look_both K)) (WE W) (tCons (tVar 0) (tCons (tVar 1) tNil)))) (tRet (tCallS (SpM K (fs_shortest K)) (WE W) (tCons (tVar 0) (tCons (tVar 1) (tCons (tC (.bl true)) tNil))))))
theorem h_common {K : PySem.W.Frag} : FsOk K 2 2 (fs_common K) (t_common K) := by
  intro ms P X hf
  obtain ⟨ps, qs, rfl, ⟨o1, g1, l1⟩, ⟨o2, g2, l2⟩, hP⟩ := hf
  refine ⟨rfl, ?_⟩
  unfold t_common
  refine ws_seq (ws_drop (wd_call [] (wa_cons (wd_var rfl (by decide) (wa_cons (wd_var rfl (by decide) (wa_nil ⟨_, _, .nil, ps, qs, rfl, o1, o2, g1, g2, _, _, .nil, _, rfl, ?_ ⟩)))))))
  refine ws_ret (wd_call [] (wa_cons (wd_var rfl (by decide) (wa_cons (wd_var rfl (by decide) (wa_cons (wd_bl (wa_nil ⟨_, _, .nil, ps, qs, true, rfl, o1, o2, g1, g2, l1, l2, fun res h => ⟨_, _, .nil, _, rfl, _, .fz (.fz .nil), hP res h ⟩⟩))))))))
def fs_covers (K : PySem.W.Frag) : FS := fun ms P X => ∃ ps qs, ms = [.fz (patD ps), .fz (patD qs)] ∧ Gd2 ps ∧ Gd2 qs ∧ P (.fz (.bl (cov qs ps))) ms
/-- covers: slots 0 one, 1 other -/
def t_covers (K : PySem.W.Frag) : WX → TS := fun W => (tSeq (tDrop (tCallS (SpM K (fs_look_both K)) (WE W) (tCons (tVar 0) (tCons (tVar 1) tNil)))) (tRet (tOp rIsN (tCallS (SpM K (fs_shortest K)) (WE W) (tCons (tVar 1) (tCons (tVar 0) (tCons (tC (.bl false)) tNil)))) (tC .non))))
theorem h_covers {K : PySem.W.Frag} : FsOk K 2 2 (fs_covers K) (t_covers K) := by
  intro ms P X hf
  obtain ⟨ps, qs, rfl, ⟨o1, g1, l1⟩, ⟨o2, g2, l2⟩, hP⟩ := hf
  refine ⟨rfl, ?_⟩
  unfold t_covers
  refine ws_seq (ws_drop (wd_call [] (wa_cons (wd_var rfl (by decide) (wa_cons (wd_var rfl (by decide) (wa_nil ⟨_, _, .nil, ps, qs, rfl, o1, o2, g1, g2, _, _, .nil, _, rfl, ?_ ⟩)))))))
  refine ws_ret (wd_op (wd_call [] (wa_cons (wd_var rfl (by decide) (wa_cons (wd_var rfl (by decide) (wa_cons (wd_bl (wa_nil ⟨_, _, .nil, qs, ps, false, rfl, o2, o1, g2, g1, l2, l1, fun res h => ⟨_, _, .nil, _, rfl, wd_non (o_isN (SH_none h) ⟨_, .fz (.fz .nil), hP⟩)⟩⟩)))))))))
noncomputable def smT (rows : List (List RP)) (k j : Nat) : Bool := !decide (j = k) && cov (rows.getD k []) (rows.getD j [])
noncomputable def ndT (rows : List (List RP)) (k j : Nat) : Bool := decide (j < k) || !cov (rows.getD j []) (rows.getD k [])
noncomputable def smF (rows : List (List RP)) (k : Nat) : List Nat := (List.range rows.length).filter (smT rows k)
noncomputable def ndB (rows : List (List RP)) (k : Nat) : Bool := (smF rows k).any (ndT rows k)
noncomputable def ndF (rows : List (List RP)) : List Nat := (List.range rows.length).filter (ndB rows)
def natF (d : D) : Nat := match d with | .int i => i.toNat | _ => 0
theorem filt_rng (n : Nat) (f : Nat → Bool) : ((rngD 0 n).filter fun d => f (natF d)) = ((List.range n).filter f).map fun i : Nat => D.int (i : Int) := by
  unfold rngD
  rw [List.filter_map]
  have e : ((fun d => f (natF d)) ∘ fun i : Nat => D.int (0 + (i : Int))) = f := by
    funext i; simp [natF]
  rw [e]
  apply List.map_congr_left
  intro i _
  simp
theorem smF_mem {rows : List (List RP)} {k j : Nat} (h : j ∈ smF rows k) : j < rows.length := List.mem_range.mp (List.mem_filter.mp h).1
def GdR (rows : List (List RP)) : Prop := rows.length ≤ 10 ∧ ∀ ps ∈ rows, Gd2 ps
theorem GdR.at {rows : List (List RP)} (h : GdR rows) {j : Nat} (hj : j < rows.length) : Gd2 (rows.getD j []) := by
  rw [List.getD_eq_getElem?_getD, List.getElem?_eq_getElem hj]
  exact h.2 _ (List.getElem_mem hj)
theorem row_ix {rows : List (List RP)} {j : Nat} (hj : j < rows.length) : L2.atI (rows.map patD) (j : Int) = some (patD (rows.getD j [])) := atI_at (by
  rw [List.getElem?_map, List.getD_eq_getElem?_getD, List.getElem?_eq_getElem hj]; rfl)
def fs_needless (K : PySem.W.Frag) : FS := fun ms P X => ∃ rows, ms = [.fz (.lst (rows.map patD))] ∧ GdR rows ∧ P (.fz (natsD (ndF rows))) ms
/-- needless: slots 0 patterns, 1 pattern, 2 found, 3 k, 4 some, 5 j -/
def t_needless (K : PySem.W.Frag) : WX → TS := fun W => (tSeq (tFor (iList K (tVar 0)) (gName 1) (tDrop (tCallS (SpM K (fs_look_pattern K)) (WE W) (tCons (tVar 1) tNil)))) (tSeq (tAsg (tLst tNil) (gName 2)) (tSeq (tFor (iRng1 (tCons (tCB (rLenA K) (tCons (tVar 0) tNil)) tNil)) (gName 3) (tSeq (tAsg (tLcW (iRng1 (tCons (tCB (rLenA K) (tCons (tVar 0) tNil)) tNil)) (gName 5) (fun W => (tAnd (tTest (tOp (rNeA K) (tVar 5) (tVar 3))) (tB (tCallS (SpM K (fs_covers K)) (WE W) (tCons (tOp (rIxA K) (tVar 0) (tVar 5)) (tCons (tOp (rIxA K) (tVar 0) (tVar 3)) tNil)))))) (fun W => (tVar 5)) [5]) (gName 4)) (tIfS (tB (tCB (rAny K) (tCons (tLcW (iList K (tVar 4)) (gName 5) (fun W => tYes) (fun W => (tOrV (tOp (rI0 fun i j => .bl (decide (i < j))) (tVar 5) (tVar 3)) (tNotV (tCallS (SpM K (fs_covers K)) (WE W) (tCons (tOp (rIxA K) (tVar 0) (tVar 3)) (tCons (tOp (rIxA K) (tVar 0) (tVar 5)) tNil)))))) [5]) tNil))) (tDrop (tBM K "list" rAppend (tVar 2) (tCons (tVar 3) tNil))) tNext))) (tRet (tVar 2)))))
theorem h_needless {K : PySem.W.Frag} : FsOk K 1 6 (fs_needless K) (t_needless K) := by
  intro ms P X hf
  obtain ⟨rows, rfl, hg, hP⟩ := hf
  have hl := hg.1
  refine ⟨rfl, ?_⟩
  unfold t_needless
  refine ws_cut (fun m => ∃ z1, m = [.fz (.lst (rows.map patD)), z1, .un, .un, .un, .un]) ?_ ?_
  · refine ws_for (wi_list (wd_var rfl (by decide) ⟨_, rfl, fun i m => ∃ z1, m = [.fz (.lst (rows.map patD)), z1, .un, .un, .un, .un], ⟨_, rfl⟩, ?_, fun m h => h⟩))
    rintro i d mm hd ⟨z1, rfl⟩
    rw [List.getElem?_map] at hd
    obtain ⟨ps, ep, rfl⟩ := Option.map_eq_some_iff.mp hd
    obtain ⟨o1, g1, l1⟩ := hg.2 ps (List.mem_of_getElem? ep)
    refine wg_name (by decide) (ws_drop (wd_call [] (wa_cons (wd_var rfl (by decide) (wa_nil ⟨_, _, .nil, ps, rfl, by omega, o1, fun _ => ⟨_, _, .nil, _, rfl, _, rfl⟩, fun z => by rw [g1] at z; cases z ⟩)))))
  · rintro mm ⟨z1, rfl⟩
    refine ws_seq (ws_setN (by decide) (wn_lst (wa_nil ⟨by decide, fun p => ?_⟩)))
    refine ws_cut (fun m => ∃ z3 z4, m = [.fz (.lst (rows.map patD)), z1, .ot p (.lst (((ndF rows).map fun i : Nat => D.int (i : Int)).map .lf)), z3, z4, .un]) ?_ ?_
    · refine ws_for (wi_rng1 (wa_cons (wd_cb (wa_cons (wd_var rfl (by decide) (wa_nil (c_len (m := rows.length) (by simp [lenD]) (by omega) (wa_nil ⟨_, rfl, by omega, by omega, ?_ ⟩))))))))
      refine ⟨fun i m => ∃ z3 z4, m = [.fz (.lst (rows.map patD)), z1, .ot p (.lst ((((List.range i).filter (ndB rows)).map fun i : Nat => D.int (i : Int)).map .lf)), z3, z4, .un], ⟨_, _, rfl⟩, ?_, ?_⟩
      · rintro k d mm hd ⟨z3, z4, rfl⟩
        obtain ⟨hk, rfl⟩ := rngD_at hd
        have hk' : k < rows.length := by omega
        have gk := hg.at hk'
        have ixk := row_ix hk'
        have ek : (0 + (k : Int)) = (k : Int) := by omega
        rw [ek]
        refine wg_name (by decide) ?_
        refine ws_seq (ws_set (by decide) (wd_lcMap (by simp) (gok_name (by simp)) (wi_rng1 (wa_cons (wd_cb (wa_cons (wd_var rfl (by decide) (wa_nil (c_len (m := rows.length) (by simp [lenD]) (by omega) (wa_nil ⟨_, rfl, by omega, by omega, ?_ ⟩))))))))))
        refine ⟨by rw [rngD_len]; omega, fun d => smT rows k (natF d), fun d => d, fun d hd => ?_, ?_⟩
        · obtain ⟨j, hj⟩ := List.getElem?_of_mem hd
          obtain ⟨hjl, rfl⟩ := rngD_at hj
          have hj' : j < rows.length := by omega
          have ej : (0 + (j : Int)) = (j : Int) := by omega
          rw [ej]
          have en : natF (D.int (j : Int)) = j := by simp [natF]
          refine wg_name (by decide) (wt_and (wt_test (wd_op (wd_var rfl (by decide) (wd_var rfl (by decide) (o_neI ⟨_, rfl, ?_ ⟩))))))
          have ed : decide ((j : Int) = (k : Int)) = decide (j = k) := by
            by_cases e : j = k
            · subst e; simp
            · have : ¬ ((j : Int) = (k : Int)) := by omega
              simp [e, this]
          have ef : smT rows k (natF (D.int (j : Int))) = (!decide (j = k) && cov (rows.getD k []) (rows.getD j [])) := by rw [en]; rfl
          rw [ed]
          refine ite_b (fun h => ?_) (fun h => ⟨by show false = smT rows k (natF (D.int (j : Int))); rw [ef, h]; rfl, rfl, fun z => by cases z⟩)
          refine wt_B (wd_call [] (wa_cons (wd_op (wd_var rfl (by decide) (wd_var rfl (by decide) (o_ixL (row_ix hj') (wa_cons (wd_op (wd_var rfl (by decide) (wd_var rfl (by decide) (o_ixL ixk (wa_nil ⟨_, _, .nil, _, _, rfl, hg.at hj', gk, _, _, .nil, _, rfl, _, rfl, by show _ = smT rows k (natF (D.int (j : Int))); rw [ef, h]; rfl, rfl, fun _ => wd_var rfl (by decide) ⟨rfl, rfl⟩⟩))))))))))))
        · have e1 : (rngD 0 ((rows.length : Int)).toNat).filter (fun d => smT rows k (natF d)) = (smF rows k).map fun i : Nat => D.int (i : Int) := by
            rw [filt_rng]; rfl
          rw [e1]
          have e2 : ((smF rows k).map fun i : Nat => D.int (i : Int)).map (fun d => d) = (smF rows k).map fun i : Nat => D.int (i : Int) := List.map_id' _
          rw [e2]
          show wpS K 6 _ [.fz (.lst (rows.map patD)), z1, .ot p (.lst ((((List.range k).filter (ndB rows)).map fun i : Nat => D.int (i : Int)).map .lf)), .fz (.int (k : Int)), .fz (natsD (smF rows k)), .un] _ _ _
          have hsl : (smF rows k).length ≤ rows.length := by
            have := List.length_filter_le (smT rows k) (List.range rows.length)
            simpa [smF] using this
          refine ws_if (wt_B (wd_cb (wa_cons (wd_lcMap (by simp) (gok_name (by simp)) (wi_list (wd_var rfl (by decide) ⟨_, rfl, ?_ ⟩))))))
          refine ⟨by simp; omega, fun _ => true, fun d => .bl (ndT rows k (natF d)), fun d hd => ?_, ?_⟩
          · obtain ⟨j, hj, rfl⟩ := List.mem_map.mp hd
            have hj' := smF_mem hj
            have en : natF (D.int (j : Int)) = j := by simp [natF]
            refine wg_name (by decide) (wt_yes ⟨rfl, rfl, fun _ => ?_⟩)
            refine wd_orV (wd_op (wd_var rfl (by decide) (wd_var rfl (by decide) (o_I0b ⟨_, rfl, ?_ ⟩))))
            have ed : decide ((j : Int) < (k : Int)) = decide (j < k) := by
              by_cases e : j < k
              · have : ((j : Int) < (k : Int)) := by omega
                simp [e, this]
              · have : ¬ ((j : Int) < (k : Int)) := by omega
                simp [e, this]
            have ef : ndT rows k (natF (D.int (j : Int))) = (decide (j < k) || !cov (rows.getD j []) (rows.getD k [])) := by rw [en]; rfl
            rw [ed]
            refine ite_b (fun h => ⟨by show D.bl true = D.bl (ndT rows k (natF (D.int (j : Int)))); rw [ef, h]; rfl, rfl⟩) (fun h => ?_)
            refine wd_notV (wd_call [] (wa_cons (wd_op (wd_var rfl (by decide) (wd_var rfl (by decide) (o_ixL ixk (wa_cons (wd_op (wd_var rfl (by decide) (wd_var rfl (by decide) (o_ixL (row_ix hj') (wa_nil ⟨_, _, .nil, _, _, rfl, gk, hg.at hj', _, _, .nil, _, rfl, _, rfl, by show _ = D.bl (ndT rows k (natF (D.int (j : Int)))); rw [ef, h]; rfl, rfl⟩))))))))))))
          · rw [filt_true]
            have e3 : ((smF rows k).map fun i : Nat => D.int (i : Int)).map (fun d => D.bl (ndT rows k (natF d))) = ((smF rows k).map (ndT rows k)).map .bl := by
              rw [List.map_map, List.map_map]
              apply List.map_congr_left
              intro j _
              simp [natF]
            rw [e3]
            refine wa_nil (c_any ⟨_, rfl, ?_⟩)
            have e4 : (((smF rows k).map (ndT rows k)).any id) = ndB rows k := by
              rw [List.any_map]; rfl
            rw [e4]
            have rs : (List.range (k + 1)).filter (ndB rows) = (List.range k).filter (ndB rows) ++ (if ndB rows k then [k] else []) := by
              rw [List.range_succ, List.filter_append]
              cases h : ndB rows k <;> simp [h]
            have hfl : ((List.range k).filter (ndB rows)).length ≤ k := by
              have := List.length_filter_le (ndB rows) (List.range k)
              simpa using this
            refine ite_b (fun h => ?_) (fun h => ?_)
            · refine ws_append (by decide) rfl (wd_var rfl (by decide) ⟨_, rfl, by simp; omega, .fz (.int (k : Int)), .fz (natsD (smF rows k)), ?_⟩)
              rw [rs, h]
              simp [wipeM]
            · refine ws_next ⟨.fz (.int (k : Int)), .fz (natsD (smF rows k)), ?_⟩
              rw [rs, h]
              simp [wipeM]
      · rintro mm ⟨z3, z4, rfl⟩
        rw [rngD_len]
        exact ⟨z3, z4, rfl⟩
    · rintro mm ⟨z3, z4, rfl⟩
      refine ws_ret (wd_freeze 2 rfl (wd_var rfl (by decide) ⟨_, .fz .nil, ?_⟩))
      rw [toD_lst]
      exact hP
end M
namespace M
open PySem PySem.Spec PyProof.Rows L2
/-! ### the law's helpers -/
abbrev rInt1 : List V → Hp → VK → Prop := fun xs H Q => (∃ i, xs = [.int i] ∧ Q (.int i) H) ∨ ∃ k, xs = [.bl k] ∧ Q (.int (if k then 1 else 0)) H
theorem c_intB {K : PySem.W.Frag} {P : D → Prop} {b : Bool} (h : P (.int (if b then 1 else 0))) : cbD K rInt1 [.bl b] P := by
  intro xs F H Q r s k
  cases r with
  | cons r1 r2 =>
    cases r2
    cases r1
    exact .inr ⟨b, rfl, k _ _ F H h .refl (.int _)⟩
theorem heF_lt {ws : List PySem.Str} {ps : List RP} {k : Nat} (h : k ∈ heF ws ps) : k ≤ ws.length := ((heF_mem ps k).mp h).1
theorem heF_nd (ws : List PySem.Str) (ps : List RP) : (heF ws ps).Nodup := by
  refine snoc_ind (P := fun ps => (heF ws ps).Nodup) (by simp [heF]) (fun ps r _ => ?_) ps
  rw [heF_snoc]
  exact sorted_nodup soN (srtU_sorted soN _)
theorem heF_len (ws : List PySem.Str) (ps : List RP) : (heF ws ps).length ≤ ws.length + 1 := small_keys (heF_nd ws ps) fun x hx => heF_lt hx
theorem laF_app (r : RP) (ws : List PySem.Str) (a b : List Nat) : laF r ws (a ++ b) = laF r ws a ++ laF r ws b := by simp [laF]
theorem la1_len (r : RP) (ws : List PySem.Str) (i : Nat) : (laF r ws [i]).length ≤ ws.length + 1 := by
  unfold laF
  simp only [List.flatMap_cons, List.flatMap_nil, List.append_nil]
  split
  · simp
  · cases ws[i]? with
    | none => simp
    | some w =>
      simp only
      split <;> simp
theorem laF_len (r : RP) (ws : List PySem.Str) : ∀ here : List Nat, (laF r ws here).length ≤ here.length * (ws.length + 1)
  | [] => by simp [laF]
  | i :: here => by
    have h1 := la1_len r ws i
    have h2 := laF_len r ws here
    have := laF_app r ws [i] here
    rw [List.singleton_append] at this
    rw [this, List.length_append, List.length_cons, Nat.add_mul]
    omega
theorem la1_any {r : RP} {ws : List PySem.Str} {i : Nat} (h : isAny r = true) : laF r ws [i] = (List.range (ws.length + 1 - i)).map fun k => i + k := by
  unfold laF; simp [h]
theorem la1_take {r : RP} {ws : List PySem.Str} {i : Nat} {w : PySem.Str} (h : isAny r = false) (e : ws[i]? = some w) : laF r ws [i] = (List.replicate (if takesB r w then (1 : Int) else 0).toNat [i + 1]).flatten := by
  unfold laF
  simp only [List.flatMap_cons, List.flatMap_nil, List.append_nil, h, e]
  cases takesB r w <;> simp
theorem la1_none {r : RP} {ws : List PySem.Str} {i : Nat} (h : isAny r = false) (e : ws[i]? = none) : laF r ws [i] = [] := by
  unfold laF
  simp [h, e]
def fs__law_fits (K : PySem.W.Frag) : FS := fun ms P X => ∃ ps ws, ms = [.fz (patD ps), .fz (strsD ws)] ∧ GoodPs ps ∧ ws.length ≤ 300 ∧ P (.fz (.bl (accB ps ws))) ms
/-- _law_fits: slots 0 pattern, 1 words, 2 here, 3 kind, 4 what, 5 later, 6 at, 7 some -/
def t__law_fits (K : PySem.W.Frag) : WX → TS := fun W => (tSeq (tAsg (tLst (tCons (tC (.int 0)) tNil)) (gName 2)) (tSeq (tFor (iList K (tVar 0)) (gTup K 2 (gCons (gName 3) (gCons (gName 4) gNil))) (tSeq (tAsg (tLst tNil) (gName 5)) (tSeq (tFor (iList K (tVar 2)) (gName 6) (tIfS (tTest (tOp (rEqA K) (tVar 3) (tC (.str "any")))) (tAsg (tOp (rAddA K) (tVar 5) (tLstRg (tRg2 (tVar 6) (tOp (rAddA K) (tCB (rLenA K) (tCons (tVar 1) tNil)) (tC (.int 1)))))) (gName 5)) (tIfS (tTest (tOp (rI0 fun i j => .bl (decide (i < j))) (tVar 6) (tCB (rLenA K) (tCons (tVar 1) tNil)))) (tSeq (tAsg (tIf (tTest (tOp (rEqA K) (tVar 3) (tC (.str "one")))) (tLst (tCons (tOp (rIxA K) (tVar 1) (tVar 6)) tNil)) (tIf (tTest (tOp (rEqA K) (tVar 3) (tC (.str "of")))) (tVar 4) (tLst (tCons (tVar 4) tNil)))) (gName 7)) (tAsg (tOp (rAddA K) (tVar 5) (tOp rMulA (tLst (tCons (tOp (rAddA K) (tVar 6) (tC (.int 1))) tNil)) (tCB rInt1 (tCons (tOp (rInA K) (tOp (rIxA K) (tVar 1) (tVar 6)) (tVar 7)) tNil)))) (gName 5))) tNext))) (tAsg (tSortSetI K (tVar 5)) (gName 2))))) (tRet (tOp (rInA K) (tCB (rLenA K) (tCons (tVar 1) tNil)) (tVar 2)))))
theorem h__law_fits {K : PySem.W.Frag} : FsOk K 2 8 (fs__law_fits K) (t__law_fits K) := by
  intro ms P X hf
  obtain ⟨ps, ws, rfl, hg, hw, hP⟩ := hf
  refine ⟨rfl, ?_⟩
  unfold t__law_fits
  refine ws_seq (ws_set (by decide) (wd_lst (wa_cons (wd_int (wa_nil ⟨Nat.le_of_ble_eq_true rfl, ?_ ⟩)))))
  refine ws_cut (fun m => ∃ z3 z4 z5 z6 z7, m = [.fz (patD ps), .fz (strsD ws), .fz (natsD (heF ws ps)), z3, z4, z5, z6, z7]) ?_ ?_
  · refine ws_for (wi_list (wd_var rfl (by decide) ⟨_, rfl, ?_⟩))
    refine ⟨fun i m => ∃ z3 z4 z5 z6 z7, m = [.fz (patD ps), .fz (strsD ws), .fz (natsD (heF ws (ps.take i))), z3, z4, z5, z6, z7], ⟨_, _, _, _, _, rfl⟩, ?_, ?_⟩
    · rintro i d mm hd ⟨z3, z4, z5, z6, z7, rfl⟩
      rw [List.getElem?_map] at hd
      obtain ⟨r, er, rfl⟩ := Option.map_eq_some_iff.mp hd
      obtain ⟨hok, hgr⟩ := hg.at er
      have tk : heF ws (ps.take (i + 1)) = srtN (laF r ws (heF ws (ps.take i))) := by rw [List.take_add_one, er]; exact heF_snoc _ _ _
      have hhl := heF_len ws (ps.take i)
      have hlt : ∀ x ∈ heF ws (ps.take i), x ≤ ws.length := fun x hx => heF_lt hx
      simp only [tk]
      generalize heF ws (ps.take i) = here at hhl hlt ⊢
      rw [good_rp hgr]
      refine wg_tup rfl (wgs_cons (wg_name (by decide) (wgs_cons (wg_name (by decide) (wgs_nil ?_)))))
      refine ws_seq (ws_set (by decide) (wd_lst (wa_nil ⟨Nat.le_of_ble_eq_true rfl, ?_ ⟩)))
      refine ws_cut (fun m => ∃ z6 z7, m = [.fz (patD ps), .fz (strsD ws), .fz (natsD here), .fz (.str r.kind), .fz r.arg, .fz (natsD (laF r ws here)), z6, z7]) ?_ ?_
      · refine ws_for (wi_list (wd_var rfl (by decide) ⟨_, rfl, ?_⟩))
        refine ⟨fun j m => ∃ z6 z7, m = [.fz (patD ps), .fz (strsD ws), .fz (natsD here), .fz (.str r.kind), .fz r.arg, .fz (natsD (laF r ws (here.take j))), z6, z7], ⟨_, _, rfl⟩, ?_, ?_⟩
        · rintro j d mm hd ⟨z6, z7, rfl⟩
          rw [List.getElem?_map] at hd
          obtain ⟨a, ea, rfl⟩ := Option.map_eq_some_iff.mp hd
          have haw := hlt a (List.mem_of_getElem? ea)
          have tj : laF r ws (here.take (j + 1)) = laF r ws (here.take j) ++ laF r ws [a] := by rw [List.take_add_one, ea, laF_app]; rfl
          have hl1 := la1_len r ws a
          have hl2 : (laF r ws (here.take j)).length ≤ 301 * 301 := by
            have h1 := laF_len r ws (here.take j)
            have h2 : (here.take j).length ≤ 301 := by simp; omega
            have h3 := Nat.mul_le_mul h2 (show ws.length + 1 ≤ 301 by omega)
            omega
          simp only [tj]
          generalize laF r ws (here.take j) = lat at hl2 ⊢
          refine wg_name (by decide) (ws_if (wt_test (wd_op (wd_var rfl (by decide) (wd_str (o_eqS ⟨_, rfl, ite_b (fun h => ?_) (fun h => ?_) ⟩))))))
          · have ha : isAny r = true := h
            refine ws_set (by decide) (wd_op (wd_var rfl (by decide) (wd_lstRg2 (wd_var rfl (by decide) ⟨a, rfl, by omega, wd_op (wd_cb (wa_cons (wd_var rfl (by decide) (wa_nil (c_len (m := ws.length) (by simp [lenD, strsD]) (by omega) (wd_int (o_addI ⟨ws.length + 1, by simp, by omega, o_addL (by simp; omega) ⟨.fz (.int (a : Int)), z7, ?_ ⟩⟩)))))))⟩))))
            rw [la1_any ha]
            simp
          · have ha : isAny r = false := h
            refine ws_if (wt_test (wd_op (wd_var rfl (by decide) (wd_cb (wa_cons (wd_var rfl (by decide) (wa_nil (c_len (m := ws.length) (by simp [lenD, strsD]) (by omega) (o_I0b ⟨_, rfl, ?_ ⟩)))))))))
            by_cases hal : a < ws.length
            · refine ite_t (decide_eq_true (by omega)) ?_
              have ew : ws[a]? = some ws[a] := List.getElem?_eq_getElem hal
              generalize ws[a] = w at ew
              have ixw : atI (ws.map D.str) (a : Int) = some (.str w) := atI_at (by rw [List.getElem?_map, ew]; rfl)
              refine ws_cut (fun m => ∃ sm : List PySem.Str, m = [.fz (patD ps), .fz (strsD ws), .fz (natsD here), .fz (.str r.kind), .fz r.arg, .fz (natsD lat), .fz (.int (a : Int)), .fz (strsD sm)] ∧ decide (w ∈ sm) = takesB r w) ?_ ?_
              · refine ws_set (by decide) (wd_if (wt_test (wd_op (wd_var rfl (by decide) (wd_str (o_eqS ⟨_, rfl, ite_b (fun h1 => ?_) (fun h1 => ?_) ⟩))))))
                · refine wd_lst (wa_cons (wd_op (wd_var rfl (by decide) (wd_var rfl (by decide) (o_ixL ixw (wa_nil ⟨Nat.le_of_ble_eq_true rfl, [w], rfl, ?_ ⟩))))))
                  have hk := of_decide_eq_true h1
                  cases r with
                  | of l => exact absurd hk (show ¬ (("of" : PySem.Str) = "one") by decide +kernel)
                  | ot k s ex => simp only [RP.kind] at hk; simp [takesB, hk]
                · refine wd_if (wt_test (wd_op (wd_var rfl (by decide) (wd_str (o_eqS ⟨_, rfl, ite_b (fun h2 => ?_) (fun h2 => ?_) ⟩)))))
                  · cases r with
                    | of l => exact wd_var rfl (by decide) ⟨l, rfl, rfl⟩
                    | ot k s ex => exact absurd (of_decide_eq_true h2) hok.1
                  · have hk := of_decide_eq_false h2
                    have hk1 := of_decide_eq_false h1
                    cases r with
                    | of l => exact absurd rfl hk
                    | ot k s ex =>
                      refine wd_lst (wa_cons (wd_var rfl (by decide) (wa_nil ⟨Nat.le_of_ble_eq_true rfl, [s], rfl, ?_ ⟩)))
                      simp only [RP.kind] at hk1
                      simp [takesB, hk1]
              · rintro m ⟨sm, rfl, hsm⟩
                refine ws_set (by decide) (wd_op (wd_var rfl (by decide) (wd_op (wd_lst (wa_cons (wd_op (wd_var rfl (by decide) (wd_int (o_addI (wa_nil ⟨Nat.le_of_ble_eq_true rfl, wd_cb (wa_cons (wd_op (wd_op (wd_var rfl (by decide) (wd_var rfl (by decide) (o_ixL ixw (wd_var rfl (by decide) (o_inL rfl (strs_flat _) ?_ ))))))))⟩))))))))))
                rw [inD_strs, hsm]
                refine wa_nil (c_intB (o_mulL (by split <;> omega) (by split <;> omega) (Nat.le_of_ble_eq_true rfl) (o_addL ?_ ⟨.fz (.int (a : Int)), .fz (strsD sm), ?_⟩)))
                · cases takesB r w <;> simp <;> omega
                · rw [la1_take ha ew]
                  cases takesB r w <;> simp
            · refine ite_f (decide_eq_false (by omega)) (ws_next ⟨.fz (.int (a : Int)), z7, ?_⟩)
              rw [la1_none ha (List.getElem?_eq_none (by omega))]
              simp
        · rintro mm ⟨z6, z7, rfl⟩
          refine ⟨z6, z7, ?_⟩
          simp
      · rintro mm ⟨z6, z7, rfl⟩
        refine ws_set (by decide) (wd_sortSetI (wd_var rfl (by decide) ⟨_, rfl, fun x hx => ?_, _, _, _, _, _, rfl⟩))
        obtain ⟨i, hi, h⟩ := laF_mem.mp hx
        have := hlt i hi
        rcases h with ⟨_, _, h⟩ | ⟨_, h, _⟩ <;> omega
    · rintro mm ⟨z3, z4, z5, z6, z7, rfl⟩
      refine ⟨z3, z4, z5, z6, z7, ?_⟩
      simp
  · rintro mm ⟨z3, z4, z5, z6, z7, rfl⟩
    refine ws_ret (wd_op (wd_cb (wa_cons (wd_var rfl (by decide) (wa_nil (c_len (m := ws.length) (by simp [lenD, strsD]) (by omega) (wd_var rfl (by decide) (o_inL rfl (nats_flat _) ⟨_, .fz (.fz .nil), ?_ ⟩))))))))
    rw [inD_nats, fits_eq]
    exact hP
end M
namespace M
open PySem PySem.Spec PyProof.Rows L2
/-! ### all lists of words, in order -/
section
variable {α : Type} [DecidableEq α]
def lvF (ws : List α) : Nat → List (List α)
  | 0 => [[]]
  | k + 1 => (lvF ws k).flatMap fun r => ws.map fun w => r ++ [w]
def allF (ws : List α) : Nat → List (List α)
  | 0 => [[]]
  | k + 1 => allF ws k ++ lvF ws (k + 1)
theorem lvF_mem {ws : List α} : ∀ {k : Nat} {u : List α}, u ∈ lvF ws k ↔ Over ws u ∧ u.length = k
  | 0, u => by
    simp only [lvF, List.mem_singleton]
    constructor
    · rintro rfl; exact ⟨Over.nil, rfl⟩
    · rintro ⟨_, h⟩; exact List.length_eq_zero_iff.mp h
  | k + 1, u => by
    simp only [lvF, List.mem_flatMap, List.mem_map]
    constructor
    · rintro ⟨r, hr, w, hw, rfl⟩
      obtain ⟨h1, h2⟩ := lvF_mem.mp hr
      exact ⟨Over.snoc.mpr ⟨h1, hw⟩, by simp [h2]⟩
    · rintro ⟨h1, h2⟩
      have hne : u ≠ [] := by intro e; rw [e] at h2; simp at h2
      have eu := (List.dropLast_concat_getLast hne).symm
      generalize u.dropLast = v at eu
      generalize u.getLast hne = w at eu
      subst eu
      obtain ⟨a, b⟩ := Over.snoc.mp h1
      exact ⟨v, lvF_mem.mpr ⟨a, by simpa using h2⟩, w, b, rfl⟩
theorem lvF_so {ws : List α} (nd : ws.Nodup) : ∀ k : Nat, (lvF ws k).Pairwise fun u v => cod ws u < cod ws v
  | 0 => by simp [lvF]
  | k + 1 => by
    unfold lvF
    rw [List.pairwise_flatMap]
    refine ⟨fun r _ => ?_, (lvF_so nd k).imp_of_mem fun {r r'} _ _ h u hu v hv => ?_⟩
    · rw [List.pairwise_map, List.pairwise_iff_getElem]
      intro i j hi hj hij
      rw [cod_snoc, cod_snoc]
      have e1 : ws.idxOf ws[i] = i := nd.idxOf_getElem i hi
      have e2 : ws.idxOf ws[j] = j := nd.idxOf_getElem j hj
      omega
    · obtain ⟨w, hw, rfl⟩ := List.mem_map.mp hu
      obtain ⟨w', hw', rfl⟩ := List.mem_map.mp hv
      rw [cod_snoc, cod_snoc]
      have hi : ws.idxOf w < ws.length := List.idxOf_lt_length_iff.mpr hw
      have := Nat.mul_le_mul_right ws.length (show cod ws r + 1 ≤ cod ws r' from h)
      rw [Nat.add_mul] at this
      omega
theorem allF_mem {ws : List α} : ∀ {k : Nat} {u : List α}, u ∈ allF ws k ↔ Over ws u ∧ u.length ≤ k
  | 0, u => by
    simp only [allF, List.mem_singleton]
    constructor
    · rintro rfl; exact ⟨Over.nil, Nat.le_refl _⟩
    · rintro ⟨_, h⟩; exact List.length_eq_zero_iff.mp (by omega)
  | k + 1, u => by
    unfold allF
    rw [List.mem_append, allF_mem, lvF_mem]
    constructor
    · rintro (⟨h1, h2⟩ | ⟨h1, h2⟩)
      · exact ⟨h1, by omega⟩
      · exact ⟨h1, by omega⟩
    · rintro ⟨h1, h2⟩
      by_cases e : u.length = k + 1
      · exact .inr ⟨h1, e⟩
      · exact .inl ⟨h1, by omega⟩
theorem allF_so {ws : List α} (nd : ws.Nodup) : ∀ k : Nat, (allF ws k).Pairwise fun u v => cod ws u < cod ws v
  | 0 => by simp [allF]
  | k + 1 => by
    unfold allF
    rw [List.pairwise_append]
    refine ⟨allF_so nd k, lvF_so nd (k + 1), fun u hu v hv => ?_⟩
    obtain ⟨h1, h2⟩ := allF_mem.mp hu
    obtain ⟨h3, h4⟩ := lvF_mem.mp hv
    exact cod_len h1 h3 (by omega)
theorem lvF_len {ws : List α} {m : Nat} (h : ws.length ≤ m) : ∀ k : Nat, (lvF ws k).length ≤ m ^ k
  | 0 => by simp [lvF]
  | k + 1 => by
    have ih := lvF_len h k
    have e : (lvF ws (k + 1)).length = (lvF ws k).length * ws.length := by
      simp only [lvF]
      generalize lvF ws k = l
      clear ih
      induction l with
      | nil => simp
      | cons r l ihl => simp only [List.flatMap_cons, List.length_append, List.length_map, List.length_cons, ihl, Nat.add_mul]; omega
    rw [e, Nat.pow_succ]
    exact Nat.mul_le_mul ih h
end
theorem find_min {ws : List PySem.Str} (nd : ws.Nodup) {f : List PySem.Str → Bool} {d r : List PySem.Str} {k : Nat} (hd : (allF ws k).find? f = some d) (hr : r ∈ allF ws k) (hf : f r = true) : cod ws d ≤ cod ws r := by
  have so := allF_so nd k
  generalize allF ws k = l at hd hr so
  induction l with
  | nil => simp at hr
  | cons x l ih =>
    obtain ⟨s1, s2⟩ := List.pairwise_cons.mp so
    rw [List.find?_cons] at hd
    cases e : f x with
    | true =>
      rw [e] at hd
      cases hd
      rcases List.mem_cons.mp hr with h | h
      · rw [h]; exact Nat.le_refl _
      · exact Nat.le_of_lt (s1 r h)
    | false =>
      rw [e] at hd
      rcases List.mem_cons.mp hr with h | h
      · subst h; rw [e] at hf; cases hf
      · exact ih hd h s2
/-- what is told is right -/
def IsOk (ps qs : List RP) (wt : Bool) (res due : Option (List PySem.Str)) : Prop := ((due ≠ none ∨ res = none) → res = due) ∧ (due = none → ∀ r, res = some r → 4 < r.length ∧ r.length ≤ 256 ∧ accB ps r = true ∧ accB qs r = wt)
def duF (ps qs : List RP) (wt : Bool) : Option (List PySem.Str) := (allF (alF ps qs) 4).find? (okW ps qs wt)
theorem is_ok {ps qs : List RP} {wt : Bool} {res : Option (List PySem.Str)} (h : SH ps qs wt res) : IsOk ps qs wt res (duF ps qs wt) := by
  unfold duF
  have nd := alF_nd ps qs
  cases hd : (allF (alF ps qs) 4).find? (okW ps qs wt) with
  | none =>
    refine ⟨?_, fun _ r hr => ?_⟩
    · rintro (z | z)
      · exact absurd rfl z
      · exact z
    · subst hr
      obtain ⟨h1, h2, h3, _⟩ := h
      have h3' := h3
      unfold okW at h3'
      simp only [Bool.and_eq_true, beq_iff_eq] at h3'
      refine ⟨?_, h1, h3'.1, h3'.2⟩
      by_cases c : 4 < r.length
      · exact c
      · have := List.find?_eq_none.mp hd r (allF_mem.mpr ⟨h2, by omega⟩)
        rw [h3] at this; exact absurd rfl this
  | some d =>
    refine ⟨fun _ => ?_, fun z => by cases z⟩
    have hm := List.mem_of_find?_eq_some hd
    have hok := List.find?_some hd
    obtain ⟨o1, l1⟩ := allF_mem.mp hm
    cases res with
    | none =>
      have := h d o1
      rw [hok] at this; cases this
    | some r =>
      obtain ⟨_, h2, h3, h4⟩ := h
      have c1 := h4 d o1 hok
      have hl := cod_le_len h2 o1 c1
      have c2 := find_min nd hd (allF_mem.mpr ⟨h2, by omega⟩) h3
      rw [cod_inj r d h2 o1 (by omega)]
/-! ### the law's alphabet -/
def fs__law_alphabet (K : PySem.W.Frag) : FS := fun ms P X => ∃ ps qs, ms = [.fz (patD ps), .fz (patD qs)] ∧ GoodPs ps ∧ GoodPs qs ∧ P (.fz (strsD (alF ps qs))) ms
/-- _law_alphabet: slots 0 one, 1 other, 2 found, 3 kind, 4 what, 5 more -/
def t__law_alphabet (K : PySem.W.Frag) : WX → TS := fun W => (tSeq (tAsg (tLst tNil) (gName 2)) (tSeq (tFor (iList K (tOp (rAddA K) (tVar 0) (tVar 1))) (gTup K 2 (gCons (gName 3) (gCons (gName 4) gNil))) (tAsg (tOp (rAddA K) (tVar 2) (tIf (tTest (tOp (rEqA K) (tVar 3) (tC (.str "word")))) (tLst (tCons (tVar 4) tNil)) (tIf (tTest (tOp (rEqA K) (tVar 3) (tC (.str "of")))) (tCB (rListO K) (tCons (tVar 4) tNil)) (tLst tNil)))) (gName 2))) (tSeq (tAsg (tC (.str "a")) (gName 5)) (tSeq (tWhile (tTest (tOp (rInA K) (tVar 5) (tVar 2))) (tAsg (tOp (rAddA K) (tVar 5) (tC (.str "a"))) (gName 5))) (tRet (tSortSetS K (tOp (rAddA K) (tVar 2) (tLst (tCons (tVar 5) tNil)))))))))
theorem h__law_alphabet {K : PySem.W.Frag} : FsOk K 2 6 (fs__law_alphabet K) (t__law_alphabet K) := by
  intro ms P X hf
  obtain ⟨ps, qs, rfl, gp, gq, hP⟩ := hf
  have l1 := gp.len
  have l2 := gq.len
  have k1 := gp.1
  have k2 := gq.1
  refine ⟨rfl, ?_⟩
  unfold t__law_alphabet
  refine ws_seq (ws_set (by decide) (wd_lst (wa_nil ⟨Nat.le_of_ble_eq_true rfl, ?_ ⟩)))
  have hg : ∀ r ∈ ps ++ qs, r.ok ∧ goodPart r = true := fun r hr => by
    rcases List.mem_append.mp hr with h | h
    · exact gp.2 r h
    · exact gq.2 r h
  refine ws_cut (fun m => ∃ z3 z4, m = [.fz (patD ps), .fz (patD qs), .fz (strsD (wiF (ps ++ qs))), z3, z4, .un]) ?_ ?_
  · have ea : ps.map rpD ++ qs.map rpD = (ps ++ qs).map rpD := by simp
    refine ws_for (wi_list (wd_op (wd_var rfl (by decide) (wd_var rfl (by decide) (o_addL (by simp; omega) ⟨_, by rw [ea], ?_ ⟩)))))
    refine ⟨fun i m => ∃ z3 z4, m = [.fz (patD ps), .fz (patD qs), .fz (strsD (wiF ((ps ++ qs).take i))), z3, z4, .un], ⟨_, _, rfl⟩, ?_, ?_⟩
    · rintro i d mm hd ⟨z3, z4, rfl⟩
      rw [List.getElem?_map] at hd
      obtain ⟨r, er, rfl⟩ := Option.map_eq_some_iff.mp hd
      obtain ⟨hok, hgr⟩ := hg r (List.mem_of_getElem? er)
      have tk : wiF ((ps ++ qs).take (i + 1)) = wiF ((ps ++ qs).take i) ++ r.ww := by rw [List.take_add_one, er, wiF_app]; simp [wiF]
      have hsz : (wiF ((ps ++ qs).take i)).length ≤ 48 := by
        have := wiF_len (ps := (ps ++ qs).take i) fun r hr => (hg r (List.mem_of_mem_take hr)).2
        simp at this; omega
      have hww := ww_len hgr
      simp only [tk]
      generalize wiF ((ps ++ qs).take i) = fo at hsz ⊢
      rw [good_rp hgr]
      refine wg_tup rfl (wgs_cons (wg_name (by decide) (wgs_cons (wg_name (by decide) (wgs_nil ?_)))))
      have fin : ∀ {l : List PySem.Str}, l = r.ww → ∃ z3 z4, [MV.fz (patD ps), .fz (patD qs), .fz (D.lst (fo.map D.str ++ l.map D.str)), .fz (.str r.kind), .fz r.arg, .un] = [.fz (patD ps), .fz (patD qs), .fz (strsD (fo ++ r.ww)), z3, z4, .un] := fun e => by
        subst e; exact ⟨_, _, by simp [strsD]; exact ⟨rfl, rfl⟩⟩
      refine ws_set (by decide) (wd_op (wd_var rfl (by decide) (wd_if (wt_test (wd_op (wd_var rfl (by decide) (wd_str (o_eqS ⟨_, rfl, ite_b (fun h => ?_) (fun h => ?_) ⟩))))))))
      · have hk := of_decide_eq_true h
        cases r with
        | of l => exact absurd hk (show ¬ (("of" : PySem.Str) = "word") by decide +kernel)
        | ot k s ex =>
          refine wd_lst (wa_cons (wd_var rfl (by decide) (wa_nil ⟨Nat.le_of_ble_eq_true rfl, o_addL (by simp; omega) (fin (l := [s]) ?_) ⟩)))
          simp only [RP.kind] at hk
          simp [RP.ww, hk]
      · have hk := of_decide_eq_false h
        refine wd_if (wt_test (wd_op (wd_var rfl (by decide) (wd_str (o_eqS ⟨_, rfl, ite_b (fun h2 => ?_) (fun h2 => ?_) ⟩)))))
        · cases r with
          | of l =>
            simp only [RP.ww] at hww
            exact wd_cb (wa_cons (wd_var rfl (by decide) (wa_nil (c_listO (.inl rfl) (o_addL (by simp; omega) (fin (l := l) rfl) )))))
          | ot k s ex => exact absurd (of_decide_eq_true h2) hok.1
        · refine wd_lst (wa_nil ⟨Nat.le_of_ble_eq_true rfl, o_addL (by simp; omega) (fin (l := []) ?_) ⟩)
          cases r with
          | of l => exact absurd rfl (of_decide_eq_false h2)
          | ot k s ex =>
            simp only [RP.kind] at hk
            simp [RP.ww, hk]
    · rintro mm ⟨z3, z4, rfl⟩
      refine ⟨z3, z4, ?_⟩
      rw [List.length_map, List.take_length]
  · rintro mm ⟨z3, z4, rfl⟩
    rw [wiF_app]
    refine ws_seq (ws_set (by decide) (wd_str ?_))
    refine ws_seq (ws_fresh (pre := [.fz (patD ps), .fz (patD qs), .fz (strsD (wiF ps ++ wiF qs)), z3, z4]) (post := []) (by simp; omega) (f := 5) rfl (Nat.le_of_ble_eq_true rfl) (by decide) rfl ?_)
    refine ws_ret (wd_sortSetS (wd_op (wd_var rfl (by decide) (wd_lst (wa_cons (wd_var rfl (by decide) (wa_nil ⟨Nat.le_of_ble_eq_true rfl, o_addL (by simp; omega) ⟨wiF ps ++ wiF qs ++ [frF (wiF ps ++ wiF qs)], by simp, by simp; omega, _, .fz (.fz .nil), hP ⟩⟩)))))))
/-! ### all lists -/
def lisD (l : List (List PySem.Str)) : D := .lst (l.map strsD)
def fs__law_lists (K : PySem.W.Frag) : FS := fun ms P X => ∃ ws, ms = [.fz (strsD ws), .fz (.int 4)] ∧ ws.length ≤ 4 ∧ P (.fz (lisD (allF ws 4))) ms
/-- _law_lists: slots 0 words, 1 most, 2 found, 3 level, 4 k, 5 longer, 6 row, 7 word -/
def t__law_lists (K : PySem.W.Frag) : WX → TS := fun W => (tSeq (tAsg (tLst (tCons (tLst tNil) tNil)) (gName 2)) (tSeq (tAsg (tLst (tCons (tLst tNil) tNil)) (gName 3)) (tSeq (tFor (iRng1 (tCons (tVar 1) tNil)) (gName 4) (tSeq (tAsg (tLst tNil) (gName 5)) (tSeq (tFor (iList K (tVar 3)) (gName 6) (tAsg (tOp (rAddA K) (tVar 5) (tLcW (iList K (tVar 0)) (gName 7) (fun W => tYes) (fun W => (tOp (rAddA K) (tVar 6) (tLst (tCons (tVar 7) tNil)))) [7])) (gName 5))) (tSeq (tAsg (tVar 5) (gName 3)) (tAsg (tOp (rAddA K) (tVar 2) (tVar 3)) (gName 2)))))) (tRet (tVar 2)))))
theorem h__law_lists {K : PySem.W.Frag} : FsOk K 2 8 (fs__law_lists K) (t__law_lists K) := by
  intro ms P X hf
  obtain ⟨ws, rfl, hw, hP⟩ := hf
  refine ⟨rfl, ?_⟩
  unfold t__law_lists
  have lvl : ∀ k, k ≤ 4 → (lvF ws k).length ≤ 256 := fun k hk => Nat.le_trans (lvF_len hw k) (Nat.le_trans (Nat.pow_le_pow_right (by decide) hk) (by decide))
  have all : ∀ k, k ≤ 4 → (allF ws k).length ≤ 1 + 256 * k := fun k => by
    induction k with
    | zero => intro _; simp [allF]
    | succ k ih =>
      intro hk
      have h1 := ih (by omega)
      have h2 := lvl (k + 1) hk
      show (allF ws k ++ lvF ws (k + 1)).length ≤ _
      rw [List.length_append]; omega
  refine ws_seq (ws_set (by decide) (wd_lst (wa_cons (wd_lst (wa_nil ⟨Nat.le_of_ble_eq_true rfl, wa_nil ⟨Nat.le_of_ble_eq_true rfl, ?_ ⟩⟩)))))
  refine ws_seq (ws_set (by decide) (wd_lst (wa_cons (wd_lst (wa_nil ⟨Nat.le_of_ble_eq_true rfl, wa_nil ⟨Nat.le_of_ble_eq_true rfl, ?_ ⟩⟩)))))
  refine ws_cut (fun m => ∃ z3 z4 z5 z6 z7, m = [.fz (strsD ws), .fz (.int 4), .fz (lisD (allF ws 4)), z3, z4, z5, z6, z7]) ?_ ?_
  · refine ws_for (wi_rng1 (wa_cons (wd_var rfl (by decide) (wa_nil ⟨_, rfl, by omega, by omega, ?_ ⟩))))
    refine ⟨fun i m => ∃ z4 z5 z6 z7, m = [.fz (strsD ws), .fz (.int 4), .fz (lisD (allF ws i)), .fz (lisD (lvF ws i)), z4, z5, z6, z7], ⟨_, _, _, _, rfl⟩, ?_, ?_⟩
    · rintro k d mm hd ⟨z4, z5, z6, z7, rfl⟩
      obtain ⟨hk, rfl⟩ := rngD_at hd
      have hk4 : k < 4 := by simpa using hk
      have e1 : allF ws (k + 1) = allF ws k ++ (lvF ws k).flatMap fun r => ws.map fun w => r ++ [w] := rfl
      have e2 : lvF ws (k + 1) = (lvF ws k).flatMap fun r => ws.map fun w => r ++ [w] := rfl
      have hl1 := lvl k (by omega)
      have hl2 := lvl (k + 1) (by omega)
      have hl3 := all k (by omega)
      have hrl : ∀ r ∈ lvF ws k, r.length = k := fun r hr => (lvF_mem.mp hr).2
      simp only [e1, e2]
      rw [e2] at hl2
      generalize lvF ws k = lv at hl1 hl2 hrl ⊢
      generalize allF ws k = al at hl3 ⊢
      refine wg_name (by decide) (ws_seq (ws_set (by decide) (wd_lst (wa_nil ⟨Nat.le_of_ble_eq_true rfl, ?_ ⟩))))
      refine ws_cut (fun m => ∃ z6 z7, m = [.fz (strsD ws), .fz (.int 4), .fz (lisD al), .fz (lisD lv), .fz (.int (0 + (k : Int))), .fz (lisD (lv.flatMap fun r => ws.map fun w => r ++ [w])), z6, z7]) ?_ ?_
      · refine ws_for (wi_list (wd_var rfl (by decide) ⟨_, rfl, ?_⟩))
        refine ⟨fun i m => ∃ z6 z7, m = [.fz (strsD ws), .fz (.int 4), .fz (lisD al), .fz (lisD lv), .fz (.int (0 + (k : Int))), .fz (lisD ((lv.take i).flatMap fun r => ws.map fun w => r ++ [w])), z6, z7], ⟨_, _, rfl⟩, ?_, ?_⟩
        · rintro i d mm hd ⟨z6, z7, rfl⟩
          rw [List.getElem?_map] at hd
          obtain ⟨r, er, rfl⟩ := Option.map_eq_some_iff.mp hd
          have hr := hrl r (List.mem_of_getElem? er)
          have tk : ((lv.take (i + 1)).flatMap fun r => ws.map fun w => r ++ [w]) = ((lv.take i).flatMap fun r => ws.map fun w => r ++ [w]) ++ ws.map fun w => r ++ [w] := by
            rw [List.take_add_one, er]; simp
          have hle : (((lv.take i).flatMap fun r => ws.map fun w => r ++ [w])).length ≤ 256 := by
            have e : (lv.flatMap fun r => ws.map fun w => r ++ [w]) = ((lv.take i).flatMap fun r => ws.map fun w => r ++ [w]) ++ ((lv.drop i).flatMap fun r => ws.map fun w => r ++ [w]) := by
              rw [← List.flatMap_append, List.take_append_drop]
            rw [e, List.length_append] at hl2
            omega
          simp only [tk]
          generalize ((lv.take i).flatMap fun r => ws.map fun w => r ++ [w]) = lo at hle ⊢
          refine wg_name (by decide) (ws_set (by decide) (wd_op (wd_var rfl (by decide) (wd_lcMap (by simp) (gok_name (by simp)) (wi_list (wd_var rfl (by decide) ⟨_, rfl, ?_ ⟩))))))
          refine ⟨by simp; omega, fun _ => true, fun d => .lst (r.map D.str ++ [d]), fun d hd => ?_, ?_⟩
          · obtain ⟨w, hw', rfl⟩ := List.mem_map.mp hd
            refine wg_name (by decide) (wt_yes ⟨rfl, rfl, fun _ => ?_⟩)
            exact wd_op (wd_var rfl (by decide) (wd_lst (wa_cons (wd_var rfl (by decide) (wa_nil ⟨Nat.le_of_ble_eq_true rfl, o_addL (by simp; omega) ⟨rfl, rfl⟩⟩)))))
          · rw [filt_true]
            refine o_addL (by simp; omega) ⟨.fz (strsD r), .un, ?_⟩
            have e : (ws.map D.str).map (fun d => D.lst (r.map D.str ++ [d])) = (ws.map fun w => r ++ [w]).map strsD := by
              rw [List.map_map, List.map_map]
              apply List.map_congr_left
              intro w _
              simp [strsD]
            rw [e]
            simp [lisD, wipeM]
        · rintro mm ⟨z6, z7, rfl⟩
          refine ⟨z6, z7, ?_⟩
          rw [List.length_map, List.take_length]
      · rintro mm ⟨z6, z7, rfl⟩
        refine ws_seq (ws_set (by decide) (wd_var rfl (by decide) ?_))
        refine ws_set (by decide) (wd_op (wd_var rfl (by decide) (wd_var rfl (by decide) (o_addL (by simp at hl2 ⊢; omega) ⟨.fz (.int (0 + (k : Int))), .fz (lisD (lv.flatMap fun r => ws.map fun w => r ++ [w])), z6, z7, ?_ ⟩))))
        rw [← List.map_append]
        rfl
    · rintro mm ⟨z4, z5, z6, z7, rfl⟩
      exact ⟨_, _, _, _, _, rfl⟩
  · rintro mm ⟨z3, z4, z5, z6, z7, rfl⟩
    exact ws_ret (wd_var rfl (by decide) ⟨_, .fz (.fz .nil), hP⟩)
def fs__law_first (K : PySem.W.Frag) : FS := fun ms P X => ∃ ps qs wt, ms = [.fz (patD ps), .fz (patD qs), .fz (strsD (alF ps qs)), .fz (.bl wt)] ∧ GoodPs ps ∧ GoodPs qs ∧ (alF ps qs).length ≤ 4 ∧ P (.fz (resD (duF ps qs wt))) ms
/-- _law_first: slots 0 one, 1 other, 2 words, 3 wanted, 4 row -/
def t__law_first (K : PySem.W.Frag) : WX → TS := fun W => (tSeq (tFor (iList K (tCallS (SpM K (fs__law_lists K)) (WE W) (tCons (tVar 2) (tCons (tC (.int 4)) tNil)))) (gName 4) (tIfS (tAnd (tB (tCallS (SpM K (fs__law_fits K)) (WE W) (tCons (tVar 0) (tCons (tVar 4) tNil)))) (tTest (tOp (rEqA K) (tCallS (SpM K (fs__law_fits K)) (WE W) (tCons (tVar 1) (tCons (tVar 4) tNil))) (tVar 3)))) (tRet (tVar 4)) tNext)) (tRet (tC .non)))
theorem h__law_first {K : PySem.W.Frag} : FsOk K 4 5 (fs__law_first K) (t__law_first K) := by
  intro ms P X hf
  obtain ⟨ps, qs, wt, rfl, gp, gq, hl, hP⟩ := hf
  refine ⟨rfl, ?_⟩
  unfold t__law_first
  unfold duF at hP
  have hlen : ∀ r ∈ allF (alF ps qs) 4, r.length ≤ 4 := fun r hr => (allF_mem.mp hr).2
  refine ws_cut (fun m => ∃ z4, m = [.fz (patD ps), .fz (patD qs), .fz (strsD (alF ps qs)), .fz (.bl wt), z4] ∧ ∀ r ∈ allF (alF ps qs) 4, okW ps qs wt r = false) ?_ ?_
  · refine ws_for (wi_list (wd_call [] (wa_cons (wd_var rfl (by decide) (wa_cons (wd_int (wa_nil ⟨_, _, .nil, _, rfl, hl, _, _, .nil, _, rfl, _, rfl, ?_ ⟩)))))))
    refine ⟨fun i m => ∃ z4, m = [.fz (patD ps), .fz (patD qs), .fz (strsD (alF ps qs)), .fz (.bl wt), z4] ∧ ∀ j y, j < i → (allF (alF ps qs) 4)[j]? = some y → okW ps qs wt y = false, ⟨_, rfl, fun j y h => by omega⟩, ?_, ?_⟩
    · rintro i d mm hd ⟨z4, rfl, hb⟩
      rw [List.getElem?_map] at hd
      obtain ⟨r, er, rfl⟩ := Option.map_eq_some_iff.mp hd
      have hr := hlen r (List.mem_of_getElem? er)
      have nxt : okW ps qs wt r = false → ∃ z4, [MV.fz (patD ps), .fz (patD qs), .fz (strsD (alF ps qs)), .fz (.bl wt), .fz (strsD r)] = [.fz (patD ps), .fz (patD qs), .fz (strsD (alF ps qs)), .fz (.bl wt), z4] ∧ ∀ j y, j < i + 1 → (allF (alF ps qs) 4)[j]? = some y → okW ps qs wt y = false := fun h => by
        refine ⟨_, rfl, fun j y hj e => ?_⟩
        by_cases c : j = i
        · subst c; rw [er] at e; cases e; exact h
        · exact hb j y (by omega) e
      refine wg_name (by decide) (ws_if (wt_and (wt_B (wd_call [] (wa_cons (wd_var rfl (by decide) (wa_cons (wd_var rfl (by decide) (wa_nil ⟨_, _, .nil, ps, r, rfl, gp, by omega, _, _, .nil, _, rfl, _, rfl, ite_b (fun h1 => ?_) (fun h1 => ite_f rfl (ws_next (nxt (by unfold okW; rw [h1]; rfl))) )⟩)))))))))
      refine wt_test (wd_op (wd_call [] (wa_cons (wd_var rfl (by decide) (wa_cons (wd_var rfl (by decide) (wa_nil ⟨_, _, .nil, qs, r, rfl, gq, by omega, _, _, .nil, _, rfl, wd_var rfl (by decide) (o_eqD rfl rfl ⟨_, rfl, ?_ ⟩)⟩)))))))
      rw [eqv_bl]
      refine ite_b (fun h2 => ?_) (fun h2 => ws_next (nxt (by unfold okW; rw [h1, h2]; rfl)))
      refine ws_ret (wd_var rfl (by decide) ⟨_, .fz (.fz (.fz (.fz .nil))), ?_⟩)
      have e : (allF (alF ps qs) 4).find? (okW ps qs wt) = some r := by
        rw [List.find?_eq_some_iff_getElem]
        obtain ⟨h3, h4⟩ := List.getElem?_eq_some_iff.mp er
        refine ⟨by unfold okW; rw [h1, h2]; rfl, i, h3, h4, fun j hj => ?_⟩
        have := hb j _ hj (List.getElem?_eq_getElem (by omega))
        rw [this]; rfl
      rw [e] at hP
      exact hP
    · rintro mm ⟨z4, rfl, hb⟩
      refine ⟨z4, rfl, fun r hr => ?_⟩
      obtain ⟨j, hj⟩ := List.getElem?_of_mem hr
      exact hb j r (by have := (List.getElem?_eq_some_iff.mp hj).1; simpa using this) hj
  · rintro mm ⟨z4, rfl, hno⟩
    have e : (allF (alF ps qs) 4).find? (okW ps qs wt) = none := List.find?_eq_none.mpr fun r hr => by rw [hno r hr]; simp
    rw [e] at hP
    exact ws_ret (wd_non ⟨_, .fz (.fz (.fz (.fz .nil))), hP⟩)
def OkR (res : Option (List PySem.Str)) : Prop := ∀ r, res = some r → r.length ≤ 300 ∧ ∀ w ∈ r, okS w = true
theorem resD_sh {res : Option (List PySem.Str)} (h : OkR res) : (resD res).sh = true := by
  cases res with
  | none => rfl
  | some r => exact strsD_sh fun x hx => (h r rfl).2 x hx
theorem isN_res (res : Option (List PySem.Str)) : isNone (resD res) = some (decide (res = none)) := by
  cases res <;> rfl
def fs__law_is (K : PySem.W.Frag) : FS := fun ms P X => ∃ res due ps qs wt, ms = [.fz (resD res), .fz (resD due), .fz (patD ps), .fz (patD qs), .fz (.bl wt)] ∧ OkR res ∧ GoodPs ps ∧ GoodPs qs ∧ IsOk ps qs wt res due ∧ P (.fz (.bl true)) ms
/-- _law_is: slots 0 found, 1 due, 2 one, 3 other, 4 wanted -/
def t__law_is (K : PySem.W.Frag) : WX → TS := fun W => (tSeq (tIfS (tOr (tTest (tOp rNotN (tVar 1) (tC .non))) (tTest (tOp rIsN (tVar 0) (tC .non)))) (tRet (tOp (rEqA K) (tVar 0) (tVar 1))) tNext) (tRet (tAndV (tOp (rI0 fun i j => .bl (decide (j < i))) (tCB (rLenA K) (tCons (tVar 0) tNil)) (tC (.int 4))) (tAndV (tCallS (SpM K (fs__law_fits K)) (WE W) (tCons (tVar 2) (tCons (tVar 0) tNil))) (tOp (rEqA K) (tCallS (SpM K (fs__law_fits K)) (WE W) (tCons (tVar 3) (tCons (tVar 0) tNil))) (tVar 4))))))
theorem h__law_is {K : PySem.W.Frag} : FsOk K 5 5 (fs__law_is K) (t__law_is K) := by
  intro ms P X hf
  obtain ⟨res, due, ps, qs, wt, rfl, hr, gp, gq, ⟨hi1, hi2⟩, hP⟩ := hf
  refine ⟨rfl, ?_⟩
  unfold t__law_is
  have same : ∀ {N : List MV → Prop} {X' : XP}, (due ≠ none ∨ res = none) → wpS K 5 (fun W => tRet (tOp (rEqA K) (tVar 0) (tVar 1))) [.fz (resD res), .fz (resD due), .fz (patD ps), .fz (patD qs), .fz (.bl wt)] N (fun m me => ∃ ms', Back [.fz (resD res), .fz (resD due), .fz (patD ps), .fz (patD qs), .fz (.bl wt)] me ms' ∧ P m ms') X' := fun h => by
    have e := hi1 h
    subst e
    exact ws_ret (wd_op (wd_var rfl (by decide) (wd_var rfl (by decide) (o_eqSame (resD_sh hr) ⟨_, .fz (.fz (.fz (.fz (.fz .nil)))), hP⟩))))
  refine ws_seq (ws_if (wt_or (wt_test (wd_op (wd_var rfl (by decide) (wd_non (o_notN (isN_res due) ⟨_, rfl, ite_b (fun h => ite_t rfl (same ?_)) (fun h => ?_) ⟩)))))))
  · exact .inl (by simpa using h)
  · have hd : due = none := by simpa using h
    refine wt_test (wd_op (wd_var rfl (by decide) (wd_non (o_isN (isN_res res) ⟨_, rfl, ite_b (fun h2 => same (.inr (of_decide_eq_true h2))) (fun h2 => ws_next ?_) ⟩))))
    cases res with
    | none => exact absurd rfl (of_decide_eq_false h2)
    | some r =>
      obtain ⟨a1, a2, a3, a4⟩ := hi2 hd r rfl
      refine ws_ret (wd_andV (wd_op (wd_cb (wa_cons (wd_var rfl (by decide) (wa_nil (c_len (m := r.length) (by simp [lenD, resD, strsD]) (by omega) (wd_int (o_I0b ⟨_, rfl, ite_t (decide_eq_true (by omega)) ?_ ⟩)))))))))
      refine wd_andV (wd_call [] (wa_cons (wd_var rfl (by decide) (wa_cons (wd_var rfl (by decide) (wa_nil ⟨_, _, .nil, ps, r, rfl, gp, by omega, _, _, .nil, _, rfl, _, rfl, ite_t a3 ?_ ⟩))))))
      refine wd_op (wd_call [] (wa_cons (wd_var rfl (by decide) (wa_cons (wd_var rfl (by decide) (wa_nil ⟨_, _, .nil, qs, r, rfl, gq, by omega, _, _, .nil, _, rfl, wd_var rfl (by decide) (o_eqD rfl rfl ?_) ⟩))))))
      rw [eqv_bl, a4]
      refine ⟨_, .fz (.fz (.fz (.fz (.fz .nil)))), ?_⟩
      simpa using hP
end M
namespace M
open PySem PySem.Spec PyProof.Rows L2
/-! ### k40: patterns drawn -/
def abL : List PySem.Str := ["a", "b", "aa"]
def xyL : List PySem.Str := ["x", "y", "z"]
theorem abL_ok : ∀ w ∈ abL, isWordS w = true ∧ ascS w = true ∧ okS w = true := by decide +kernel
theorem xyL_ok : xyL.Nodup ∧ xyL.length = 3 ∧ ∀ w ∈ xyL, isWordS w = true ∧ ascS w = true ∧ isWordS (w ++ "q") = true ∧ ascS (w ++ "q") = true := by decide +kernel
theorem xyq_nd : (xyL.map fun w : PySem.Str => w ++ "q").Nodup := by decide +kernel
theorem xyL_len : ∀ w ∈ xyL, w.length + ("q" : PySem.Str).length ≤ 1000000 := by decide +kernel
structure Few (ps : List RP) : Prop where
  len : 1 ≤ ps.length ∧ ps.length ≤ 3
  parts : ∀ r ∈ ps, r.ok ∧ goodPart r = true ∧ ∀ w ∈ r.ww, w ∈ abL
  names : (namesP ps).Sublist xyL
structure FewP (ps : List RP) : Prop where
  gd : Gd2 ps
  wd : ∀ w ∈ wiF ps, w ∈ abL
theorem wd_of_parts {ps : List RP} (h : ∀ r ∈ ps, ∀ w ∈ r.ww, w ∈ abL) : ∀ w ∈ wiF ps, w ∈ abL := fun w hw => by
  obtain ⟨r, hr, hw⟩ := List.mem_flatMap.mp hw
  exact h r hr w hw
theorem Few.p {ps : List RP} (h : Few ps) : FewP ps := by
  have hl := h.len
  refine ⟨⟨fun r hr => (h.parts r hr).1, goodP_iff.mpr ⟨by omega, fun r hr => (h.parts r hr).2.1, nodup_ddN _ _ (h.names.nodup xyL_ok.1) (by simp)⟩, h.len.2⟩, wd_of_parts fun r hr => (h.parts r hr).2.2⟩
def quF : RP → RP
  | .of l => .of l
  | .ot k s ex => if k = "word" then .ot k s ex else .ot k (s ++ "q") ex
theorem quF_w {k s : PySem.Str} {ex : List PySem.Str} (h : k = "word") : quF (.ot k s ex) = .ot k s ex := by simp [quF, h]
theorem quF_n {k s : PySem.Str} {ex : List PySem.Str} (h : k ≠ "word") : quF (.ot k s ex) = .ot k (s ++ "q") ex := by simp [quF, h]
theorem quF_name (r : RP) : (quF r).name = r.name.map fun w : PySem.Str => w ++ "q" := by
  cases r with
  | of l => rfl
  | ot k s ex =>
    by_cases h : k = "word"
    · rw [quF_w h]
      have h1 : ¬ (k = "one") := by rw [h]; decide +kernel
      have h2 : ¬ (k = "any") := by rw [h]; decide +kernel
      simp [RP.name, h1, h2]
    · rw [quF_n h]
      simp only [RP.name]
      split <;> simp
theorem quF_names : ∀ ps : List RP, namesP (ps.map quF) = (namesP ps).map fun w : PySem.Str => w ++ "q"
  | [] => rfl
  | r :: ps => by
    have ih := quF_names ps
    unfold namesP at ih ⊢
    simp only [List.map_cons, List.flatMap_cons, List.map_append, ih, quF_name]
theorem quF_ww {r : RP} : (quF r).ww = r.ww := by
  cases r with
  | of l => rfl
  | ot k s ex =>
    by_cases h : k = "word"
    · rw [quF_w h]
    · rw [quF_n h]; simp [RP.ww, h]
theorem Few.nm {ps : List RP} (h : Few ps) {k s : PySem.Str} {ex : List PySem.Str} (hr : RP.ot k s ex ∈ ps) (hk : k ≠ "word") : (k = "one" ∨ k = "any") ∧ s ∈ xyL ∧ ex = [] := by
  have hg := (h.parts _ hr).2.1
  simp only [goodPart, Bool.and_eq_true, Bool.or_eq_true, decide_eq_true_eq] at hg
  have hk2 : k = "one" ∨ k = "any" := by
    rcases hg.1.2 with z | z
    · exact absurd z hk
    · exact z
  refine ⟨hk2, h.names.subset (List.mem_flatMap.mpr ⟨_, hr, ?_⟩), hg.1.1⟩
  have : (decide (k = "one") || decide (k = "any")) = true := by simpa using hk2
  simp only [RP.name, this]
  simp
theorem Few.qu {ps : List RP} (h : Few ps) : FewP (ps.map quF) := by
  have hp : ∀ r ∈ ps, (quF r).ok ∧ goodPart (quF r) = true := fun r hr => by
    obtain ⟨a, b, _⟩ := h.parts r hr
    cases r with
    | of l => exact ⟨a, b⟩
    | ot k s ex =>
      by_cases hk : k = "word"
      · rw [quF_w hk]; exact ⟨a, b⟩
      · rw [quF_n hk]
        obtain ⟨h1, h2, rfl⟩ := h.nm hr hk
        obtain ⟨_, _, q1, q2⟩ := xyL_ok.2.2 s h2
        refine ⟨⟨a.1, q2, a.2.2⟩, ?_⟩
        have : (decide (k = "one") || decide (k = "any")) = true := by simpa using h1
        simp only [goodPart, q1, this]; simp
  have hl := h.len
  refine ⟨⟨fun r hr => ?_, goodP_iff.mpr ⟨by simp; omega, fun r hr => ?_, nodup_ddN _ _ ?_ (by simp)⟩, by simp; omega⟩, wd_of_parts fun r hr => ?_⟩
  · obtain ⟨r0, h0, rfl⟩ := List.mem_map.mp hr; exact (hp r0 h0).1
  · obtain ⟨r0, h0, rfl⟩ := List.mem_map.mp hr; exact (hp r0 h0).2
  · rw [quF_names]; exact (h.names.map _).nodup xyq_nd
  · obtain ⟨r0, h0, rfl⟩ := List.mem_map.mp hr
    rw [quF_ww]; exact (h.parts r0 h0).2.2
theorem FewP.gp {ps : List RP} (h : FewP ps) : GoodPs ps := goodPs_of h.gd.2.1 h.gd.1
theorem okS_aS (k : Nat) : okS (aS k) = true := by
  unfold okS aS
  simp only [List.all_eq_true]
  intro c hc
  have : c = 97 := by
    have := List.eq_of_mem_replicate (by simpa using hc)
    exact this
  rw [this]; decide
theorem FewP.al {ps qs : List RP} (h1 : FewP ps) (h2 : FewP qs) : (alF ps qs).length ≤ 4 ∧ ∀ w ∈ alF ps qs, okS w = true := by
  have hin : ∀ w ∈ alF ps qs, w ∈ abL ++ [frF (wiF ps ++ wiF qs)] := fun w hw => by
    have := srtU_mem.mp hw
    rcases List.mem_append.mp this with m | m
    · rcases List.mem_append.mp m with m | m
      · exact List.mem_append_left _ (h1.wd w m)
      · exact List.mem_append_left _ (h2.wd w m)
    · exact List.mem_append_right _ m
  refine ⟨?_, fun w hw => ?_⟩
  · exact nodup_len (alF_nd ps qs) hin
  · rcases List.mem_append.mp (hin w hw) with m | m
    · exact (abL_ok w m).2.2
    · rw [List.mem_singleton.mp m]; exact okS_aS _
theorem okR_of {ps qs : List RP} {wt : Bool} {res : Option (List PySem.Str)} (h1 : FewP ps) (h2 : FewP qs) (h : SH ps qs wt res) : OkR res := fun r hr => by
  subst hr
  obtain ⟨a, b, _⟩ := h
  exact ⟨by omega, fun w hw => (FewP.al h1 h2).2 w (b w hw)⟩
def fs__law_few (K : PySem.W.Frag) : FS := fun ms P X => ∃ sc t n, ms = [scr sc, .ot t (zeros n)] ∧ sc.length ≤ 63 ∧ n < 80000 ∧ ∀ ps n', Few ps → n' ≤ n + 20 → P (.fz (patD ps)) [scr sc, .ot t (zeros n')]
/-- _law_few: slots 0 script, 1 town, 2 found, 3 k, 4 kind, 5 word -/
def t__law_few (K : PySem.W.Frag) : WX → TS := fun W => (tSeq (tAsg (tLst tNil) (gName 2)) (tSeq (tFor (iRng1 (tCons (tOp (rAddA K) (tC (.int 1)) (tCallS (SpM K (fs__law_draw K)) (WE W) (tCons (tVar 0) (tCons (tVar 1) (tCons (tC (.int 3)) tNil))))) tNil)) (gName 3) (tSeq (tAsg (tCallS (SpM K (fs__law_draw K)) (WE W) (tCons (tVar 0) (tCons (tVar 1) (tCons (tC (.int 6)) tNil)))) (gName 4)) (tSeq (tAsg (tCallS (SpM K (fs__law_pick K)) (WE W) (tCons (tVar 0) (tCons (tVar 1) (tCons (tLst (tCons (tC (.str "a")) (tCons (tC (.str "b")) (tCons (tC (.str "aa")) tNil)))) tNil)))) (gName 5)) (tIfS (tTest (tOp (rI0 fun i j => .bl (decide (i < j))) (tVar 4) (tC (.int 2)))) (tDrop (tBM K "list" rAppend (tVar 2) (tCons (tTup (tCons (tC (.str "word")) (tCons (tVar 5) tNil))) tNil))) (tIfS (tTest (tOp (rEqA K) (tVar 4) (tC (.int 2)))) (tDrop (tBM K "list" rAppend (tVar 2) (tCons (tTup (tCons (tC (.str "of")) (tCons (tOp (rAddA K) (tLst (tCons (tVar 5) tNil)) (L2.tSl (rSlA' K) (tLst (tCons (tC (.str "b")) (tCons (tC (.str "a")) tNil))) tNoPart (tPart (tCallS (SpM K (fs__law_draw K)) (WE W) (tCons (tVar 0) (tCons (tVar 1) (tCons (tC (.int 3)) tNil))))))) tNil))) tNil))) (tDrop (tBM K "list" rAppend (tVar 2) (tCons (tTup (tCons (tIf (tTest (tOp (rEqA K) (tVar 4) (tC (.int 3)))) (tC (.str "one")) (tC (.str "any"))) (tCons (tOp (rIxA K) (tC (.str "xyz")) (tVar 3)) tNil))) tNil)))))))) (tRet (tVar 2))))
theorem h__law_few {K : PySem.W.Frag} : FsOk K 2 6 (fs__law_few K) (t__law_few K) := by
  intro ms P X hf
  obtain ⟨sc, t, n, rfl, hl, hn, hP⟩ := hf
  refine ⟨rfl, ?_⟩
  unfold t__law_few
  refine ws_seq (ws_setN (by decide) (wn_lst (wa_nil ⟨by decide, fun p => ?_ ⟩)))
  refine ws_cut (fun mm => ∃ rs n' z3 z4 z5, mm = [scr sc, .ot t (zeros n'), foundP p rs, z3, z4, z5] ∧ Few rs ∧ n' ≤ n + 20) ?_ ?_
  · refine ws_for (wi_rng1 (wa_cons (wd_op (wd_int (wd_drawC rfl rfl (by decide) hl (by omega) (by decide) fun z hz0 hz1 => o_addI (wa_nil ⟨_, rfl, by omega, by omega, ?_ ⟩))))))
    refine ⟨fun i mm => ∃ rs n' z3 z4 z5, mm = [scr sc, .ot t (zeros n'), foundP p rs, z3, z4, z5] ∧ rs.length = i ∧ (∀ r ∈ rs, r.ok ∧ goodPart r = true ∧ ∀ w ∈ r.ww, w ∈ abL) ∧ (namesP rs).Sublist (xyL.take i) ∧ n' ≤ n + 1 + 3 * i, ⟨[], n + 1, _, _, _, rfl, rfl, by simp, by simp [namesP], by omega⟩, ?_, ?_⟩
    · rintro i d mm hd ⟨rs, n', z3, z4, z5, rfl, hli, hrs, hsub, hn'⟩
      obtain ⟨hi, rfl⟩ := rngD_at hd
      have hi3 : i < 3 := by omega
      have hfl : ((rs.map rpD).map T.lf).length < 1000000 := by simp; omega
      have step : ∀ (r : RP) (n2 : Nat) (a b c : MV), (r.ok ∧ goodPart r = true ∧ ∀ w ∈ r.ww, w ∈ abL) → (namesP (rs ++ [r])).Sublist (xyL.take (i + 1)) → n2 ≤ n + 1 + 3 * (i + 1) →
          ∃ rs' n' z3 z4 z5, [scr sc, .ot t (zeros n2), MV.ot p (.lst ((rs.map rpD).map .lf ++ [.lf (rpD r)])), a, b, c] = [scr sc, .ot t (zeros n'), foundP p rs', z3, z4, z5] ∧ rs'.length = i + 1 ∧ (∀ r ∈ rs', r.ok ∧ goodPart r = true ∧ ∀ w ∈ r.ww, w ∈ abL) ∧ (namesP rs').Sublist (xyL.take (i + 1)) ∧ n' ≤ n + 1 + 3 * (i + 1) := by
        intro r n2 a b c h1 h3 h4
        refine ⟨rs ++ [r], n2, a, b, c, by simp [foundP], by simp [hli], fun x hx => ?_, h3, h4⟩
        rcases List.mem_append.mp hx with hx | hx
        · exact hrs x hx
        · simp at hx; subst hx; exact h1
      have sub0 : ∀ r : RP, r.name = [] → (namesP (rs ++ [r])).Sublist (xyL.take (i + 1)) := fun r hr => by
        have : namesP (rs ++ [r]) = namesP rs := by simp [namesP, hr]
        rw [this]
        exact hsub.trans (List.take_sublist_take_left (Nat.le_succ i))
      refine wg_name (by decide) (ws_seq (ws_set (by decide) (wd_drawC rfl rfl (by decide) hl (by omega) (by decide) fun z hz0 hz1 => ?_)))
      refine ws_seq (ws_set (by decide) (wd_pickX rfl rfl (by decide) hl (by omega) (wd_lst (wa_cons (wd_str (wa_cons (wd_str (wa_cons (wd_str (wa_nil ⟨Nat.le_of_ble_eq_true rfl, rfl, _, rfl, Nat.le_of_ble_eq_true rfl, Nat.le_of_ble_eq_true rfl, fun e he => ?_ ⟩))))))))))
      have he' : ∃ w ∈ abL, e = .str w := by
        have : e ∈ abL.map D.str := he
        obtain ⟨w, hw, rfl⟩ := List.mem_map.mp this
        exact ⟨w, hw, rfl⟩
      obtain ⟨w, hw, rfl⟩ := he'
      obtain ⟨w1, w2, w3⟩ := abL_ok w hw
      refine ws_if (wt_test (wd_op (wd_var rfl (by decide) (wd_int (o_I0b ⟨_, rfl, ite_b (fun hk => ?_) (fun hk => ?_) ⟩)))))
      · refine ws_append (by decide) rfl (wd_tup (wa_cons (wd_str (wa_cons (wd_var rfl (by decide) (wa_nil ⟨Nat.le_of_ble_eq_true rfl, _, rfl, hfl, ?_ ⟩))))))
        refine step (.ot "word" w []) _ _ _ _ ⟨⟨by decide +kernel, w2, by decide⟩, by simp [goodPart, w1], fun x hx => ?_⟩ (sub0 _ ?_) (by omega)
        · simp [RP.ww] at hx; subst hx; exact hw
        · have h1 : ¬ (("word" : PySem.Str) = "one") := by decide +kernel
          have h2 : ¬ (("word" : PySem.Str) = "any") := by decide +kernel
          simp [RP.name, h1, h2]
      · refine ws_if (wt_test (wd_op (wd_var rfl (by decide) (wd_int (o_eqI ⟨_, rfl, ite_b (fun hk2 => ?_) (fun hk2 => ?_) ⟩)))))
        · refine ws_append (by decide) rfl (wd_tup (wa_cons (wd_str (wa_cons (wd_op (wd_lst (wa_cons (wd_var rfl (by decide) (wa_nil ⟨Nat.le_of_ble_eq_true rfl, wd_sl (wd_lst (wa_cons (wd_str (wa_cons (wd_str (wa_nil ⟨Nat.le_of_ble_eq_true rfl, wo_none (wo_some (wd_drawC rfl rfl (by decide) hl (by omega) (by decide) fun y hy0 hy1 => ⟨y, rfl, s_lst ?_ ⟩))⟩))))))⟩)))))))))
          have ec : cutD [D.str "b", D.str "a"] none (some y) = ((["b", "a"] : List PySem.Str).take y.toNat).map D.str := by
            have hy : y = 0 ∨ y = 1 ∨ y = 2 := by omega
            rcases hy with rfl | rfl | rfl <;> rfl
          rw [ec]
          have htl : ((["b", "a"] : List PySem.Str).take y.toNat).length ≤ 2 := by simp; omega
          have hmem : ∀ x ∈ w :: (["b", "a"] : List PySem.Str).take y.toNat, x ∈ abL := fun x hx => by
            rcases List.mem_cons.mp hx with e | e
            · rw [e]; exact hw
            · have := List.mem_of_mem_take e
              revert this x
              intro x _ _ h
              simp at h
              rcases h with rfl | rfl <;> decide +kernel
          refine o_addL (by simp; omega) (wa_nil ⟨Nat.le_of_ble_eq_true rfl, _, rfl, hfl, ?_⟩)
          generalize ((["b", "a"] : List PySem.Str).take y.toNat) = tl at htl hmem ⊢
          refine step (.of (w :: tl)) _ _ _ _ ⟨⟨by simp; omega, fun x hx => (abL_ok x (hmem x hx)).2.1⟩, ?_, hmem⟩ (sub0 _ rfl) (by omega)
          have : (w :: tl).all isWordS = true := List.all_eq_true.mpr fun x hx => (abL_ok x (hmem x hx)).1
          simp only [goodPart, this]
          simp; omega
        · have hix : L2.atI ("xyz" : PySem.Str).cps.toList (0 + (i : Int)) = some (120 + i) := by
            have : i = 0 ∨ i = 1 ∨ i = 2 := by omega
            rcases this with rfl | rfl | rfl <;> decide +kernel
          have hxs : xyL[i]? = some (⟨#[120 + i]⟩ : PySem.Str) := by
            have : i = 0 ∨ i = 1 ∨ i = 2 := by omega
            rcases this with rfl | rfl | rfl <;> decide +kernel
          have hxm : (⟨#[120 + i]⟩ : PySem.Str) ∈ xyL := List.mem_of_getElem? hxs
          have take1 : xyL.take (i + 1) = xyL.take i ++ [⟨#[120 + i]⟩] := by rw [List.take_add_one, hxs]; rfl
          obtain ⟨x1, x2, _, _⟩ := xyL_ok.2.2 _ hxm
          have hlz : ("xyz" : PySem.Str).length ≤ 1000000 := by decide +kernel
          have fin : ∀ (k : PySem.Str) (n2 : Nat) (a b c : MV), k = "one" ∨ k = "any" → n2 ≤ n + 1 + 3 * (i + 1) → _ := fun k n2 a b c hk hn2 => by
            have hkof : k ≠ "of" := by rcases hk with rfl | rfl <;> decide +kernel
            have hkw : k ≠ "word" := by rcases hk with rfl | rfl <;> decide +kernel
            have hor : (decide (k = "one") || decide (k = "any")) = true := by simpa using hk
            refine step (.ot k ⟨#[120 + i]⟩ []) n2 a b c ⟨⟨hkof, x2, by decide⟩, by simp only [goodPart, x1, hor]; simp, fun x hx => by simp [RP.ww, hkw] at hx⟩ ?_ hn2
            have : namesP (rs ++ [.ot k ⟨#[120 + i]⟩ []]) = namesP rs ++ [⟨#[120 + i]⟩] := by
              simp [namesP, RP.name, hk]
            rw [this, take1]
            exact hsub.append (List.Sublist.refl _)
          refine ws_append (by decide) rfl (wd_tup (wa_cons (wd_if (wt_test (wd_op (wd_var rfl (by decide) (wd_int (o_eqI ⟨_, rfl, ite_b (fun h5 => ?_) (fun h5 => ?_) ⟩))))))))
          · refine wd_str (wa_cons (wd_op (wd_str (wd_var rfl (by decide) (o_ixS hlz hix (wa_nil ⟨Nat.le_of_ble_eq_true rfl, _, rfl, hfl, fin _ _ _ _ _ (.inl rfl) (by omega) ⟩))))))
          · refine wd_str (wa_cons (wd_op (wd_str (wd_var rfl (by decide) (o_ixS hlz hix (wa_nil ⟨Nat.le_of_ble_eq_true rfl, _, rfl, hfl, fin _ _ _ _ _ (.inr rfl) (by omega) ⟩))))))
    · rintro mm ⟨rs, n', z3, z4, z5, rfl, hli, hrs, hsub, hn'⟩
      rw [rngD_len] at hli hsub hn'
      exact ⟨rs, n', z3, z4, z5, rfl, ⟨by omega, hrs, hsub.trans (List.take_sublist _ _)⟩, by omega⟩
  · rintro mm ⟨rs, n', z3, z4, z5, rfl, hni, hn'⟩
    refine ws_ret (wd_freeze 2 rfl (wd_var rfl (by decide) ⟨_, .fz (.ot .nil), ?_⟩))
    rw [toD_lst]
    exact hP rs n' hni hn'
end M
namespace M
open PySem PySem.Spec PyProof.Rows L2
/-! ### k40: the law -/
def fs_law (K : PySem.W.Frag) : FS := fun ms P X => ∃ sc, ms = [scr sc] ∧ sc.length ≤ 63 ∧ P (.fz (.bl true)) ms
/-- law: slots 0 script, 1 town, 2 rows, 3 one, 4 other, 5 words, 6 told, 7 both, 8 gone, 9 k, 10 some, 11 kind, 12 what, 13 j -/
def t_law (K : PySem.W.Frag) : WX → TS := fun W => (tSeq (tAsg (tLst tNil) (gName 1)) (tSeq (tAsg (tLcW (iRng1 (tCons (tOp (rAddA K) (tC (.int 2)) (tCallS (SpM K (fs__law_draw K)) (WE W) (tCons (tVar 0) (tCons (tVar 1) (tCons (tC (.int 2)) tNil))))) tNil)) (gName 9) (fun W => tYes) (fun W => (tCallS (SpM K (fs__law_few K)) (WE W) (tCons (tVar 0) (tCons (tVar 1) tNil)))) [9]) (gName 2)) (tSeq (tIfS (tTest (tOp (rEqA K) (tCallS (SpM K (fs__law_draw K)) (WE W) (tCons (tVar 0) (tCons (tVar 1) (tCons (tC (.int 4)) tNil)))) (tC (.int 0)))) (tAsg (tLcW (iList K (tOp (rIxA K) (tVar 2) (tC (.int 0)))) (gTup K 2 (gCons (gName 11) (gCons (gName 12) gNil))) (fun W => tYes) (fun W => (tTup (tCons (tVar 11) (tCons (tIf (tTest (tOp (rInA K) (tVar 11) (tTup (tCons (tC (.str "word")) (tCons (tC (.str "of")) tNil))))) (tVar 12) (tOp (rAddA K) (tVar 12) (tC (.str "q")))) tNil)))) [11, 12]) (gSub (tVar 2) (tC (.int 1)) rSetL)) tNext) (tSeq (tAsg (L2.tSl (rSlA' K) (tVar 2) tNoPart (tPart (tC (.int 2)))) (gLst K 2 (gCons (gName 3) (gCons (gName 4) gNil)))) (tSeq (tAsg (tCallS (SpM K (fs__law_alphabet K)) (WE W) (tCons (tVar 3) (tCons (tVar 4) tNil))) (gName 5)) (tSeq (tIfS (tTest (tOp (rNeA K) (tCallS (SpM K (fs_alphabet K)) (WE W) (tCons (tVar 3) (tCons (tVar 4) tNil))) (tVar 5))) (tRet (tC (.bl false))) tNext) (tSeq (tAsg (tCallS (SpM K (fs_apart K)) (WE W) (tCons (tVar 3) (tCons (tVar 4) tNil))) (gName 6)) (tSeq (tIfS (tNot (tB (tCallS (SpM K (fs__law_is K)) (WE W) (tCons (tVar 6) (tCons (tCallS (SpM K (fs__law_first K)) (WE W) (tCons (tVar 3) (tCons (tVar 4) (tCons (tVar 5) (tCons (tC (.bl false)) tNil))))) (tCons (tVar 3) (tCons (tVar 4) (tCons (tC (.bl false)) tNil)))))))) (tRet (tC (.bl false))) tNext) (tSeq (tIfS (tOr (tTest (tOp (rNeA K) (tCallS (SpM K (fs_covers K)) (WE W) (tCons (tVar 4) (tCons (tVar 3) tNil))) (tOp rIsN (tVar 6) (tC .non)))) (tTest (tOp rNotB (tCallS (SpM K (fs_covers K)) (WE W) (tCons (tVar 3) (tCons (tVar 3) tNil))) (tC (.bl true))))) (tRet (tC (.bl false))) tNext) (tSeq (tAsg (tCallS (SpM K (fs_common K)) (WE W) (tCons (tVar 3) (tCons (tVar 4) tNil))) (gName 7)) (tSeq (tIfS (tNot (tB (tCallS (SpM K (fs__law_is K)) (WE W) (tCons (tVar 7) (tCons (tCallS (SpM K (fs__law_first K)) (WE W) (tCons (tVar 3) (tCons (tVar 4) (tCons (tVar 5) (tCons (tC (.bl true)) tNil))))) (tCons (tVar 3) (tCons (tVar 4) (tCons (tC (.bl true)) tNil)))))))) (tRet (tC (.bl false))) tNext) (tSeq (tIfS (tAnd (tTest (tOp rNotN (tVar 6) (tC .non))) (tOr (tTest (tOp rIsN (tCallS (SpM K (fs_match K)) (WE W) (tCons (tVar 3) (tCons (tVar 6) tNil))) (tC .non))) (tTest (tOp rNotN (tCallS (SpM K (fs_match K)) (WE W) (tCons (tVar 4) (tCons (tVar 6) tNil))) (tC .non))))) (tRet (tC (.bl false))) tNext) (tSeq (tAsg (tLst tNil) (gName 8)) (tSeq (tFor (iRng1 (tCons (tCB (rLenA K) (tCons (tVar 2) tNil)) tNil)) (gName 9) (tSeq (tAsg (tLcW (iRng1 (tCons (tCB (rLenA K) (tCons (tVar 2) tNil)) tNil)) (gName 13) (fun W => (tAnd (tTest (tOp (rNeA K) (tVar 13) (tVar 9))) (tTest (tOp rIsN (tCallS (SpM K (fs_apart K)) (WE W) (tCons (tOp (rIxA K) (tVar 2) (tVar 9)) (tCons (tOp (rIxA K) (tVar 2) (tVar 13)) tNil))) (tC .non))))) (fun W => (tVar 13)) [13]) (gName 10)) (tIfS (tTest (tOp (rNeA K) (tLcW (iList K (tVar 10)) (gName 13) (fun W => (tOr (tTest (tOp (rI0 fun i j => .bl (decide (i < j))) (tVar 13) (tVar 9))) (tTest (tOp rNotN (tCallS (SpM K (fs_apart K)) (WE W) (tCons (tOp (rIxA K) (tVar 2) (tVar 13)) (tCons (tOp (rIxA K) (tVar 2) (tVar 9)) tNil))) (tC .non))))) (fun W => (tVar 13)) [13]) (tLst tNil))) (tDrop (tBM K "list" rAppend (tVar 8) (tCons (tVar 9) tNil))) tNext))) (tRet (tOp (rEqA K) (tCallS (SpM K (fs_needless K)) (WE W) (tCons (tVar 2) tNil)) (tVar 8)))))))))))))))))
theorem o_notB {K : PySem.W.Frag} {P : D → Prop} {a b : Bool} (h : P (.bl (!decide (a = b)))) : opD K rNotB (.bl a) (.bl b) P := by
  intro x y F H Q r1 r2 s k
  cases r1
  cases r2
  exact ⟨a, b, rfl, rfl, k _ _ F H h .refl (.bl _)⟩
theorem natsD_sh (l : List Nat) : (natsD l).sh = true := by
  have h1 := lay_ints l
  have h2 := depth_ints l
  have e : pys (l.map fun i : Nat => D.int (i : Int)) = l.map fun i : Nat => PyData.int (i : Int) := pys_ints l
  unfold D.sh SeqAt.shaped natsD
  simp only [D.py, e, PyData.canLay0, PyData.depth, h1, Bool.true_and]
  exact decide_eq_true (by omega)
theorem isN_mat (ps : List RP) (r : List PySem.Str) : isNone (matD ps r) = some (!accB ps r) := by
  rw [← mfL_acc]
  unfold matD
  cases mfL ps r <;> rfl
def quD (d : D) : D := match d with | .tup [.str k, a] => .tup [.str k, if k = "word" ∨ k = "of" then a else match a with | .str s => .str (s ++ "q") | x => x] | x => x
theorem quD_rp {r : RP} (hok : r.ok) (h : goodPart r = true) : quD (rpD r) = rpD (quF r) := by
  rw [good_rp h]
  cases r with
  | of l =>
    have : quD (.tup [.str "of", strsD l]) = .tup [.str "of", strsD l] := by simp [quD]
    exact this
  | ot k s ex =>
    simp only [goodPart, Bool.and_eq_true, decide_eq_true_eq] at h
    have hx := h.1.1
    subst hx
    have e : quD (.tup [.str k, .str s]) = .tup [.str k, if k = "word" ∨ k = "of" then .str s else .str (s ++ "q")] := rfl
    show quD (.tup [.str k, .str s]) = _
    rw [e]
    by_cases hk : k = "word"
    · rw [if_pos (.inl hk), quF_w hk]; rfl
    · rw [if_neg (fun z => z.elim hk hok.1), quF_n hk]; rfl
theorem wg_lst {K : PySem.W.Frag} {n : Nat} {ms : List MV} {N : List MV → Prop} {g : TGs} {ds : List D} {m : Nat} (hm : ds.length = m) (h : wpGs K n g ds ms N) : wpG K n (gLst K m g) (.lst ds) ms N := by
  intro G F H σ gv v Q hn S r k
  cases r with
  | lst hs r =>
    exact ⟨_, _, rfl, SqL.of (S.f _ _ hs), by rw [r.length]; exact hm, h G F H σ gv _ Q hn S r k⟩
theorem FewR {rows : List (List RP)} (hl : rows.length ≤ 3) (h : ∀ ps ∈ rows, FewP ps) : GdR rows := ⟨by omega, fun ps hp => (h ps hp).gd⟩
theorem h_law {K : PySem.W.Frag} : FsOk K 1 14 (fs_law K) (t_law K) := by
  intro ms P X hf
  obtain ⟨sc, rfl, hl, hP⟩ := hf
  refine ⟨rfl, ?_⟩
  unfold t_law
  refine ws_seq (ws_setN (by decide) (wn_lst (wa_nil ⟨by decide, fun t => ?_ ⟩)))
  show wpS K 14 _ [scr sc, .ot t (zeros 0), .un, .un, .un, .un, .un, .un, .un, .un, .un, .un, .un, .un] _ _ _
  refine ws_seq (ws_setN (by decide) (wn_lcD (by decide) (gok_name (by decide)) (wi_rng1 (wa_cons (wd_op (wd_int (wd_drawC rfl rfl (by decide) hl (by omega) (by decide) fun z hz0 hz1 => o_addI (wa_nil ⟨_, rfl, by omega, by omega, ?_ ⟩))))))))
  refine ⟨by rw [rngD_len]; omega, fun i acc m => ∃ (rows : List (List RP)) (n : Nat), acc = rows.map patD ∧ rows.length = i ∧ (∀ ps ∈ rows, Few ps) ∧ n ≤ 1 + 20 * i ∧ m = [scr sc, .ot t (zeros n), .un, .un, .un, .un, .un, .un, .un, .un, .un, .un, .un, .un], ⟨[], 1, rfl, rfl, by simp, by omega, rfl⟩, ?_, ?_⟩
  · rintro i d acc m hd ⟨rows, n, rfl, hri, hrf, hn, rfl⟩
    obtain ⟨hi, rfl⟩ := rngD_at hd
    refine wg_name (by decide) (wt_yes (ite_t rfl (wd_call [(1, 1)] (wa_cons (wd_var rfl (by decide) (wa_cons (wd_varO rfl (by decide) (wa_nil ⟨_, _, .cons rfl rfl .nil, sc, t, n, rfl, hl, by omega, fun ps n' hfw hn' => ⟨_, _, .cons rfl rfl .nil, _, rfl, ?_ ⟩⟩))))))))
    refine ⟨rows ++ [ps], n', by simp, by simp [hri], fun x hx => ?_, by omega, rfl⟩
    rcases List.mem_append.mp hx with m | m
    · exact hrf x m
    · rw [List.mem_singleton.mp m]; exact hfw
  · rintro acc m q ⟨rows, n, rfl, hri, hrf, hn, rfl⟩
    rw [rngD_len] at hri hn
    have h23 : 2 ≤ rows.length ∧ rows.length ≤ 3 := by omega
    have hn100 : n ≤ 100 := by omega
    show wpS K 14 _ [scr sc, .ot t (zeros n), .ot q (.lst ((rows.map patD).map .lf)), .un, .un, .un, .un, .un, .un, .un, .un, .un, .un, .un] _ _ _
    refine ws_cut (fun m => ∃ (rows : List (List RP)) (n : Nat), m = [scr sc, .ot t (zeros n), .ot q (.lst ((rows.map patD).map .lf)), .un, .un, .un, .un, .un, .un, .un, .un, .un, .un, .un] ∧ (2 ≤ rows.length ∧ rows.length ≤ 3) ∧ ∀ ps ∈ rows, FewP ps) ?_ ?_
    · refine ws_if (wt_test (wd_op (wd_drawC rfl rfl (by decide) hl (by omega) (by decide) fun z hz0 hz1 => wd_int (o_eqI ⟨_, rfl, ite_b (fun h => ?_) (fun h => ws_next ⟨rows, n + 1, rfl, h23, fun ps hp => (hrf ps hp).p⟩) ⟩))))
      cases rows with
      | nil => simp at h23
      | cons r0 rows =>
        cases rows with
        | nil => simp at h23
        | cons r1 rest =>
          have hf0 := hrf r0 (by simp)
          refine ws_setL (p := q) (by decide) (wd_lcMap (by decide) (gok_tup (gsok_cons (by decide) (gsok_cons (by decide) gsok_nil))) (wi_list (wd_ixR (wd_varO rfl (by decide) ⟨q, rfl, wd_int ⟨0, 2, _, patD r0, rfl, rfl, atI_zero _ _, _, rfl, ?_ ⟩⟩))))
          refine ⟨by have := hf0.len; simp; omega, fun _ => true, quD, fun d hd => ?_, ?_⟩
          · obtain ⟨r, hr, rfl⟩ := List.mem_map.mp hd
            obtain ⟨o1, g1, _⟩ := hf0.parts r hr
            rw [quD_rp o1 g1, good_rp g1]
            refine wg_tup rfl (wgs_cons (wg_name (by decide) (wgs_cons (wg_name (by decide) (wgs_nil (wt_yes ⟨rfl, rfl, fun _ => ?_⟩))))))
            refine wd_tup (wa_cons (wd_var rfl (by decide) (wa_cons (wd_if (wt_test (wd_op (wd_var rfl (by decide) (wd_tup (wa_cons (wd_str (wa_cons (wd_str (wa_nil ⟨Nat.le_of_ble_eq_true rfl, o_inT rfl rfl ⟨_, rfl, ?_ ⟩⟩)))))))))))))
            have ei : inD (.str r.kind) [.str "word", .str "of"] = decide (r.kind ∈ (["word", "of"] : List PySem.Str)) := inD_strs r.kind ["word", "of"]
            rw [ei]
            refine ite_b (fun h1 => ?_) (fun h1 => ?_)
            · refine wd_var rfl (by decide) (wa_nil ⟨Nat.le_of_ble_eq_true rfl, ?_, rfl⟩)
              cases r with
              | of l => rfl
              | ot k s ex =>
                have hk := of_decide_eq_true h1
                simp only [RP.kind] at hk
                have hk' : k = "word" := by
                  simp at hk
                  rcases hk with z | z
                  · exact z
                  · exact absurd z o1.1
                rw [quF_w hk', good_rp g1]
            · cases r with
              | of l => exact absurd (show PySem.Str.ofString "of" ∈ (["word", "of"] : List PySem.Str) by simp) (of_decide_eq_false h1)
              | ot k s ex =>
                have hk := of_decide_eq_false h1
                have hk' : k ≠ "word" := fun z => hk (by simp [RP.kind, z])
                obtain ⟨_, hs, rfl⟩ := hf0.nm hr hk'
                refine wd_op (wd_var rfl (by decide) (wd_str (o_addS (xyL_len s hs) (wa_nil ⟨Nat.le_of_ble_eq_true rfl, ?_, rfl⟩))))
                rw [quF_n hk']; rfl
          · rw [filt_true]
            have e : (r0.map rpD).map quD = (r0.map quF).map rpD := by
              rw [List.map_map, List.map_map]
              apply List.map_congr_left
              intro r hr
              obtain ⟨o1, g1, _⟩ := hf0.parts r hr
              exact quD_rp o1 g1
            rw [e]
            refine ⟨⟨_, rfl⟩, wd_int ⟨_, 1, 1, rfl, rfl, by simp [ixN]; omega, r0 :: r0.map quF :: rest, n + 1, rfl, by simpa using h23, fun ps hp => ?_⟩⟩
            rcases List.mem_cons.mp hp with m | m
            · rw [m]; exact hf0.p
            · rcases List.mem_cons.mp m with m | m
              · rw [m]; exact hf0.qu
              · exact (hrf ps (by simp [m])).p
    · clear hrf h23 hri hn hn100
      rintro m ⟨rows, n, rfl, h23, hrf⟩
      refine ws_freeze 2 rfl ?_
      rw [toD_lst]
      have hgr : GdR rows := FewR h23.2 hrf
      cases hrows : rows with
      | nil => rw [hrows] at h23; simp at h23
      | cons ps rows1 =>
        cases hrows1 : rows1 with
        | nil => rw [hrows, hrows1] at h23; simp at h23
        | cons qs rest =>
          have fp : FewP ps := hrf ps (by rw [hrows]; simp)
          have fq : FewP qs := hrf qs (by rw [hrows, hrows1]; simp)
          have gp := fp.gp
          have gq := fq.gp
          obtain ⟨ha4, hao⟩ := FewP.al fp fq
          rw [← hrows1, ← hrows]
          have e12 : cutD (rows.map patD) none (some 2) = [patD ps, patD qs] := by
            have h2 : cutD (rows.map patD) none (some 2) = (rows.map patD).take 2 := by
              unfold cutD
              rw [show (some (2 : Int)) = some (((2 : Nat)) : Int) from rfl, sIx_nat']
              show ((rows.map patD).drop 0).take (min 2 (rows.map patD).length - 0) = _
              rw [List.drop_zero, Nat.min_eq_left (by simp; omega)]
            rw [h2, hrows, hrows1]
            rfl
          refine ws_seq (ws_asg (wd_sl (wd_var rfl (by decide) (wo_none (wo_some (wd_int ⟨2, rfl, s_lst ?_ ⟩))))))
          rw [e12]
          refine wg_lst rfl (wgs_cons (wg_name (by decide) (wgs_cons (wg_name (by decide) (wgs_nil ?_)))))
          have hshA : (strsD (alF ps qs)).sh = true := strsD_sh hao
          refine ws_seq (ws_set (by decide) (wd_call [] (wa_cons (wd_var rfl (by decide) (wa_cons (wd_var rfl (by decide) (wa_nil ⟨_, _, .nil, ps, qs, rfl, gp, gq, _, _, .nil, _, rfl, ?_ ⟩)))))))
          refine ws_seq (ws_if (wt_test (wd_op (wd_call [] (wa_cons (wd_var rfl (by decide) (wa_cons (wd_var rfl (by decide) (wa_nil ⟨_, _, .nil, ps, qs, rfl, fp.gd.1, fq.gd.1, fp.gd.2.1, fq.gd.2.1, _, _, .nil, _, rfl, wd_var rfl (by decide) (o_neSame hshA ⟨_, rfl, ite_f rfl (ws_next ?_) ⟩)⟩)))))))))
          refine ws_seq (ws_set (by decide) (wd_call [] (wa_cons (wd_var rfl (by decide) (wa_cons (wd_var rfl (by decide) (wa_nil ⟨_, _, .nil, ps, qs, rfl, fp.gd, fq.gd, fun res hres => ⟨_, _, .nil, _, rfl, ?_ ⟩⟩)))))))
          show wpS K 14 _ [scr sc, .ot t (zeros n), .fz (.lst (rows.map patD)), .fz (patD ps), .fz (patD qs), .fz (strsD (alF ps qs)), .fz (resD res), .un, .un, .un, .un, .un, .un, .un] _ _ _
          have okr := okR_of fp fq hres
          refine ws_seq (ws_if (wt_not (wt_B (wd_call [] (wa_cons (wd_var rfl (by decide) (wa_cons (wd_call [] (wa_cons (wd_var rfl (by decide) (wa_cons (wd_var rfl (by decide) (wa_cons (wd_var rfl (by decide) (wa_cons (wd_bl (wa_nil ⟨_, _, .nil, ps, qs, false, rfl, gp, gq, ha4, _, _, .nil, _, rfl, ?_ ⟩)))))))))))))))))
          refine wa_cons (wd_var rfl (by decide) (wa_cons (wd_var rfl (by decide) (wa_cons (wd_bl (wa_nil ⟨_, _, .nil, res, duF ps qs false, ps, qs, false, rfl, okr, gp, gq, is_ok hres, _, _, .nil, _, rfl, _, rfl, ite_f rfl (ws_next ?_) ⟩))))))
          refine ws_seq (ws_if (wt_or (wt_test (wd_op (wd_call [] (wa_cons (wd_var rfl (by decide) (wa_cons (wd_var rfl (by decide) (wa_nil ⟨_, _, .nil, qs, ps, rfl, fq.gd, fp.gd, _, _, .nil, _, rfl, wd_op (wd_var rfl (by decide) (wd_non (o_isN (SH_none hres) (o_neSame rfl ⟨_, rfl, ite_f rfl ?_ ⟩))))⟩))))))))))
          refine wt_test (wd_op (wd_call [] (wa_cons (wd_var rfl (by decide) (wa_cons (wd_var rfl (by decide) (wa_nil ⟨_, _, .nil, ps, ps, rfl, fp.gd, fp.gd, _, _, .nil, _, rfl, wd_bl (o_notB ⟨_, rfl, ite_f (by rw [cov_self]; rfl) (ws_next ?_) ⟩)⟩)))))))
          refine ws_seq (ws_set (by decide) (wd_call [] (wa_cons (wd_var rfl (by decide) (wa_cons (wd_var rfl (by decide) (wa_nil ⟨_, _, .nil, ps, qs, rfl, fp.gd, fq.gd, fun res2 hres2 => ⟨_, _, .nil, _, rfl, ?_ ⟩⟩)))))))
          show wpS K 14 _ [scr sc, .ot t (zeros n), .fz (.lst (rows.map patD)), .fz (patD ps), .fz (patD qs), .fz (strsD (alF ps qs)), .fz (resD res), .fz (resD res2), .un, .un, .un, .un, .un, .un] _ _ _
          have okr2 := okR_of fp fq hres2
          refine ws_seq (ws_if (wt_not (wt_B (wd_call [] (wa_cons (wd_var rfl (by decide) (wa_cons (wd_call [] (wa_cons (wd_var rfl (by decide) (wa_cons (wd_var rfl (by decide) (wa_cons (wd_var rfl (by decide) (wa_cons (wd_bl (wa_nil ⟨_, _, .nil, ps, qs, true, rfl, gp, gq, ha4, _, _, .nil, _, rfl, ?_ ⟩)))))))))))))))))
          refine wa_cons (wd_var rfl (by decide) (wa_cons (wd_var rfl (by decide) (wa_cons (wd_bl (wa_nil ⟨_, _, .nil, res2, duF ps qs true, ps, qs, true, rfl, okr2, gp, gq, is_ok hres2, _, _, .nil, _, rfl, _, rfl, ite_f rfl (ws_next ?_) ⟩))))))
          refine ws_cut (fun m => m = [scr sc, .ot t (zeros n), .fz (.lst (rows.map patD)), .fz (patD ps), .fz (patD qs), .fz (strsD (alF ps qs)), .fz (resD res), .fz (resD res2), .un, .un, .un, .un, .un, .un]) ?_ ?_
          · refine ws_if (wt_and (wt_test (wd_op (wd_var rfl (by decide) (wd_non (o_notN (isN_res res) ⟨_, rfl, ?_ ⟩))))))
            cases res with
            | none => exact ite_f rfl (ite_f rfl (ws_next rfl))
            | some r =>
              obtain ⟨hr1, hr2, hr3, _⟩ := hres
              unfold okW at hr3
              simp only [Bool.and_eq_true, beq_iff_eq] at hr3
              have lp := fp.gd.2.2
              have lq := fq.gd.2.2
              refine ite_t rfl ?_
              refine wt_or (wt_test (wd_op (wd_call [] (wa_cons (wd_var rfl (by decide) (wa_cons (wd_var rfl (by decide) (wa_nil ⟨_, _, .nil, ps, r, rfl, by omega, by omega, fp.gd.1, fun _ => ⟨_, _, .nil, _, rfl, wd_non (o_isN (isN_mat ps r) ⟨_, rfl, ite_f (by rw [hr3.1]; rfl) ?_⟩)⟩, fun z => by rw [fp.gd.2.1] at z; cases z ⟩))))))))
              refine wt_test (wd_op (wd_call [] (wa_cons (wd_var rfl (by decide) (wa_cons (wd_var rfl (by decide) (wa_nil ⟨_, _, .nil, qs, r, rfl, by omega, by omega, fq.gd.1, fun _ => ⟨_, _, .nil, _, rfl, wd_non (o_notN (isN_mat qs r) ⟨_, rfl, ite_f (by rw [hr3.2]; rfl) (ws_next rfl)⟩)⟩, fun z => by rw [fq.gd.2.1] at z; cases z ⟩)))))))
          · rintro m rfl
            have hl10 := h23.2
            refine ws_seq (ws_setN (by decide) (wn_lst (wa_nil ⟨by decide, fun p8 => ?_⟩)))
            refine ws_cut (fun m => ∃ z9 z10, m = [scr sc, .ot t (zeros n), .fz (.lst (rows.map patD)), .fz (patD ps), .fz (patD qs), .fz (strsD (alF ps qs)), .fz (resD res), .fz (resD res2), .ot p8 (.lst (((ndF rows).map fun i : Nat => D.int (i : Int)).map .lf)), z9, z10, .un, .un, .un]) ?_ ?_
            · refine ws_for (wi_rng1 (wa_cons (wd_cb (wa_cons (wd_var rfl (by decide) (wa_nil (c_len (m := rows.length) (by simp [lenD]) (by omega) (wa_nil ⟨_, rfl, by omega, by omega, ?_ ⟩))))))))
              refine ⟨fun i m => ∃ z9 z10, m = [scr sc, .ot t (zeros n), .fz (.lst (rows.map patD)), .fz (patD ps), .fz (patD qs), .fz (strsD (alF ps qs)), .fz (resD res), .fz (resD res2), .ot p8 (.lst ((((List.range i).filter (ndB rows)).map fun i : Nat => D.int (i : Int)).map .lf)), z9, z10, .un, .un, .un], ⟨_, _, rfl⟩, ?_, ?_⟩
              · rintro k d mm hd ⟨z9, z10, rfl⟩
                obtain ⟨hk, rfl⟩ := rngD_at hd
                have hk' : k < rows.length := by omega
                have gk := hgr.at hk'
                have ixk := row_ix hk'
                have ek : (0 + (k : Int)) = (k : Int) := by omega
                rw [ek]
                refine wg_name (by decide) ?_
                refine ws_seq (ws_set (by decide) (wd_lcMap (by decide) (gok_name (by decide)) (wi_rng1 (wa_cons (wd_cb (wa_cons (wd_var rfl (by decide) (wa_nil (c_len (m := rows.length) (by simp [lenD]) (by omega) (wa_nil ⟨_, rfl, by omega, by omega, ?_ ⟩))))))))))
                refine ⟨by rw [rngD_len]; omega, fun d => smT rows k (natF d), fun d => d, fun d hd => ?_, ?_⟩
                · obtain ⟨j, hj⟩ := List.getElem?_of_mem hd
                  obtain ⟨hjl, rfl⟩ := rngD_at hj
                  have hj' : j < rows.length := by omega
                  have ej : (0 + (j : Int)) = (j : Int) := by omega
                  rw [ej]
                  have en : natF (D.int (j : Int)) = j := by simp [natF]
                  refine wg_name (by decide) (wt_and (wt_test (wd_op (wd_var rfl (by decide) (wd_var rfl (by decide) (o_neI ⟨_, rfl, ?_ ⟩))))))
                  have ed : decide ((j : Int) = (k : Int)) = decide (j = k) := by
                    by_cases e : j = k
                    · subst e; simp
                    · have : ¬ ((j : Int) = (k : Int)) := by omega
                      simp [e, this]
                  have ef : smT rows k (natF (D.int (j : Int))) = (!decide (j = k) && cov (rows.getD k []) (rows.getD j [])) := by rw [en]; rfl
                  rw [ed]
                  refine ite_b (fun h => ?_) (fun h => ⟨by show false = smT rows k (natF (D.int (j : Int))); rw [ef, h]; rfl, rfl, fun z => by cases z⟩)
                  refine wt_test (wd_op (wd_call [] (wa_cons (wd_op (wd_var rfl (by decide) (wd_var rfl (by decide) (o_ixL ixk (wa_cons (wd_op (wd_var rfl (by decide) (wd_var rfl (by decide) (o_ixL (row_ix hj') (wa_nil ⟨_, _, .nil, _, _, rfl, gk, hgr.at hj', fun re hre => ⟨_, _, .nil, _, rfl, wd_non (o_isN (SH_none hre) ⟨_, rfl, by show _ = smT rows k (natF (D.int (j : Int))); rw [ef, h]; rfl, rfl, fun _ => wd_var rfl (by decide) ⟨rfl, rfl⟩⟩)⟩⟩)))))))))))))
                · have e1 : (rngD 0 ((rows.length : Int)).toNat).filter (fun d => smT rows k (natF d)) = (smF rows k).map fun i : Nat => D.int (i : Int) := by
                    rw [filt_rng]; rfl
                  rw [e1]
                  have e2 : ((smF rows k).map fun i : Nat => D.int (i : Int)).map (fun d => d) = (smF rows k).map fun i : Nat => D.int (i : Int) := List.map_id' _
                  rw [e2]
                  show wpS K 14 _ [scr sc, .ot t (zeros n), .fz (.lst (rows.map patD)), .fz (patD ps), .fz (patD qs), .fz (strsD (alF ps qs)), .fz (resD res), .fz (resD res2), .ot p8 (.lst ((((List.range k).filter (ndB rows)).map fun i : Nat => D.int (i : Int)).map .lf)), .fz (.int (k : Int)), .fz (natsD (smF rows k)), .un, .un, .un] _ _ _
                  have hsl : (smF rows k).length ≤ rows.length := by
                    have := List.length_filter_le (smT rows k) (List.range rows.length)
                    simpa [smF] using this
                  refine ws_if (wt_test (wd_op (wd_lcMap (by decide) (gok_name (by decide)) (wi_list (wd_var rfl (by decide) ⟨_, rfl, ?_ ⟩)))))
                  refine ⟨by simp; omega, fun d => ndT rows k (natF d), fun d => d, fun d hd => ?_, ?_⟩
                  · obtain ⟨j, hj, rfl⟩ := List.mem_map.mp hd
                    have hj' := smF_mem hj
                    have en : natF (D.int (j : Int)) = j := by simp [natF]
                    refine wg_name (by decide) (wt_or (wt_test (wd_op (wd_var rfl (by decide) (wd_var rfl (by decide) (o_I0b ⟨_, rfl, ?_ ⟩))))))
                    have ed : decide ((j : Int) < (k : Int)) = decide (j < k) := by
                      by_cases e : j < k
                      · have : ((j : Int) < (k : Int)) := by omega
                        simp [e, this]
                      · have : ¬ ((j : Int) < (k : Int)) := by omega
                        simp [e, this]
                    have ef : ndT rows k (natF (D.int (j : Int))) = (decide (j < k) || !cov (rows.getD j []) (rows.getD k [])) := by rw [en]; rfl
                    rw [ed]
                    refine ite_b (fun h => ⟨by show true = ndT rows k (natF (D.int (j : Int))); rw [ef, h]; rfl, rfl, fun _ => wd_var rfl (by decide) ⟨rfl, rfl⟩⟩) (fun h => ?_)
                    refine wt_test (wd_op (wd_call [] (wa_cons (wd_op (wd_var rfl (by decide) (wd_var rfl (by decide) (o_ixL (row_ix hj') (wa_cons (wd_op (wd_var rfl (by decide) (wd_var rfl (by decide) (o_ixL ixk (wa_nil ⟨_, _, .nil, _, _, rfl, hgr.at hj', gk, fun re hre => ⟨_, _, .nil, _, rfl, wd_non (o_notN (SH_none hre) ⟨_, rfl, by show _ = ndT rows k (natF (D.int (j : Int))); rw [ef, h]; rfl, rfl, fun _ => wd_var rfl (by decide) ⟨rfl, rfl⟩⟩)⟩⟩)))))))))))))
                  · have e3 : ((smF rows k).map fun i : Nat => D.int (i : Int)).filter (fun d => ndT rows k (natF d)) = ((smF rows k).filter (ndT rows k)).map fun i : Nat => D.int (i : Int) := by
                      rw [List.filter_map]
                      rfl
                    rw [e3]
                    have e4 : (((smF rows k).filter (ndT rows k)).map fun i : Nat => D.int (i : Int)).map (fun d => d) = ((smF rows k).filter (ndT rows k)).map fun i : Nat => D.int (i : Int) := List.map_id' _
                    rw [e4]
                    refine wd_lst (wa_nil ⟨Nat.le_of_ble_eq_true rfl, o_neD (natsD_sh _) rfl ⟨_, rfl, ?_⟩⟩)
                    have e5 : (!PyData.eqv (natsD ((smF rows k).filter (ndT rows k))).py (D.lst []).py) = ndB rows k := by
                      unfold ndB
                      cases hfl : (smF rows k).filter (ndT rows k) with
                      | nil =>
                        have : (smF rows k).any (ndT rows k) = false := by
                          rw [List.any_eq_false]
                          intro x hx
                          have := List.filter_eq_nil_iff.mp hfl x hx
                          exact this
                        rw [this]; rfl
                      | cons x l =>
                        have : (smF rows k).any (ndT rows k) = true := by
                          rw [List.any_eq_true]
                          have hx : x ∈ (smF rows k).filter (ndT rows k) := by rw [hfl]; simp
                          obtain ⟨h1, h2⟩ := List.mem_filter.mp hx
                          exact ⟨x, h1, h2⟩
                        rw [this]; rfl
                    rw [e5]
                    have rs : (List.range (k + 1)).filter (ndB rows) = (List.range k).filter (ndB rows) ++ (if ndB rows k then [k] else []) := by
                      rw [List.range_succ, List.filter_append]
                      cases h : ndB rows k <;> simp [h]
                    have hfl : ((List.range k).filter (ndB rows)).length ≤ k := by
                      have := List.length_filter_le (ndB rows) (List.range k)
                      simpa using this
                    refine ite_b (fun h => ?_) (fun h => ?_)
                    · refine ws_append (by decide) rfl (wd_var rfl (by decide) ⟨_, rfl, by simp; omega, .fz (.int (k : Int)), .fz (natsD (smF rows k)), ?_⟩)
                      rw [rs, h]
                      simp [wipeM]
                    · refine ws_next ⟨.fz (.int (k : Int)), .fz (natsD (smF rows k)), ?_⟩
                      rw [rs, h]
                      simp [wipeM]
              · rintro mm ⟨z9, z10, rfl⟩
                rw [rngD_len]
                exact ⟨z9, z10, rfl⟩
            · rintro mm ⟨z9, z10, rfl⟩
              refine ws_freeze 8 rfl ?_
              rw [toD_lst]
              exact ws_ret (wd_op (wd_call [] (wa_cons (wd_var rfl (by decide) (wa_nil ⟨_, _, .nil, rows, rfl, hgr, _, _, .nil, _, rfl, wd_var rfl (by decide) (o_eqSame (natsD_sh _) ⟨_, .fz .nil, hP⟩)⟩)))))
end M
namespace Rk
open PySem PySem.Spec PyProof.Rows L2 M
def top (i : Nat) : Stmt := PySem.Challenge.pw_answerhall_k40_whole_covering.main.body.getD i (.Pass ⟨0, 0, 0, 0⟩)
abbrev s__law_cell : Stmt := top 25
abbrev N__law_cell : List PySem.Str := ["script", "k"]
theorem sc__law_cell : FnScope N__law_cell ["script", "k"] (defScope s__law_cell) := ⟨rfl, rfl, rfl, by decide +kernel, rfl, by decide +kernel, by decide +kernel⟩
abbrev s__law_mix : Stmt := top 26
abbrev N__law_mix : List PySem.Str := ["script", "k", "number"]
theorem sc__law_mix : FnScope N__law_mix ["script", "k"] (defScope s__law_mix) := ⟨rfl, rfl, rfl, by decide +kernel, rfl, by decide +kernel, by decide +kernel⟩
abbrev s__law_draw : Stmt := top 27
abbrev N__law_draw : List PySem.Str := ["script", "town", "many"]
theorem sc__law_draw : FnScope N__law_draw ["script", "town", "many"] (defScope s__law_draw) := ⟨rfl, rfl, rfl, by decide +kernel, rfl, by decide +kernel, by decide +kernel⟩
abbrev s__law_pick : Stmt := top 28
abbrev N__law_pick : List PySem.Str := ["script", "town", "some"]
theorem sc__law_pick : FnScope N__law_pick ["script", "town", "some"] (defScope s__law_pick) := ⟨rfl, rfl, rfl, by decide +kernel, rfl, by decide +kernel, by decide +kernel⟩
abbrev s__law_few : Stmt := top 30
abbrev N__law_few : List PySem.Str := ["script", "town", "found", "k", "kind", "word"]
theorem sc__law_few : FnScope N__law_few ["script", "town"] (defScope s__law_few) := ⟨rfl, rfl, rfl, by decide +kernel, rfl, by decide +kernel, by decide +kernel⟩
abbrev s__law_alphabet : Stmt := top 31
abbrev N__law_alphabet : List PySem.Str := ["one", "other", "found", "kind", "what", "more"]
theorem sc__law_alphabet : FnScope N__law_alphabet ["one", "other"] (defScope s__law_alphabet) := ⟨rfl, rfl, rfl, by decide +kernel, rfl, by decide +kernel, by decide +kernel⟩
abbrev s_is_word : Stmt := top 5
abbrev N_is_word : List PySem.Str := ["text", "sign"]
theorem sc_is_word : FnScope N_is_word ["text"] (defScope s_is_word) := ⟨rfl, rfl, rfl, by decide +kernel, rfl, by decide +kernel, by decide +kernel⟩
abbrev s_look_pattern : Stmt := top 9
abbrev N_look_pattern : List PySem.Str := ["pattern", "names", "part", "words", "word"]
theorem sc_look_pattern : FnScope N_look_pattern ["pattern"] (defScope s_look_pattern) := ⟨rfl, rfl, rfl, by decide +kernel, rfl, by decide +kernel, by decide +kernel⟩
abbrev s_look_both : Stmt := top 19
abbrev N_look_both : List PySem.Str := ["one", "other"]
theorem sc_look_both : FnScope N_look_both ["one", "other"] (defScope s_look_both) := ⟨rfl, rfl, rfl, by decide +kernel, rfl, by decide +kernel, by decide +kernel⟩
abbrev s_words_in : Stmt := top 16
abbrev N_words_in : List PySem.Str := ["pattern", "found", "part"]
theorem sc_words_in : FnScope N_words_in ["pattern"] (defScope s_words_in) := ⟨rfl, rfl, rfl, by decide +kernel, rfl, by decide +kernel, by decide +kernel⟩
abbrev s_alphabet : Stmt := top 17
abbrev N_alphabet : List PySem.Str := ["one", "other", "some", "fresh"]
theorem sc_alphabet : FnScope N_alphabet ["one", "other"] (defScope s_alphabet) := ⟨rfl, rfl, rfl, by decide +kernel, rfl, by decide +kernel, by decide +kernel⟩
abbrev s_closed : Stmt := top 14
abbrev N_closed : List PySem.Str := ["pattern", "places", "found", "place"]
theorem sc_closed : FnScope N_closed ["pattern", "places"] (defScope s_closed) := ⟨rfl, rfl, rfl, by decide +kernel, rfl, by decide +kernel, by decide +kernel⟩
abbrev s_takes : Stmt := top 10
abbrev N_takes : List PySem.Str := ["part", "word"]
theorem sc_takes : FnScope N_takes ["part", "word"] (defScope s_takes) := ⟨rfl, rfl, rfl, by decide +kernel, rfl, by decide +kernel, by decide +kernel⟩
abbrev s_behind : Stmt := top 15
abbrev N_behind : List PySem.Str := ["pattern", "places", "word", "found", "place"]
theorem sc_behind : FnScope N_behind ["pattern", "places", "word"] (defScope s_behind) := ⟨rfl, rfl, rfl, by decide +kernel, rfl, by decide +kernel, by decide +kernel⟩
abbrev s_shortest : Stmt := top 18
abbrev N_shortest : List PySem.Str := ["one", "other", "wanted", "words", "start", "seen", "level", "state", "row", "later", "word", "new"]
theorem sc_shortest : FnScope N_shortest ["one", "other", "wanted"] (defScope s_shortest) := ⟨rfl, rfl, rfl, by decide +kernel, rfl, by decide +kernel, by decide +kernel⟩
abbrev s_apart : Stmt := top 21
abbrev N_apart : List PySem.Str := ["one", "other"]
theorem sc_apart : FnScope N_apart ["one", "other"] (defScope s_apart) := ⟨rfl, rfl, rfl, by decide +kernel, rfl, by decide +kernel, by decide +kernel⟩
abbrev s__law_fits : Stmt := top 29
abbrev N__law_fits : List PySem.Str := ["pattern", "words", "here", "kind", "what", "later", "at", "some"]
theorem sc__law_fits : FnScope N__law_fits ["pattern", "words"] (defScope s__law_fits) := ⟨rfl, rfl, rfl, by decide +kernel, rfl, by decide +kernel, by decide +kernel⟩
abbrev s__law_is : Stmt := top 34
abbrev N__law_is : List PySem.Str := ["found", "due", "one", "other", "wanted"]
theorem sc__law_is : FnScope N__law_is ["found", "due", "one", "other", "wanted"] (defScope s__law_is) := ⟨rfl, rfl, rfl, by decide +kernel, rfl, by decide +kernel, by decide +kernel⟩
abbrev s__law_lists : Stmt := top 32
abbrev N__law_lists : List PySem.Str := ["words", "most", "found", "level", "k", "longer", "row", "word"]
theorem sc__law_lists : FnScope N__law_lists ["words", "most"] (defScope s__law_lists) := ⟨rfl, rfl, rfl, by decide +kernel, rfl, by decide +kernel, by decide +kernel⟩
abbrev s__law_first : Stmt := top 33
abbrev N__law_first : List PySem.Str := ["one", "other", "words", "wanted", "row"]
theorem sc__law_first : FnScope N__law_first ["one", "other", "words", "wanted"] (defScope s__law_first) := ⟨rfl, rfl, rfl, by decide +kernel, rfl, by decide +kernel, by decide +kernel⟩
abbrev s_covers : Stmt := top 20
abbrev N_covers : List PySem.Str := ["one", "other"]
theorem sc_covers : FnScope N_covers ["one", "other"] (defScope s_covers) := ⟨rfl, rfl, rfl, by decide +kernel, rfl, by decide +kernel, by decide +kernel⟩
abbrev s_common : Stmt := top 22
abbrev N_common : List PySem.Str := ["one", "other"]
theorem sc_common : FnScope N_common ["one", "other"] (defScope s_common) := ⟨rfl, rfl, rfl, by decide +kernel, rfl, by decide +kernel, by decide +kernel⟩
abbrev s_match_from : Stmt := top 11
abbrev N_match_from : List PySem.Str := ["pattern", "words", "rest", "many"]
theorem sc_match_from : FnScope N_match_from ["pattern", "words"] (defScope s_match_from) := ⟨rfl, rfl, rfl, by decide +kernel, rfl, by decide +kernel, by decide +kernel⟩
abbrev s_match : Stmt := top 12
abbrev N_match : List PySem.Str := ["pattern", "words", "counts", "found", "at", "k"]
theorem sc_match : FnScope N_match ["pattern", "words"] (defScope s_match) := ⟨rfl, rfl, rfl, by decide +kernel, rfl, by decide +kernel, by decide +kernel⟩
abbrev s_needless : Stmt := top 23
abbrev N_needless : List PySem.Str := ["patterns", "pattern", "found", "k", "some", "j"]
theorem sc_needless : FnScope N_needless ["patterns"] (defScope s_needless) := ⟨rfl, rfl, rfl, by decide +kernel, rfl, by decide +kernel, by decide +kernel⟩
abbrev s_law : Stmt := top 35
abbrev N_law : List PySem.Str := ["script", "town", "rows", "one", "other", "words", "told", "both", "gone", "k", "some", "kind", "what", "j"]
theorem sc_law : FnScope N_law ["script"] (defScope s_law) := ⟨rfl, rfl, rfl, by decide +kernel, rfl, by decide +kernel, by decide +kernel⟩
structure Tx (K : PySem.W.Frag) (mg : PySem.Str → Option Value) : Prop where
  f_len : mg "len" = none
  f_range : mg "range" = none
  f_list : mg "list" = none
  f_sorted : mg "sorted" = none
  f_set : mg "set" = none
  f_all : mg "all" = none
  f_tuple : mg "tuple" = none
  f_int : mg "int" = none
  f_any : mg "any" = none
  c_LETTERS : ∃ t, mg "LETTERS" = some (.str "abcdefghijklmnopqrstuvwxyz0123456789" t)
  c_MOST_PARTS : ∃ t, mg "MOST_PARTS" = some (.int 6 t)
  c_MOST_WORDS : ∃ t, mg "MOST_WORDS" = some (.int 4 t)
  g_BadPattern : mg "BadPattern" = some (.ref (He.ga K "BadPattern"))
  x_BadPattern : PySem.W.excIn K (He.ga K "BadPattern") He.veBase "ValueError.__new__" = true ∧ PySem.W.keepIn K (.ref (He.ga K "BadPattern")) = true ∧ PySem.W.subIn K (.ref (He.ga K "BadPattern")) (.type "BaseException") = some true ∧ PySem.W.typeIn K (.ref (He.ga K "BadPattern")) = some (.type "type")
section
variable {P : Program} {w : World} {K : PySem.W.Frag} {mg : PySem.Str → Option Value} {base : Heap}
theorem ok__law_cell (T : Tx K mg) (dd : Df K mg "_law_cell" s__law_cell ["script", "k"])  (hf : FsOk K 2 2 (fs__law_cell K) (t__law_cell K)) : Ok P w K mg base "_law_cell" ["script", "k"] 1 (SpM K (fs__law_cell K)) := by
  refine ok_mk (t := t__law_cell K) dd sc__law_cell (by decide) hf (fun f cdv A outer s H E hr tk po => ?_)
  have sc := sc__law_cell
  exact (pss_cons (ps_if (pt_truth (pv 0) (by intro _; rfl)) (pss_one (ps_ret (pe_ix ix_any (pv 0) (pe_op op_mod (pv 1) (pe_callB call_lenA (by rfl) T.f_len PySem.boot_len (pa_cons (pv 0) pa_nil))) (fun _ _ => rfl)))) pss_nil) (pss_one (ps_ret pe_int)))
theorem ok__law_mix (T : Tx K mg) (dd : Df K mg "_law_mix" s__law_mix ["script", "k"]) (o__law_cell : Ok P w K mg base "_law_cell" ["script", "k"] 1 (SpM K (fs__law_cell K))) (hf : FsOk K 2 3 (fs__law_mix K) (t__law_mix K)) : Ok P w K mg base "_law_mix" ["script", "k"] 2 (SpM K (fs__law_mix K)) := by
  refine ok_mk (t := t__law_mix K) dd sc__law_mix (by decide) hf (fun f cdv A outer s H E hr tk po => ?_)
  have sc := sc__law_mix
  exact (pss_cons (ps_set (i := 2) sc.nd rfl (by first | exact Or.inl rfl | exact Or.inr rfl) (pe_op op_mod (pe_op op_addA (pe_callO o__law_cell (hr.mono (by decide)) (by rfl) tk (pa_cons (pv 0) (pa_cons (pv 1) pa_nil))) (pe_op op_mulA pe_int (pe_op op_addA (pv 1) pe_int))) pe_int)) (pss_cons (ps_set (i := 2) sc.nd rfl (by first | exact Or.inl rfl | exact Or.inr rfl) (pe_op op_mod (pe_op op_pow (pv 2) pe_int) pe_int)) (pss_one (ps_ret (pe_op op_mod (pe_op op_addA (pe_op op_mulA (pe_op op_fdiv (pv 2) pe_int) pe_int) (pv 2)) pe_int)))))
theorem ok__law_draw (T : Tx K mg) (dd : Df K mg "_law_draw" s__law_draw ["script", "town", "many"]) (o__law_mix : Ok P w K mg base "_law_mix" ["script", "k"] 2 (SpM K (fs__law_mix K))) (hf : FsOk K 3 3 (fs__law_draw K) (t__law_draw K)) : Ok P w K mg base "_law_draw" ["script", "town", "many"] 3 (SpM K (fs__law_draw K)) := by
  refine ok_mk (t := t__law_draw K) dd sc__law_draw (by decide) hf (fun f cdv A outer s H E hr tk po => ?_)
  have sc := sc__law_draw
  exact (pss_cons (ps_expr (pe_bm PySem.F.plainAttrs_list PySem.F.slot_list_append PySem.F.type_list_append mt_append (pv 1) (pa_cons pe_int pa_nil))) (pss_one (ps_ret (pe_op op_mod (pe_op op_fdiv (pe_callO o__law_mix (hr.mono (by decide)) (by rfl) tk (pa_cons (pv 0) (pa_cons (pe_callB call_lenA (by rfl) T.f_len PySem.boot_len (pa_cons (pv 1) pa_nil)) pa_nil))) pe_int) (pv 2)))))
theorem ok__law_pick (T : Tx K mg) (dd : Df K mg "_law_pick" s__law_pick ["script", "town", "some"]) (o__law_draw : Ok P w K mg base "_law_draw" ["script", "town", "many"] 3 (SpM K (fs__law_draw K))) (hf : FsOk K 3 3 (fs__law_pick K) (t__law_pick K)) : Ok P w K mg base "_law_pick" ["script", "town", "some"] 4 (SpM K (fs__law_pick K)) := by
  refine ok_mk (t := t__law_pick K) dd sc__law_pick (by decide) hf (fun f cdv A outer s H E hr tk po => ?_)
  have sc := sc__law_pick
  exact (pss_one (ps_ret (pe_ix ix_any (pv 2) (pe_callO o__law_draw (hr.mono (by decide)) (by rfl) tk (pa_cons (pv 0) (pa_cons (pv 1) (pa_cons (pe_callB call_lenA (by rfl) T.f_len PySem.boot_len (pa_cons (pv 2) pa_nil)) pa_nil)))) (fun _ _ => rfl))))
theorem ok__law_few (T : Tx K mg) (dd : Df K mg "_law_few" s__law_few ["script", "town"]) (o__law_draw : Ok P w K mg base "_law_draw" ["script", "town", "many"] 3 (SpM K (fs__law_draw K))) (o__law_pick : Ok P w K mg base "_law_pick" ["script", "town", "some"] 4 (SpM K (fs__law_pick K))) (hf : FsOk K 2 6 (fs__law_few K) (t__law_few K)) : Ok P w K mg base "_law_few" ["script", "town"] 5 (SpM K (fs__law_few K)) := by
  refine ok_mk (t := t__law_few K) dd sc__law_few (by decide) hf (fun f cdv A outer s H E hr tk po => ?_)
  have sc := sc__law_few
  exact (pss_cons (ps_set (i := 2) sc.nd rfl (by first | exact Or.inl rfl | exact Or.inr rfl) (pe_lst pa_nil)) (pss_cons (ps_for po rfl (pi_range1 (by rfl) T.f_range (pa_cons (pe_op op_addA pe_int (pe_callO o__law_draw (hr.mono (by decide)) (by rfl) tk (pa_cons (pv 0) (pa_cons (pv 1) (pa_cons pe_int pa_nil))))) pa_nil)) (pg_name (i := 3) sc.nd rfl (by first | exact Or.inl rfl | exact Or.inr rfl)) (pss_cons (ps_set (i := 4) sc.nd rfl (by first | exact Or.inl rfl | exact Or.inr rfl) (pe_callO o__law_draw (hr.mono (by decide)) (by rfl) tk (pa_cons (pv 0) (pa_cons (pv 1) (pa_cons pe_int pa_nil))))) (pss_cons (ps_set (i := 5) sc.nd rfl (by first | exact Or.inl rfl | exact Or.inr rfl) (pe_callO o__law_pick (hr.mono (by decide)) (by rfl) tk (pa_cons (pv 0) (pa_cons (pv 1) (pa_cons (pe_lst (pa_cons pe_str (pa_cons pe_str (pa_cons pe_str pa_nil)))) pa_nil))))) (pss_one (ps_if (pt_cmpR op_lt (pv 4) pe_int (nomark _)) (pss_one (ps_expr (pe_bm PySem.F.plainAttrs_list PySem.F.slot_list_append PySem.F.type_list_append mt_append (pv 2) (pa_cons (pe_tup (pa_cons pe_str (pa_cons (pv 5) pa_nil))) pa_nil)))) (pss_one (ps_if (pt_cmpR (op_eqA hr.units) (pv 4) pe_int (nomark _)) (pss_one (ps_expr (pe_bm PySem.F.plainAttrs_list PySem.F.slot_list_append PySem.F.type_list_append mt_append (pv 2) (pa_cons (pe_tup (pa_cons pe_str (pa_cons (pe_op op_addA (pe_lst (pa_cons (pv 5) pa_nil)) (pe_slice sl_any (pe_lst (pa_cons pe_str (pa_cons pe_str pa_nil))) po_none (po_some (pe_callO o__law_draw (hr.mono (by decide)) (by rfl) tk (pa_cons (pv 0) (pa_cons (pv 1) (pa_cons pe_int pa_nil))))))) pa_nil))) pa_nil)))) (pss_one (ps_expr (pe_bm PySem.F.plainAttrs_list PySem.F.slot_list_append PySem.F.type_list_append mt_append (pv 2) (pa_cons (pe_tup (pa_cons (pe_ifExp (pt_cmpR (op_eqA hr.units) (pv 4) pe_int (nomark _)) pe_str pe_str) (pa_cons (pe_ix ix_any pe_str (pv 3) (fun _ _ => rfl)) pa_nil))) pa_nil))))))))))) (pss_one (ps_ret (pv 2)))))
theorem ok__law_alphabet (T : Tx K mg) (dd : Df K mg "_law_alphabet" s__law_alphabet ["one", "other"])  (hf : FsOk K 2 6 (fs__law_alphabet K) (t__law_alphabet K)) : Ok P w K mg base "_law_alphabet" ["one", "other"] 1 (SpM K (fs__law_alphabet K)) := by
  refine ok_mk (t := t__law_alphabet K) dd sc__law_alphabet (by decide) hf (fun f cdv A outer s H E hr tk po => ?_)
  have sc := sc__law_alphabet
  exact (pss_cons (ps_set (i := 2) sc.nd rfl (by first | exact Or.inl rfl | exact Or.inr rfl) (pe_lst pa_nil)) (pss_cons (ps_for po rfl (pi_list (pe_op op_addA (pv 0) (pv 1))) (pg_tup rfl (pgs_cons (pg_name (i := 3) sc.nd rfl (by first | exact Or.inl rfl | exact Or.inr rfl)) (pgs_cons (pg_name (i := 4) sc.nd rfl (by first | exact Or.inl rfl | exact Or.inr rfl)) pgs_nil))) (pss_one (ps_set (i := 2) sc.nd rfl (by first | exact Or.inl rfl | exact Or.inr rfl) (pe_op op_addA (pv 2) (pe_ifExp (pt_cmpR (op_eqA hr.units) (pv 3) pe_str (nomark _)) (pe_lst (pa_cons (pv 4) pa_nil)) (pe_ifExp (pt_cmpR (op_eqA hr.units) (pv 3) pe_str (nomark _)) (pe_callTy call_listO (by rfl) T.f_list (by decide +kernel) (pa_cons (pv 4) pa_nil)) (pe_lst pa_nil))))))) (pss_cons (ps_set (i := 5) sc.nd rfl (by first | exact Or.inl rfl | exact Or.inr rfl) pe_str) (pss_cons (ps_while po (pt_cmpR op_inA (pv 5) (pv 2) (by rfl)) (pss_one (ps_set (i := 5) sc.nd rfl (by first | exact Or.inl rfl | exact Or.inr rfl) (pe_op op_addA (pv 5) pe_str)))) (pss_one (ps_ret (pe_sortSetS rfl (by rfl) T.f_sorted (by rfl) T.f_set (pe_op op_addA (pv 2) (pe_lst (pa_cons (pv 5) pa_nil))))))))))
theorem ok_is_word (T : Tx K mg) (dd : Df K mg "is_word" s_is_word ["text"])  (hf : FsOk K 1 2 (fs_is_word K) (t_is_word K)) : Ok P w K mg base "is_word" ["text"] 1 (SpM K (fs_is_word K)) := by
  refine ok_mk (t := t_is_word K) dd sc_is_word (by decide) hf (fun f cdv A outer s H E hr tk po => ?_)
  have sc := sc_is_word
  exact (pss_one (ps_ret (pe_and (pe_cmpR (op_neA hr.units) (pv 0) pe_str (nomark _)) (pe_one (pe_callB (cr_all rfl) (by rfl) T.f_all (by decide +kernel) (pa_cons (pe_lc (own := [("sign", 1)]) (g := (gName 1)) rfl sc.nd (pi_str (pv 0)) (blkOk_by (N := N_is_word) (sc := defScope s_is_word) (by decide +kernel)) (fun _ _ _ _ _ => (pg_name (i := 1) sc.nd rfl (by first | exact Or.inl rfl | exact Or.inr rfl))) (fun _ _ _ _ _ => pts_nil) (fun _ _ _ _ _ => (pe_cmpR op_inA (pv 1) (pe_gstr (by rfl) T.c_LETTERS) (by rfl)))) pa_nil))))))
theorem ok_look_pattern (T : Tx K mg) (dd : Df K mg "look_pattern" s_look_pattern ["pattern"]) (o_is_word : Ok P w K mg base "is_word" ["text"] 1 (SpM K (fs_is_word K))) (hf : FsOk K 1 5 (fs_look_pattern K) (t_look_pattern K)) : Ok P w K mg base "look_pattern" ["pattern"] 2 (SpM K (fs_look_pattern K)) := by
  refine ok_mk (t := t_look_pattern K) dd sc_look_pattern (by decide) hf (fun f cdv A outer s H E hr tk po => ?_)
  have sc := sc_look_pattern
  exact (pss_cons (ps_if (pt_not (pt_chain op_le op_le pe_int (pe_callB call_lenA (by rfl) T.f_len PySem.boot_len (pa_cons (pv 0) pa_nil)) (pe_gint (by rfl) T.c_MOST_PARTS))) (pss_one (ps_raise rfl tk (pmk_own PySem.F.excBase_ValueError T.x_BadPattern.1 T.g_BadPattern T.x_BadPattern.2.1 (raises_own T.x_BadPattern.2.2.1 T.x_BadPattern.2.2.2) (by rfl)))) pss_nil) (pss_cons (ps_set (i := 1) sc.nd rfl (by first | exact Or.inl rfl | exact Or.inr rfl) (pe_lst pa_nil)) (pss_cons (ps_for po rfl (pi_list (pv 0)) (pg_name (i := 2) sc.nd rfl (by first | exact Or.inl rfl | exact Or.inr rfl)) (pss_cons (ps_if (PW.pt (pw_or (pt_cmpR (op_neA hr.units) (pe_callB call_lenA (by rfl) T.f_len PySem.boot_len (pa_cons (pv 2) pa_nil)) pe_int (nomark _)) (pw_or1 (pt_cmpR op_notInA (pe_ix ix_any (pv 2) pe_int (fun _ _ => rfl)) (pe_tup (pa_cons pe_str (pa_cons pe_str (pa_cons pe_str (pa_cons pe_str pa_nil))))) (by rfl))))) (pss_one (ps_raise rfl tk (pmk_own PySem.F.excBase_ValueError T.x_BadPattern.1 T.g_BadPattern T.x_BadPattern.2.1 (raises_own T.x_BadPattern.2.2.1 T.x_BadPattern.2.2.2) (by rfl)))) pss_nil) (pss_cons (ps_set (i := 3) sc.nd rfl (by first | exact Or.inl rfl | exact Or.inr rfl) (pe_ifExp (pt_cmpR (op_eqA hr.units) (pe_ix ix_any (pv 2) pe_int (fun _ _ => rfl)) pe_str (nomark _)) (pe_ix ix_any (pv 2) pe_int (fun _ _ => rfl)) (pe_lst (pa_cons (pe_ix ix_any (pv 2) pe_int (fun _ _ => rfl)) pa_nil)))) (pss_cons (ps_if (PW.pt (pw_or (pt_not (pt_chain op_le op_le pe_int (pe_callB call_lenA (by rfl) T.f_len PySem.boot_len (pa_cons (pv 3) pa_nil)) (pe_gint (by rfl) T.c_MOST_WORDS))) (pw_or1 (pt_not (pt_val (pe_callB (cr_all rfl) (by rfl) T.f_all (by decide +kernel) (pa_cons (pe_lc (own := [("word", 4)]) (g := (gName 4)) rfl sc.nd (pi_list (pv 3)) (blkOk_by (N := N_look_pattern) (sc := defScope s_look_pattern) (by decide +kernel)) (fun _ _ _ _ _ => (pg_name (i := 4) sc.nd rfl (by first | exact Or.inl rfl | exact Or.inr rfl))) (fun _ _ _ _ _ => pts_nil) (fun _ _ _ _ _ => (pe_callO o_is_word (hr.mono (by decide)) (by rfl) takes0 (pa_cons (pv 4) pa_nil)))) pa_nil))))))) (pss_one (ps_raise rfl tk (pmk_own PySem.F.excBase_ValueError T.x_BadPattern.1 T.g_BadPattern T.x_BadPattern.2.1 (raises_own T.x_BadPattern.2.2.1 T.x_BadPattern.2.2.2) (by rfl)))) pss_nil) (pss_one (ps_if (pt_cmpR op_inA (pe_ix ix_any (pv 2) pe_int (fun _ _ => rfl)) (pe_tup (pa_cons pe_str (pa_cons pe_str pa_nil))) (by rfl)) (pss_one (ps_expr (pe_bm PySem.F.plainAttrs_list PySem.F.slot_list_append PySem.F.type_list_append mt_append (pv 1) (pa_cons (pe_ix ix_any (pv 2) pe_int (fun _ _ => rfl)) pa_nil)))) pss_nil)))))) (pss_one (ps_if (pt_cmpR op_lt (pe_lenSetS rfl (by rfl) T.f_len (by rfl) T.f_set (pv 1)) (pe_callB call_lenA (by rfl) T.f_len PySem.boot_len (pa_cons (pv 1) pa_nil)) (nomark _)) (pss_one (ps_raise rfl tk (pmk_own PySem.F.excBase_ValueError T.x_BadPattern.1 T.g_BadPattern T.x_BadPattern.2.1 (raises_own T.x_BadPattern.2.2.1 T.x_BadPattern.2.2.2) (by rfl)))) pss_nil)))))
theorem ok_look_both (T : Tx K mg) (dd : Df K mg "look_both" s_look_both ["one", "other"]) (o_look_pattern : Ok P w K mg base "look_pattern" ["pattern"] 2 (SpM K (fs_look_pattern K))) (hf : FsOk K 2 2 (fs_look_both K) (t_look_both K)) : Ok P w K mg base "look_both" ["one", "other"] 3 (SpM K (fs_look_both K)) := by
  refine ok_mk (t := t_look_both K) dd sc_look_both (by decide) hf (fun f cdv A outer s H E hr tk po => ?_)
  have sc := sc_look_both
  exact (pss_cons (ps_expr (pe_callO o_look_pattern (hr.mono (by decide)) (by rfl) tk (pa_cons (pv 0) pa_nil))) (pss_one (ps_expr (pe_callO o_look_pattern (hr.mono (by decide)) (by rfl) tk (pa_cons (pv 1) pa_nil)))))
theorem ok_words_in (T : Tx K mg) (dd : Df K mg "words_in" s_words_in ["pattern"])  (hf : FsOk K 1 3 (fs_words_in K) (t_words_in K)) : Ok P w K mg base "words_in" ["pattern"] 1 (SpM K (fs_words_in K)) := by
  refine ok_mk (t := t_words_in K) dd sc_words_in (by decide) hf (fun f cdv A outer s H E hr tk po => ?_)
  have sc := sc_words_in
  exact (pss_cons (ps_set (i := 1) sc.nd rfl (by first | exact Or.inl rfl | exact Or.inr rfl) (pe_lst pa_nil)) (pss_cons (ps_for po rfl (pi_list (pv 0)) (pg_name (i := 2) sc.nd rfl (by first | exact Or.inl rfl | exact Or.inr rfl)) (pss_one (ps_if (pt_cmpR (op_eqA hr.units) (pe_ix ix_any (pv 2) pe_int (fun _ _ => rfl)) pe_str (nomark _)) (pss_one (ps_expr (pe_bm PySem.F.plainAttrs_list PySem.F.slot_list_append PySem.F.type_list_append mt_append (pv 1) (pa_cons (pe_ix ix_any (pv 2) pe_int (fun _ _ => rfl)) pa_nil)))) (pss_one (ps_if (pt_cmpR (op_eqA hr.units) (pe_ix ix_any (pv 2) pe_int (fun _ _ => rfl)) pe_str (nomark _)) (pss_one (ps_expr (pe_bm PySem.F.plainAttrs_list PySem.F.slot_list_extend PySem.F.type_list_extend mt_extend (pv 1) (pa_cons (pe_ix ix_any (pv 2) pe_int (fun _ _ => rfl)) pa_nil)))) pss_nil))))) (pss_one (ps_ret (pv 1)))))
theorem ok_alphabet (T : Tx K mg) (dd : Df K mg "alphabet" s_alphabet ["one", "other"]) (o_look_both : Ok P w K mg base "look_both" ["one", "other"] 3 (SpM K (fs_look_both K))) (o_words_in : Ok P w K mg base "words_in" ["pattern"] 1 (SpM K (fs_words_in K))) (hf : FsOk K 2 4 (fs_alphabet K) (t_alphabet K)) : Ok P w K mg base "alphabet" ["one", "other"] 4 (SpM K (fs_alphabet K)) := by
  refine ok_mk (t := t_alphabet K) dd sc_alphabet (by decide) hf (fun f cdv A outer s H E hr tk po => ?_)
  have sc := sc_alphabet
  exact (pss_cons (ps_expr (pe_callO o_look_both (hr.mono (by decide)) (by rfl) tk (pa_cons (pv 0) (pa_cons (pv 1) pa_nil)))) (pss_cons (ps_set (i := 2) sc.nd rfl (by first | exact Or.inl rfl | exact Or.inr rfl) (pe_op op_addA (pe_callO o_words_in (hr.mono (by decide)) (by rfl) tk (pa_cons (pv 0) pa_nil)) (pe_callO o_words_in (hr.mono (by decide)) (by rfl) tk (pa_cons (pv 1) pa_nil)))) (pss_cons (ps_set (i := 3) sc.nd rfl (by first | exact Or.inl rfl | exact Or.inr rfl) pe_str) (pss_cons (ps_while po (pt_cmpR op_inA (pv 3) (pv 2) (by rfl)) (pss_one (ps_set (i := 3) sc.nd rfl (by first | exact Or.inl rfl | exact Or.inr rfl) (pe_op op_addA (pv 3) pe_str)))) (pss_one (ps_ret (pe_sortSetS rfl (by rfl) T.f_sorted (by rfl) T.f_set (pe_op op_addA (pv 2) (pe_lst (pa_cons (pv 3) pa_nil))))))))))
theorem ok_closed (T : Tx K mg) (dd : Df K mg "closed" s_closed ["pattern", "places"])  (hf : FsOk K 2 4 (fs_closed K) (t_closed K)) : Ok P w K mg base "closed" ["pattern", "places"] 1 (SpM K (fs_closed K)) := by
  refine ok_mk (t := t_closed K) dd sc_closed (by decide) hf (fun f cdv A outer s H E hr tk po => ?_)
  have sc := sc_closed
  exact (pss_cons (ps_set (i := 2) sc.nd rfl (by first | exact Or.inl rfl | exact Or.inr rfl) pe_dnewK) (pss_cons (ps_for po rfl (pi_list (pv 1)) (pg_name (i := 3) sc.nd rfl (by first | exact Or.inl rfl | exact Or.inr rfl)) (pss_cons (ps_dput (hu_of hr) (pv 2) (pv 3) pe_bl rfl) (pss_one (ps_while po (PW.pt (pw_and (pt_cmpR op_lt (pv 3) (pe_callB call_lenA (by rfl) T.f_len PySem.boot_len (pa_cons (pv 0) pa_nil)) (nomark _)) (pw_and1 (pt_cmpR (op_eqA hr.units) (pe_ix ix_any (pe_ix ix_any (pv 0) (pv 3) (fun _ _ => rfl)) pe_int (fun _ _ => rfl)) pe_str (nomark _))))) (pss_cons (ps_set (i := 3) sc.nd rfl (by first | exact Or.inl rfl | exact Or.inr rfl) (pe_op op_addA (pv 3) pe_int)) (pss_one (ps_dput (hu_of hr) (pv 2) (pv 3) pe_bl rfl))))))) (pss_one (ps_ret (pe_tupleOf (by rfl) T.f_tuple (pe_sortKeys rfl (by rfl) T.f_sorted (pv 2)))))))
theorem ok_takes (T : Tx K mg) (dd : Df K mg "takes" s_takes ["part", "word"])  (hf : FsOk K 2 2 (fs_takes K) (t_takes K)) : Ok P w K mg base "takes" ["part", "word"] 1 (SpM K (fs_takes K)) := by
  refine ok_mk (t := t_takes K) dd sc_takes (by decide) hf (fun f cdv A outer s H E hr tk po => ?_)
  have sc := sc_takes
  exact (pss_cons (ps_if (pt_cmpR (op_eqA hr.units) (pe_ix ix_any (pv 0) pe_int (fun _ _ => rfl)) pe_str (nomark _)) (pss_one (ps_ret pe_bl)) pss_nil) (pss_one (ps_ret (pe_ifExp (pt_cmpR (op_eqA hr.units) (pe_ix ix_any (pv 0) pe_int (fun _ _ => rfl)) pe_str (nomark _)) (pe_cmpR op_inA (pv 1) (pe_ix ix_any (pv 0) pe_int (fun _ _ => rfl)) (by rfl)) (pe_cmpR (op_eqA hr.units) (pv 1) (pe_ix ix_any (pv 0) pe_int (fun _ _ => rfl)) (nomark _))))))
theorem ok_behind (T : Tx K mg) (dd : Df K mg "behind" s_behind ["pattern", "places", "word"]) (o_takes : Ok P w K mg base "takes" ["part", "word"] 1 (SpM K (fs_takes K))) (o_closed : Ok P w K mg base "closed" ["pattern", "places"] 1 (SpM K (fs_closed K))) (hf : FsOk K 3 5 (fs_behind K) (t_behind K)) : Ok P w K mg base "behind" ["pattern", "places", "word"] 2 (SpM K (fs_behind K)) := by
  refine ok_mk (t := t_behind K) dd sc_behind (by decide) hf (fun f cdv A outer s H E hr tk po => ?_)
  have sc := sc_behind
  exact (pss_cons (ps_set (i := 3) sc.nd rfl (by first | exact Or.inl rfl | exact Or.inr rfl) (pe_lst pa_nil)) (pss_cons (ps_for po rfl (pi_tup (pv 1)) (pg_name (i := 4) sc.nd rfl (by first | exact Or.inl rfl | exact Or.inr rfl)) (pss_one (ps_if (pt_cmpR op_lt (pv 4) (pe_callB call_lenA (by rfl) T.f_len PySem.boot_len (pa_cons (pv 0) pa_nil)) (nomark _)) (pss_one (ps_if (pt_cmpR (op_eqA hr.units) (pe_ix ix_any (pe_ix ix_any (pv 0) (pv 4) (fun _ _ => rfl)) pe_int (fun _ _ => rfl)) pe_str (nomark _)) (pss_one (ps_expr (pe_bm PySem.F.plainAttrs_list PySem.F.slot_list_append PySem.F.type_list_append mt_append (pv 3) (pa_cons (pv 4) pa_nil)))) (pss_one (ps_if (pt_val (pe_callO o_takes (hr.mono (by decide)) (by rfl) tk (pa_cons (pe_ix ix_any (pv 0) (pv 4) (fun _ _ => rfl)) (pa_cons (pv 2) pa_nil)))) (pss_one (ps_expr (pe_bm PySem.F.plainAttrs_list PySem.F.slot_list_append PySem.F.type_list_append mt_append (pv 3) (pa_cons (pe_op op_addA (pv 4) pe_int) pa_nil)))) pss_nil)))) pss_nil))) (pss_one (ps_ret (pe_callO o_closed (hr.mono (by decide)) (by rfl) tk (pa_cons (pv 0) (pa_cons (pv 3) pa_nil)))))))
theorem ok_shortest (T : Tx K mg) (dd : Df K mg "shortest" s_shortest ["one", "other", "wanted"]) (o_alphabet : Ok P w K mg base "alphabet" ["one", "other"] 4 (SpM K (fs_alphabet K))) (o_closed : Ok P w K mg base "closed" ["pattern", "places"] 1 (SpM K (fs_closed K))) (o_behind : Ok P w K mg base "behind" ["pattern", "places", "word"] 2 (SpM K (fs_behind K))) (hf : FsOk K 3 12 (fs_shortest K) (t_shortest K)) : Ok P w K mg base "shortest" ["one", "other", "wanted"] 5 (SpM K (fs_shortest K)) := by
  refine ok_mk (t := t_shortest K) dd sc_shortest (by decide) hf (fun f cdv A outer s H E hr tk po => ?_)
  have sc := sc_shortest
  exact (pss_cons (ps_set (i := 3) sc.nd rfl (by first | exact Or.inl rfl | exact Or.inr rfl) (pe_callO o_alphabet (hr.mono (by decide)) (by rfl) tk (pa_cons (pv 0) (pa_cons (pv 1) pa_nil)))) (pss_cons (ps_set (i := 4) sc.nd rfl (by first | exact Or.inl rfl | exact Or.inr rfl) (pe_tup (pa_cons (pe_callO o_closed (hr.mono (by decide)) (by rfl) tk (pa_cons (pv 0) (pa_cons (pe_lst (pa_cons pe_int pa_nil)) pa_nil))) (pa_cons (pe_callO o_closed (hr.mono (by decide)) (by rfl) tk (pa_cons (pv 1) (pa_cons (pe_lst (pa_cons pe_int pa_nil)) pa_nil))) pa_nil)))) (pss_cons (ps_set (i := 5) sc.nd rfl (by first | exact Or.inl rfl | exact Or.inr rfl) pe_ndNew) (pss_cons (ps_ndput hr.units1 (pv 5) (pv 4) pe_bl rfl) (pss_cons (ps_set (i := 6) sc.nd rfl (by first | exact Or.inl rfl | exact Or.inr rfl) (pe_lst (pa_cons (pe_tup (pa_cons (pv 4) (pa_cons (pe_lst pa_nil) pa_nil))) pa_nil))) (pss_cons (ps_while po (pt_truth (pv 6) (by intro _; rfl)) (pss_cons (ps_for po rfl (pi_list (pv 6)) (pg_tup rfl (pgs_cons (pg_name (i := 7) sc.nd rfl (by first | exact Or.inl rfl | exact Or.inr rfl)) (pgs_cons (pg_name (i := 8) sc.nd rfl (by first | exact Or.inl rfl | exact Or.inr rfl)) pgs_nil))) (pss_one (ps_if (PW.pt (pw_and (pt_cmpR op_inA (pe_callB call_lenA (by rfl) T.f_len PySem.boot_len (pa_cons (pv 0) pa_nil)) (pe_ix ix_any (pv 7) pe_int (fun _ _ => rfl)) (by rfl)) (pw_and1 (pt_cmpR (op_eqA hr.units) (pe_cmpR op_inA (pe_callB call_lenA (by rfl) T.f_len PySem.boot_len (pa_cons (pv 1) pa_nil)) (pe_ix ix_any (pv 7) pe_int (fun _ _ => rfl)) (by rfl)) (pv 2) (nomark _))))) (pss_one (ps_ret (pv 8))) pss_nil))) (pss_cons (ps_set (i := 9) sc.nd rfl (by first | exact Or.inl rfl | exact Or.inr rfl) (pe_lst pa_nil)) (pss_cons (ps_for po rfl (pi_list (pv 6)) (pg_tup rfl (pgs_cons (pg_name (i := 7) sc.nd rfl (by first | exact Or.inl rfl | exact Or.inr rfl)) (pgs_cons (pg_name (i := 8) sc.nd rfl (by first | exact Or.inl rfl | exact Or.inr rfl)) pgs_nil))) (pss_one (ps_for po rfl (pi_list (pv 3)) (pg_name (i := 10) sc.nd rfl (by first | exact Or.inl rfl | exact Or.inr rfl)) (pss_cons (ps_set (i := 11) sc.nd rfl (by first | exact Or.inl rfl | exact Or.inr rfl) (pe_tup (pa_cons (pe_callO o_behind (hr.mono (by decide)) (by rfl) tk (pa_cons (pv 0) (pa_cons (pe_ix ix_any (pv 7) pe_int (fun _ _ => rfl)) (pa_cons (pv 10) pa_nil)))) (pa_cons (pe_callO o_behind (hr.mono (by decide)) (by rfl) tk (pa_cons (pv 1) (pa_cons (pe_ix ix_any (pv 7) pe_int (fun _ _ => rfl)) (pa_cons (pv 10) pa_nil)))) pa_nil)))) (pss_one (ps_if (pt_cmpR (op_notInN hr.units1) (pv 11) (pv 5) (by rfl)) (pss_cons (ps_ndput hr.units1 (pv 5) (pv 11) pe_bl rfl) (pss_one (ps_expr (pe_bm PySem.F.plainAttrs_list PySem.F.slot_list_append PySem.F.type_list_append mt_append (pv 9) (pa_cons (pe_tup (pa_cons (pv 11) (pa_cons (pe_op op_addA (pv 8) (pe_lst (pa_cons (pv 10) pa_nil))) pa_nil))) pa_nil))))) pss_nil)))))) (pss_one (ps_set (i := 6) sc.nd rfl (by first | exact Or.inl rfl | exact Or.inr rfl) (pv 9))))))) (pss_one (ps_ret pe_non))))))))
theorem ok_apart (T : Tx K mg) (dd : Df K mg "apart" s_apart ["one", "other"]) (o_look_both : Ok P w K mg base "look_both" ["one", "other"] 3 (SpM K (fs_look_both K))) (o_shortest : Ok P w K mg base "shortest" ["one", "other", "wanted"] 5 (SpM K (fs_shortest K))) (hf : FsOk K 2 2 (fs_apart K) (t_apart K)) : Ok P w K mg base "apart" ["one", "other"] 6 (SpM K (fs_apart K)) := by
  refine ok_mk (t := t_apart K) dd sc_apart (by decide) hf (fun f cdv A outer s H E hr tk po => ?_)
  have sc := sc_apart
  exact (pss_cons (ps_expr (pe_callO o_look_both (hr.mono (by decide)) (by rfl) tk (pa_cons (pv 0) (pa_cons (pv 1) pa_nil)))) (pss_one (ps_ret (pe_callO o_shortest (hr.mono (by decide)) (by rfl) tk (pa_cons (pv 0) (pa_cons (pv 1) (pa_cons pe_bl pa_nil)))))))
theorem ok__law_fits (T : Tx K mg) (dd : Df K mg "_law_fits" s__law_fits ["pattern", "words"])  (hf : FsOk K 2 8 (fs__law_fits K) (t__law_fits K)) : Ok P w K mg base "_law_fits" ["pattern", "words"] 1 (SpM K (fs__law_fits K)) := by
  refine ok_mk (t := t__law_fits K) dd sc__law_fits (by decide) hf (fun f cdv A outer s H E hr tk po => ?_)
  have sc := sc__law_fits
  exact (pss_cons (ps_set (i := 2) sc.nd rfl (by first | exact Or.inl rfl | exact Or.inr rfl) (pe_lst (pa_cons pe_int pa_nil))) (pss_cons (ps_for po rfl (pi_list (pv 0)) (pg_tup rfl (pgs_cons (pg_name (i := 3) sc.nd rfl (by first | exact Or.inl rfl | exact Or.inr rfl)) (pgs_cons (pg_name (i := 4) sc.nd rfl (by first | exact Or.inl rfl | exact Or.inr rfl)) pgs_nil))) (pss_cons (ps_set (i := 5) sc.nd rfl (by first | exact Or.inl rfl | exact Or.inr rfl) (pe_lst pa_nil)) (pss_cons (ps_for po rfl (pi_list (pv 2)) (pg_name (i := 6) sc.nd rfl (by first | exact Or.inl rfl | exact Or.inr rfl)) (pss_one (ps_if (pt_cmpR (op_eqA hr.units) (pv 3) pe_str (nomark _)) (pss_one (ps_set (i := 5) sc.nd rfl (by first | exact Or.inl rfl | exact Or.inr rfl) (pe_op op_addA (pv 5) (pe_listRg rfl (by rfl) T.f_list (prg_2 (by rfl) T.f_range (pv 6) (pe_op op_addA (pe_callB call_lenA (by rfl) T.f_len PySem.boot_len (pa_cons (pv 1) pa_nil)) pe_int)))))) (pss_one (ps_if (pt_cmpR op_lt (pv 6) (pe_callB call_lenA (by rfl) T.f_len PySem.boot_len (pa_cons (pv 1) pa_nil)) (nomark _)) (pss_cons (ps_set (i := 7) sc.nd rfl (by first | exact Or.inl rfl | exact Or.inr rfl) (pe_ifExp (pt_cmpR (op_eqA hr.units) (pv 3) pe_str (nomark _)) (pe_lst (pa_cons (pe_ix ix_any (pv 1) (pv 6) (fun _ _ => rfl)) pa_nil)) (pe_ifExp (pt_cmpR (op_eqA hr.units) (pv 3) pe_str (nomark _)) (pv 4) (pe_lst (pa_cons (pv 4) pa_nil))))) (pss_one (ps_set (i := 5) sc.nd rfl (by first | exact Or.inl rfl | exact Or.inr rfl) (pe_op op_addA (pv 5) (pe_op op_mulA (pe_lst (pa_cons (pe_op op_addA (pv 6) pe_int) pa_nil)) (pe_callTy call_int1 (by rfl) T.f_int (by decide +kernel) (pa_cons (pe_cmpR op_inA (pe_ix ix_any (pv 1) (pv 6) (fun _ _ => rfl)) (pv 7) (by rfl)) pa_nil))))))) pss_nil))))) (pss_one (ps_set (i := 2) sc.nd rfl (by first | exact Or.inl rfl | exact Or.inr rfl) (pe_sortSetI rfl (by rfl) T.f_sorted (by rfl) T.f_set (pv 5))))))) (pss_one (ps_ret (pe_cmpR op_inA (pe_callB call_lenA (by rfl) T.f_len PySem.boot_len (pa_cons (pv 1) pa_nil)) (pv 2) (by rfl))))))
theorem ok__law_is (T : Tx K mg) (dd : Df K mg "_law_is" s__law_is ["found", "due", "one", "other", "wanted"]) (o__law_fits : Ok P w K mg base "_law_fits" ["pattern", "words"] 1 (SpM K (fs__law_fits K))) (hf : FsOk K 5 5 (fs__law_is K) (t__law_is K)) : Ok P w K mg base "_law_is" ["found", "due", "one", "other", "wanted"] 2 (SpM K (fs__law_is K)) := by
  refine ok_mk (t := t__law_is K) dd sc__law_is (by decide) hf (fun f cdv A outer s H E hr tk po => ?_)
  have sc := sc__law_is
  exact (pss_cons (ps_if (PW.pt (pw_or (pt_cmpR op_notN (pv 1) pe_non (nomark _)) (pw_or1 (pt_cmpR op_isN (pv 0) pe_non (nomark _))))) (pss_one (ps_ret (pe_cmpR (op_eqA hr.units) (pv 0) (pv 1) (nomark _)))) pss_nil) (pss_one (ps_ret (pe_and (pe_cmpR op_gt (pe_callB call_lenA (by rfl) T.f_len PySem.boot_len (pa_cons (pv 0) pa_nil)) pe_int (nomark _)) (pe_and (pe_callO o__law_fits (hr.mono (by decide)) (by rfl) tk (pa_cons (pv 2) (pa_cons (pv 0) pa_nil))) (pe_one (pe_cmpR (op_eqA hr.units) (pe_callO o__law_fits (hr.mono (by decide)) (by rfl) tk (pa_cons (pv 3) (pa_cons (pv 0) pa_nil))) (pv 4) (nomark _))))))))
theorem ok__law_lists (T : Tx K mg) (dd : Df K mg "_law_lists" s__law_lists ["words", "most"])  (hf : FsOk K 2 8 (fs__law_lists K) (t__law_lists K)) : Ok P w K mg base "_law_lists" ["words", "most"] 1 (SpM K (fs__law_lists K)) := by
  refine ok_mk (t := t__law_lists K) dd sc__law_lists (by decide) hf (fun f cdv A outer s H E hr tk po => ?_)
  have sc := sc__law_lists
  exact (pss_cons (ps_set (i := 2) sc.nd rfl (by first | exact Or.inl rfl | exact Or.inr rfl) (pe_lst (pa_cons (pe_lst pa_nil) pa_nil))) (pss_cons (ps_set (i := 3) sc.nd rfl (by first | exact Or.inl rfl | exact Or.inr rfl) (pe_lst (pa_cons (pe_lst pa_nil) pa_nil))) (pss_cons (ps_for po rfl (pi_range1 (by rfl) T.f_range (pa_cons (pv 1) pa_nil)) (pg_name (i := 4) sc.nd rfl (by first | exact Or.inl rfl | exact Or.inr rfl)) (pss_cons (ps_set (i := 5) sc.nd rfl (by first | exact Or.inl rfl | exact Or.inr rfl) (pe_lst pa_nil)) (pss_cons (ps_for po rfl (pi_list (pv 3)) (pg_name (i := 6) sc.nd rfl (by first | exact Or.inl rfl | exact Or.inr rfl)) (pss_one (ps_set (i := 5) sc.nd rfl (by first | exact Or.inl rfl | exact Or.inr rfl) (pe_op op_addA (pv 5) (pe_lc (own := [("word", 7)]) (g := (gName 7)) rfl sc.nd (pi_list (pv 0)) (blkOk_by (N := N__law_lists) (sc := defScope s__law_lists) (by decide +kernel)) (fun _ _ _ _ _ => (pg_name (i := 7) sc.nd rfl (by first | exact Or.inl rfl | exact Or.inr rfl))) (fun _ _ _ _ _ => pts_nil) (fun _ _ _ _ _ => (pe_op op_addA (pv 6) (pe_lst (pa_cons (pv 7) pa_nil))))))))) (pss_cons (ps_set (i := 3) sc.nd rfl (by first | exact Or.inl rfl | exact Or.inr rfl) (pv 5)) (pss_one (ps_set (i := 2) sc.nd rfl (by first | exact Or.inl rfl | exact Or.inr rfl) (pe_op op_addA (pv 2) (pv 3)))))))) (pss_one (ps_ret (pv 2))))))
theorem ok__law_first (T : Tx K mg) (dd : Df K mg "_law_first" s__law_first ["one", "other", "words", "wanted"]) (o__law_lists : Ok P w K mg base "_law_lists" ["words", "most"] 1 (SpM K (fs__law_lists K))) (o__law_fits : Ok P w K mg base "_law_fits" ["pattern", "words"] 1 (SpM K (fs__law_fits K))) (hf : FsOk K 4 5 (fs__law_first K) (t__law_first K)) : Ok P w K mg base "_law_first" ["one", "other", "words", "wanted"] 2 (SpM K (fs__law_first K)) := by
  refine ok_mk (t := t__law_first K) dd sc__law_first (by decide) hf (fun f cdv A outer s H E hr tk po => ?_)
  have sc := sc__law_first
  exact (pss_cons (ps_for po rfl (pi_list (pe_callO o__law_lists (hr.mono (by decide)) (by rfl) tk (pa_cons (pv 2) (pa_cons pe_int pa_nil)))) (pg_name (i := 4) sc.nd rfl (by first | exact Or.inl rfl | exact Or.inr rfl)) (pss_one (ps_if (PW.pt (pw_and (pt_val (pe_callO o__law_fits (hr.mono (by decide)) (by rfl) tk (pa_cons (pv 0) (pa_cons (pv 4) pa_nil)))) (pw_and1 (pt_cmpR (op_eqA hr.units) (pe_callO o__law_fits (hr.mono (by decide)) (by rfl) tk (pa_cons (pv 1) (pa_cons (pv 4) pa_nil))) (pv 3) (nomark _))))) (pss_one (ps_ret (pv 4))) pss_nil))) (pss_one (ps_ret pe_non)))
theorem ok_covers (T : Tx K mg) (dd : Df K mg "covers" s_covers ["one", "other"]) (o_look_both : Ok P w K mg base "look_both" ["one", "other"] 3 (SpM K (fs_look_both K))) (o_shortest : Ok P w K mg base "shortest" ["one", "other", "wanted"] 5 (SpM K (fs_shortest K))) (hf : FsOk K 2 2 (fs_covers K) (t_covers K)) : Ok P w K mg base "covers" ["one", "other"] 6 (SpM K (fs_covers K)) := by
  refine ok_mk (t := t_covers K) dd sc_covers (by decide) hf (fun f cdv A outer s H E hr tk po => ?_)
  have sc := sc_covers
  exact (pss_cons (ps_expr (pe_callO o_look_both (hr.mono (by decide)) (by rfl) tk (pa_cons (pv 0) (pa_cons (pv 1) pa_nil)))) (pss_one (ps_ret (pe_cmpR op_isN (pe_callO o_shortest (hr.mono (by decide)) (by rfl) tk (pa_cons (pv 1) (pa_cons (pv 0) (pa_cons pe_bl pa_nil)))) pe_non (nomark _)))))
theorem ok_common (T : Tx K mg) (dd : Df K mg "common" s_common ["one", "other"]) (o_look_both : Ok P w K mg base "look_both" ["one", "other"] 3 (SpM K (fs_look_both K))) (o_shortest : Ok P w K mg base "shortest" ["one", "other", "wanted"] 5 (SpM K (fs_shortest K))) (hf : FsOk K 2 2 (fs_common K) (t_common K)) : Ok P w K mg base "common" ["one", "other"] 6 (SpM K (fs_common K)) := by
  refine ok_mk (t := t_common K) dd sc_common (by decide) hf (fun f cdv A outer s H E hr tk po => ?_)
  have sc := sc_common
  exact (pss_cons (ps_expr (pe_callO o_look_both (hr.mono (by decide)) (by rfl) tk (pa_cons (pv 0) (pa_cons (pv 1) pa_nil)))) (pss_one (ps_ret (pe_callO o_shortest (hr.mono (by decide)) (by rfl) tk (pa_cons (pv 0) (pa_cons (pv 1) (pa_cons pe_bl pa_nil)))))))
theorem ok_match_from (T : Tx K mg) (dd : Df K mg "match_from" s_match_from ["pattern", "words"]) (o_takes : Ok P w K mg base "takes" ["part", "word"] 1 (SpM K (fs_takes K))) (hf : ∀ m, FsOk K 2 4 (fs_match_from K (m + 1)) (t_match_from K m)) (h0 : ∀ ms P X, ¬ fs_match_from K 0 ms P X) : ∀ m, Ok P w K mg base "match_from" ["pattern", "words"] (2 + m) (SpM K (fs_match_from K m)) := by
  intro m
  induction m with
  | zero => exact ok_none dd h0
  | succ m o_match_from =>
    refine ok_mk (k := 2 + m) (t := t_match_from K m) dd sc_match_from (by decide) (hf m) (fun f cdv A outer s H E hr tk po => ?_)
    have sc := sc_match_from
    exact (pss_cons (ps_if (pt_not (pt_truth (pv 0) (by intro _; rfl))) (pss_one (ps_ret (pe_ifExp (pt_not (pt_truth (pv 1) (by intro _; rfl))) (pe_lst pa_nil) pe_non))) pss_nil) (pss_cons (ps_if (pt_cmpR (op_neA hr.units) (pe_ix ix_any (pe_ix ix_any (pv 0) pe_int (fun _ _ => rfl)) pe_int (fun _ _ => rfl)) pe_str (nomark _)) (pss_cons (ps_if (PW.pt (pw_or (pt_not (pt_truth (pv 1) (by intro _; rfl))) (pw_or1 (pt_not (pt_val (pe_callO o_takes (hr.mono (by omega)) (by rfl) tk (pa_cons (pe_ix ix_any (pv 0) pe_int (fun _ _ => rfl)) (pa_cons (pe_ix ix_any (pv 1) pe_int (fun _ _ => rfl)) pa_nil)))))))) (pss_one (ps_ret pe_non)) pss_nil) (pss_cons (ps_set (i := 2) sc.nd rfl (by first | exact Or.inl rfl | exact Or.inr rfl) (pe_callO o_match_from (hr.mono (by omega)) (by rfl) tk (pa_cons (pe_slice sl_any (pv 0) (po_some pe_int) po_none) (pa_cons (pe_slice sl_any (pv 1) (po_some pe_int) po_none) pa_nil)))) (pss_one (ps_ret (pe_ifExp (pt_cmpR op_isN (pv 2) pe_non (nomark _)) pe_non (pe_op op_addA (pe_lst (pa_cons pe_int pa_nil)) (pv 2))))))) pss_nil) (pss_cons (ps_for po rfl (pi_range1 (by rfl) T.f_range (pa_cons (pe_op op_addA (pe_callB call_lenA (by rfl) T.f_len PySem.boot_len (pa_cons (pv 1) pa_nil)) pe_int) pa_nil)) (pg_name (i := 3) sc.nd rfl (by first | exact Or.inl rfl | exact Or.inr rfl)) (pss_cons (ps_set (i := 2) sc.nd rfl (by first | exact Or.inl rfl | exact Or.inr rfl) (pe_callO o_match_from (hr.mono (by omega)) (by rfl) tk (pa_cons (pe_slice sl_any (pv 0) (po_some pe_int) po_none) (pa_cons (pe_slice sl_any (pv 1) (po_some (pv 3)) po_none) pa_nil)))) (pss_one (ps_if (pt_cmpR op_notN (pv 2) pe_non (nomark _)) (pss_one (ps_ret (pe_op op_addA (pe_lst (pa_cons (pv 3) pa_nil)) (pv 2)))) pss_nil)))) (pss_one (ps_ret pe_non)))))
theorem ok_match (T : Tx K mg) (dd : Df K mg "match" s_match ["pattern", "words"]) (o_look_pattern : Ok P w K mg base "look_pattern" ["pattern"] 2 (SpM K (fs_look_pattern K))) (o_match_from : Ok P w K mg base "match_from" ["pattern", "words"] 9 (SpM K (fs_match_from K 7))) (hf : FsOk K 2 6 (fs_match K) (t_match K)) : Ok P w K mg base "match" ["pattern", "words"] 10 (SpM K (fs_match K)) := by
  refine ok_mk (t := t_match K) dd sc_match (by decide) hf (fun f cdv A outer s H E hr tk po => ?_)
  have sc := sc_match
  exact (pss_cons (ps_expr (pe_callO o_look_pattern (hr.mono (by decide)) (by rfl) tk (pa_cons (pv 0) pa_nil))) (pss_cons (ps_set (i := 2) sc.nd rfl (by first | exact Or.inl rfl | exact Or.inr rfl) (pe_callO o_match_from (hr.mono (by decide)) (by rfl) tk (pa_cons (pv 0) (pa_cons (pv 1) pa_nil)))) (pss_cons (ps_if (pt_cmpR op_isN (pv 2) pe_non (nomark _)) (pss_one (ps_ret pe_non)) pss_nil) (pss_cons (ps_set (i := 3) sc.nd rfl (by first | exact Or.inl rfl | exact Or.inr rfl) pe_dnewK) (pss_cons (ps_set (i := 4) sc.nd rfl (by first | exact Or.inl rfl | exact Or.inr rfl) pe_int) (pss_cons (ps_for po rfl (pi_range1 (by rfl) T.f_range (pa_cons (pe_callB call_lenA (by rfl) T.f_len PySem.boot_len (pa_cons (pv 0) pa_nil)) pa_nil)) (pg_name (i := 5) sc.nd rfl (by first | exact Or.inl rfl | exact Or.inr rfl)) (pss_cons (ps_if (pt_cmpR op_inA (pe_ix ix_any (pe_ix ix_any (pv 0) (pv 5) (fun _ _ => rfl)) pe_int (fun _ _ => rfl)) (pe_tup (pa_cons pe_str (pa_cons pe_str pa_nil))) (by rfl)) (pss_one (ps_dput (hu_of hr) (pv 3) (pe_ix ix_any (pe_ix ix_any (pv 0) (pv 5) (fun _ _ => rfl)) pe_int (fun _ _ => rfl)) (pe_slice sl_any (pv 1) (po_some (pv 4)) (po_some (pe_op op_addA (pv 4) (pe_ix ix_any (pv 2) (pv 5) (fun _ _ => rfl))))) rfl)) pss_nil) (pss_one (ps_set (i := 4) sc.nd rfl (by first | exact Or.inl rfl | exact Or.inr rfl) (pe_op op_addA (pv 4) (pe_ix ix_any (pv 2) (pv 5) (fun _ _ => rfl))))))) (pss_one (ps_ret (pv 3)))))))))
theorem ok_needless (T : Tx K mg) (dd : Df K mg "needless" s_needless ["patterns"]) (o_look_pattern : Ok P w K mg base "look_pattern" ["pattern"] 2 (SpM K (fs_look_pattern K))) (o_covers : Ok P w K mg base "covers" ["one", "other"] 6 (SpM K (fs_covers K))) (hf : FsOk K 1 6 (fs_needless K) (t_needless K)) : Ok P w K mg base "needless" ["patterns"] 7 (SpM K (fs_needless K)) := by
  refine ok_mk (t := t_needless K) dd sc_needless (by decide) hf (fun f cdv A outer s H E hr tk po => ?_)
  have sc := sc_needless
  exact (pss_cons (ps_for po rfl (pi_list (pv 0)) (pg_name (i := 1) sc.nd rfl (by first | exact Or.inl rfl | exact Or.inr rfl)) (pss_one (ps_expr (pe_callO o_look_pattern (hr.mono (by decide)) (by rfl) tk (pa_cons (pv 1) pa_nil))))) (pss_cons (ps_set (i := 2) sc.nd rfl (by first | exact Or.inl rfl | exact Or.inr rfl) (pe_lst pa_nil)) (pss_cons (ps_for po rfl (pi_range1 (by rfl) T.f_range (pa_cons (pe_callB call_lenA (by rfl) T.f_len PySem.boot_len (pa_cons (pv 0) pa_nil)) pa_nil)) (pg_name (i := 3) sc.nd rfl (by first | exact Or.inl rfl | exact Or.inr rfl)) (pss_cons (ps_setLc (own := [("j", 5)]) (i := 4) (g := (gName 5)) rfl sc.nd rfl rfl (sw_true rfl rfl rfl (by decide +kernel)) (pi_range1 (by rfl) T.f_range (pa_cons (pe_callB call_lenA (by rfl) T.f_len PySem.boot_len (pa_cons (pv 0) pa_nil)) pa_nil)) (blkOk_by (N := N_needless) (sc := defScope s_needless) (by decide +kernel)) (fun _ _ _ _ _ => (pg_name (i := 5) sc.nd rfl (by first | exact Or.inl rfl | exact Or.inr rfl))) (fun _ _ _ _ _ => (pts_one (PW.pt (pw_and (pt_cmpR (op_neA hr.units) (pv 5) (pv 3) (nomark _)) (pw_and1 (pt_val (pe_callO o_covers (hr.mono (by decide)) (by rfl) takes0 (pa_cons (pe_ix ix_any (pv 0) (pv 5) (fun _ _ => rfl)) (pa_cons (pe_ix ix_any (pv 0) (pv 3) (fun _ _ => rfl)) pa_nil))))))))) (fun _ _ _ _ _ => (pv 5))) (pss_one (ps_if (pt_val (pe_callB (cr_any rfl) (by rfl) T.f_any (by decide +kernel) (pa_cons (pe_lc (own := [("j", 5)]) (g := (gName 5)) rfl sc.nd (pi_list (pv 4)) (blkOk_by (N := N_needless) (sc := defScope s_needless) (by decide +kernel)) (fun _ _ _ _ _ => (pg_name (i := 5) sc.nd rfl (by first | exact Or.inl rfl | exact Or.inr rfl))) (fun _ _ _ _ _ => pts_nil) (fun _ _ _ _ _ => (pe_or (pe_cmpR op_lt (pv 5) (pv 3) (nomark _)) (pe_one (pe_not (pe_callO o_covers (hr.mono (by decide)) (by rfl) takes0 (pa_cons (pe_ix ix_any (pv 0) (pv 3) (fun _ _ => rfl)) (pa_cons (pe_ix ix_any (pv 0) (pv 5) (fun _ _ => rfl)) pa_nil)))))))) pa_nil))) (pss_one (ps_expr (pe_bm PySem.F.plainAttrs_list PySem.F.slot_list_append PySem.F.type_list_append mt_append (pv 2) (pa_cons (pv 3) pa_nil)))) pss_nil)))) (pss_one (ps_ret (pv 2))))))
theorem ok_law {f : Addr} {fd : FuncData} (T : Tx K mg) (dd : DfF K mg "law" s_law ["script"] f fd) (o__law_draw : Ok P w K mg base "_law_draw" ["script", "town", "many"] 3 (SpM K (fs__law_draw K))) (o__law_few : Ok P w K mg base "_law_few" ["script", "town"] 5 (SpM K (fs__law_few K))) (o__law_alphabet : Ok P w K mg base "_law_alphabet" ["one", "other"] 1 (SpM K (fs__law_alphabet K))) (o_alphabet : Ok P w K mg base "alphabet" ["one", "other"] 4 (SpM K (fs_alphabet K))) (o_apart : Ok P w K mg base "apart" ["one", "other"] 6 (SpM K (fs_apart K))) (o__law_is : Ok P w K mg base "_law_is" ["found", "due", "one", "other", "wanted"] 2 (SpM K (fs__law_is K))) (o__law_first : Ok P w K mg base "_law_first" ["one", "other", "words", "wanted"] 2 (SpM K (fs__law_first K))) (o_covers : Ok P w K mg base "covers" ["one", "other"] 6 (SpM K (fs_covers K))) (o_common : Ok P w K mg base "common" ["one", "other"] 6 (SpM K (fs_common K))) (o_match : Ok P w K mg base "match" ["pattern", "words"] 10 (SpM K (fs_match K))) (o_needless : Ok P w K mg base "needless" ["patterns"] 7 (SpM K (fs_needless K))) (hf : FsOk K 1 14 (fs_law K) (t_law K)) : FnOk P w K mg base (L2.CX P w) 11 f fd ["script"] (SpM K (fs_law K)) := by
  refine ok_mkF (t := t_law K) dd sc_law (by decide) hf (fun f cdv A outer s H E hr tk po => ?_)
  have sc := sc_law
  exact (pss_cons (ps_set (i := 1) sc.nd rfl (by first | exact Or.inl rfl | exact Or.inr rfl) (pe_lst pa_nil)) (pss_cons (ps_set (i := 2) sc.nd rfl (by first | exact Or.inl rfl | exact Or.inr rfl) (pe_lc (own := [("k", 9)]) (g := (gName 9)) rfl sc.nd (pi_range1 (by rfl) T.f_range (pa_cons (pe_op op_addA pe_int (pe_callO o__law_draw (hr.mono (by decide)) (by rfl) tk (pa_cons (pv 0) (pa_cons (pv 1) (pa_cons pe_int pa_nil))))) pa_nil)) (blkOk_by (N := N_law) (sc := defScope s_law) (by decide +kernel)) (fun _ _ _ _ _ => (pg_name (i := 9) sc.nd rfl (by first | exact Or.inl rfl | exact Or.inr rfl))) (fun _ _ _ _ _ => pts_nil) (fun _ _ _ _ _ => (pe_callO o__law_few (hr.mono (by decide)) (by rfl) takes0 (pa_cons (pv 0) (pa_cons (pv 1) pa_nil)))))) (pss_cons (ps_if (pt_cmpR (op_eqA hr.units) (pe_callO o__law_draw (hr.mono (by decide)) (by rfl) tk (pa_cons (pv 0) (pa_cons (pv 1) (pa_cons pe_int pa_nil)))) pe_int (nomark _)) (pss_one (ps_asg (pe_lc (own := [("kind", 11), ("what", 12)]) (g := (gTup K 2 (gCons (gName 11) (gCons (gName 12) gNil)))) rfl sc.nd (pi_list (pe_ix ix_any (pv 2) pe_int (fun _ _ => rfl))) (blkOk_by (N := N_law) (sc := defScope s_law) (by decide +kernel)) (fun _ _ _ _ _ => (pg_tup rfl (pgs_cons (pg_name (i := 11) sc.nd rfl (by first | exact Or.inl rfl | exact Or.inr rfl)) (pgs_cons (pg_name (i := 12) sc.nd rfl (by first | exact Or.inl rfl | exact Or.inr rfl)) pgs_nil)))) (fun _ _ _ _ _ => pts_nil) (fun _ _ _ _ _ => (pe_tup (pa_cons (pv 11) (pa_cons (pe_ifExp (pt_cmpR op_inA (pv 11) (pe_tup (pa_cons pe_str (pa_cons pe_str pa_nil))) (by rfl)) (pv 12) (pe_op op_addA (pv 12) pe_str)) pa_nil))))) (pg_sub (pv 2) pe_int set_list))) pss_nil) (pss_cons (ps_asg (pe_slice sl_any (pv 2) po_none (po_some pe_int)) (pg_lst rfl (pgs_cons (pg_name (i := 3) sc.nd rfl (by first | exact Or.inl rfl | exact Or.inr rfl)) (pgs_cons (pg_name (i := 4) sc.nd rfl (by first | exact Or.inl rfl | exact Or.inr rfl)) pgs_nil)))) (pss_cons (ps_set (i := 5) sc.nd rfl (by first | exact Or.inl rfl | exact Or.inr rfl) (pe_callO o__law_alphabet (hr.mono (by decide)) (by rfl) tk (pa_cons (pv 3) (pa_cons (pv 4) pa_nil)))) (pss_cons (ps_if (pt_cmpR (op_neA hr.units) (pe_callO o_alphabet (hr.mono (by decide)) (by rfl) tk (pa_cons (pv 3) (pa_cons (pv 4) pa_nil))) (pv 5) (nomark _)) (pss_one (ps_ret pe_bl)) pss_nil) (pss_cons (ps_set (i := 6) sc.nd rfl (by first | exact Or.inl rfl | exact Or.inr rfl) (pe_callO o_apart (hr.mono (by decide)) (by rfl) tk (pa_cons (pv 3) (pa_cons (pv 4) pa_nil)))) (pss_cons (ps_if (pt_not (pt_val (pe_callO o__law_is (hr.mono (by decide)) (by rfl) tk (pa_cons (pv 6) (pa_cons (pe_callO o__law_first (hr.mono (by decide)) (by rfl) tk (pa_cons (pv 3) (pa_cons (pv 4) (pa_cons (pv 5) (pa_cons pe_bl pa_nil))))) (pa_cons (pv 3) (pa_cons (pv 4) (pa_cons pe_bl pa_nil)))))))) (pss_one (ps_ret pe_bl)) pss_nil) (pss_cons (ps_if (PW.pt (pw_or (pt_cmpR (op_neA hr.units) (pe_callO o_covers (hr.mono (by decide)) (by rfl) tk (pa_cons (pv 4) (pa_cons (pv 3) pa_nil))) (pe_cmpR op_isN (pv 6) pe_non (nomark _)) (nomark _)) (pw_or1 (pt_cmpR op_notBl (pe_callO o_covers (hr.mono (by decide)) (by rfl) tk (pa_cons (pv 3) (pa_cons (pv 3) pa_nil))) pe_bl (nomark _))))) (pss_one (ps_ret pe_bl)) pss_nil) (pss_cons (ps_set (i := 7) sc.nd rfl (by first | exact Or.inl rfl | exact Or.inr rfl) (pe_callO o_common (hr.mono (by decide)) (by rfl) tk (pa_cons (pv 3) (pa_cons (pv 4) pa_nil)))) (pss_cons (ps_if (pt_not (pt_val (pe_callO o__law_is (hr.mono (by decide)) (by rfl) tk (pa_cons (pv 7) (pa_cons (pe_callO o__law_first (hr.mono (by decide)) (by rfl) tk (pa_cons (pv 3) (pa_cons (pv 4) (pa_cons (pv 5) (pa_cons pe_bl pa_nil))))) (pa_cons (pv 3) (pa_cons (pv 4) (pa_cons pe_bl pa_nil)))))))) (pss_one (ps_ret pe_bl)) pss_nil) (pss_cons (ps_if (PW.pt (pw_and (pt_cmpR op_notN (pv 6) pe_non (nomark _)) (pw_and1 (PW.pt (pw_or (pt_cmpR op_isN (pe_callO o_match (hr.mono (by decide)) (by rfl) tk (pa_cons (pv 3) (pa_cons (pv 6) pa_nil))) pe_non (nomark _)) (pw_or1 (pt_cmpR op_notN (pe_callO o_match (hr.mono (by decide)) (by rfl) tk (pa_cons (pv 4) (pa_cons (pv 6) pa_nil))) pe_non (nomark _)))))))) (pss_one (ps_ret pe_bl)) pss_nil) (pss_cons (ps_set (i := 8) sc.nd rfl (by first | exact Or.inl rfl | exact Or.inr rfl) (pe_lst pa_nil)) (pss_cons (ps_for po rfl (pi_range1 (by rfl) T.f_range (pa_cons (pe_callB call_lenA (by rfl) T.f_len PySem.boot_len (pa_cons (pv 2) pa_nil)) pa_nil)) (pg_name (i := 9) sc.nd rfl (by first | exact Or.inl rfl | exact Or.inr rfl)) (pss_cons (ps_setLc (own := [("j", 13)]) (i := 10) (g := (gName 13)) rfl sc.nd rfl rfl (sw_true rfl rfl rfl (by decide +kernel)) (pi_range1 (by rfl) T.f_range (pa_cons (pe_callB call_lenA (by rfl) T.f_len PySem.boot_len (pa_cons (pv 2) pa_nil)) pa_nil)) (blkOk_by (N := N_law) (sc := defScope s_law) (by decide +kernel)) (fun _ _ _ _ _ => (pg_name (i := 13) sc.nd rfl (by first | exact Or.inl rfl | exact Or.inr rfl))) (fun _ _ _ _ _ => (pts_one (PW.pt (pw_and (pt_cmpR (op_neA hr.units) (pv 13) (pv 9) (nomark _)) (pw_and1 (pt_cmpR op_isN (pe_callO o_apart (hr.mono (by decide)) (by rfl) takes0 (pa_cons (pe_ix ix_any (pv 2) (pv 9) (fun _ _ => rfl)) (pa_cons (pe_ix ix_any (pv 2) (pv 13) (fun _ _ => rfl)) pa_nil))) pe_non (nomark _))))))) (fun _ _ _ _ _ => (pv 13))) (pss_one (ps_if (pt_cmpR (op_neA hr.units) (pe_lc (own := [("j", 13)]) (g := (gName 13)) rfl sc.nd (pi_list (pv 10)) (blkOk_by (N := N_law) (sc := defScope s_law) (by decide +kernel)) (fun _ _ _ _ _ => (pg_name (i := 13) sc.nd rfl (by first | exact Or.inl rfl | exact Or.inr rfl))) (fun _ _ _ _ _ => (pts_one (PW.pt (pw_or (pt_cmpR op_lt (pv 13) (pv 9) (nomark _)) (pw_or1 (pt_cmpR op_notN (pe_callO o_apart (hr.mono (by decide)) (by rfl) takes0 (pa_cons (pe_ix ix_any (pv 2) (pv 13) (fun _ _ => rfl)) (pa_cons (pe_ix ix_any (pv 2) (pv 9) (fun _ _ => rfl)) pa_nil))) pe_non (nomark _))))))) (fun _ _ _ _ _ => (pv 13))) (pe_lst pa_nil) (nomark _)) (pss_one (ps_expr (pe_bm PySem.F.plainAttrs_list PySem.F.slot_list_append PySem.F.type_list_append mt_append (pv 8) (pa_cons (pv 9) pa_nil)))) pss_nil)))) (pss_one (ps_ret (pe_cmpR (op_eqA hr.units) (pe_callO o_needless (hr.mono (by decide)) (by rfl) tk (pa_cons (pv 2) pa_nil)) (pv 8) (nomark _))))))))))))))))))
end
def d__law_cell : He.DefD := ⟨("_law_cell", none), "_law_cell", "_law_cell", defArgs s__law_cell, defBody s__law_cell, defScope s__law_cell, [], []⟩
def d__law_mix : He.DefD := ⟨("_law_mix", none), "_law_mix", "_law_mix", defArgs s__law_mix, defBody s__law_mix, defScope s__law_mix, [], []⟩
def d__law_draw : He.DefD := ⟨("_law_draw", none), "_law_draw", "_law_draw", defArgs s__law_draw, defBody s__law_draw, defScope s__law_draw, [], []⟩
def d__law_pick : He.DefD := ⟨("_law_pick", none), "_law_pick", "_law_pick", defArgs s__law_pick, defBody s__law_pick, defScope s__law_pick, [], []⟩
def d__law_few : He.DefD := ⟨("_law_few", none), "_law_few", "_law_few", defArgs s__law_few, defBody s__law_few, defScope s__law_few, [], []⟩
def d__law_alphabet : He.DefD := ⟨("_law_alphabet", none), "_law_alphabet", "_law_alphabet", defArgs s__law_alphabet, defBody s__law_alphabet, defScope s__law_alphabet, [], []⟩
def d_is_word : He.DefD := ⟨("is_word", none), "is_word", "is_word", defArgs s_is_word, defBody s_is_word, defScope s_is_word, [], []⟩
def d_look_pattern : He.DefD := ⟨("look_pattern", none), "look_pattern", "look_pattern", defArgs s_look_pattern, defBody s_look_pattern, defScope s_look_pattern, [], []⟩
def d_look_both : He.DefD := ⟨("look_both", none), "look_both", "look_both", defArgs s_look_both, defBody s_look_both, defScope s_look_both, [], []⟩
def d_words_in : He.DefD := ⟨("words_in", none), "words_in", "words_in", defArgs s_words_in, defBody s_words_in, defScope s_words_in, [], []⟩
def d_alphabet : He.DefD := ⟨("alphabet", none), "alphabet", "alphabet", defArgs s_alphabet, defBody s_alphabet, defScope s_alphabet, [], []⟩
def d_closed : He.DefD := ⟨("closed", none), "closed", "closed", defArgs s_closed, defBody s_closed, defScope s_closed, [], []⟩
def d_takes : He.DefD := ⟨("takes", none), "takes", "takes", defArgs s_takes, defBody s_takes, defScope s_takes, [], []⟩
def d_behind : He.DefD := ⟨("behind", none), "behind", "behind", defArgs s_behind, defBody s_behind, defScope s_behind, [], []⟩
def d_shortest : He.DefD := ⟨("shortest", none), "shortest", "shortest", defArgs s_shortest, defBody s_shortest, defScope s_shortest, [], []⟩
def d_apart : He.DefD := ⟨("apart", none), "apart", "apart", defArgs s_apart, defBody s_apart, defScope s_apart, [], []⟩
def d__law_fits : He.DefD := ⟨("_law_fits", none), "_law_fits", "_law_fits", defArgs s__law_fits, defBody s__law_fits, defScope s__law_fits, [], []⟩
def d__law_is : He.DefD := ⟨("_law_is", none), "_law_is", "_law_is", defArgs s__law_is, defBody s__law_is, defScope s__law_is, [], []⟩
def d__law_lists : He.DefD := ⟨("_law_lists", none), "_law_lists", "_law_lists", defArgs s__law_lists, defBody s__law_lists, defScope s__law_lists, [], []⟩
def d__law_first : He.DefD := ⟨("_law_first", none), "_law_first", "_law_first", defArgs s__law_first, defBody s__law_first, defScope s__law_first, [], []⟩
def d_covers : He.DefD := ⟨("covers", none), "covers", "covers", defArgs s_covers, defBody s_covers, defScope s_covers, [], []⟩
def d_common : He.DefD := ⟨("common", none), "common", "common", defArgs s_common, defBody s_common, defScope s_common, [], []⟩
def d_match_from : He.DefD := ⟨("match_from", none), "match_from", "match_from", defArgs s_match_from, defBody s_match_from, defScope s_match_from, [], []⟩
def d_match : He.DefD := ⟨("match", none), "match", "match", defArgs s_match, defBody s_match, defScope s_match, [], []⟩
def d_needless : He.DefD := ⟨("needless", none), "needless", "needless", defArgs s_needless, defBody s_needless, defScope s_needless, [], []⟩
def d_law : He.DefD := ⟨("law", none), "law", "law", defArgs s_law, defBody s_law, defScope s_law, [], []⟩
def fnL : List He.DefD := [d__law_cell, d__law_mix, d__law_draw, d__law_pick, d__law_few, d__law_alphabet, d_is_word, d_look_pattern, d_look_both, d_words_in, d_alphabet, d_closed, d_takes, d_behind, d_shortest, d_apart, d__law_fits, d__law_is, d__law_lists, d__law_first, d_covers, d_common, d_match_from, d_match, d_needless, d_law]
def faL : List He.Fa := [.free "len", .free "range", .free "list", .free "sorted", .free "set", .free "all", .free "tuple", .free "int", .free "any", .str "LETTERS" "abcdefghijklmnopqrstuvwxyz0123456789", .int "MOST_PARTS" 6, .int "MOST_WORDS" 4, .glo "BadPattern", .exc "BadPattern", .glo "_law_cell", .glo "_law_mix", .glo "_law_draw", .glo "_law_pick", .glo "_law_few", .glo "_law_alphabet", .glo "is_word", .glo "look_pattern", .glo "look_both", .glo "words_in", .glo "alphabet", .glo "closed", .glo "takes", .glo "behind", .glo "shortest", .glo "apart", .glo "_law_fits", .glo "_law_is", .glo "_law_lists", .glo "_law_first", .glo "covers", .glo "common", .glo "match_from", .glo "match", .glo "needless", .glo "law"]
def exB (K : PySem.W.Frag) : Bool := true
abbrev R : PySem.W.OpenRow := PySem.W.OpenLaw.row PySem.Challenge.rw_answerhall_k40_whole_covering
abbrev hk : PySem.W.Hook := hookM 5 faL fnL exB
def ob (s : PySem.W.SharedT) : He.AlD × Bool := obM 5 faL fnL exB (HandSHeadRun.getT s)
theorem ob_eq (s : PySem.W.SharedT) : ob s = hk.obs s.abs := obM_eq (HandSHeadRun.getT_eq s)
def loose0 : List PySem.Str := ["HallError", "BadPattern", "LETTERS", "is_word", "MOST_PARTS", "MOST_WORDS", "look_pattern", "takes", "match_from", "match", "closed", "behind", "words_in", "alphabet", "shortest", "look_both", "covers", "apart", "common", "needless", "_law_cell", "_law_mix", "_law_draw", "_law_pick", "_law_fits", "_law_few", "_law_alphabet", "_law_lists", "_law_first", "_law_is"]
def loose : List PySem.Str := loose0
theorem run (w : World) : HandSHeadRun.RunEq R (PySem.W.view R.prog [35]) hk ob 9000 loose w := by
  intro os
  kernel_rfl
theorem facts {P : Program} {w : World} {K : PySem.W.Frag} {h : Heap} {mg : PySem.Str → Option Value} {f : Addr} (X : K.In h) (G : h.Ns mainGlobals mg) (hfa : mg ("law" : PySem.Str) = some (.ref f)) (c : He.SaysD faL fnL K) (ce : exB K = true) :
    ∃ fd : FuncData, (∀ (s : Shared) (v : Value), BindsTo s fd ⟨[v], []⟩ [("script", v)]) ∧ ∀ base : Heap, FnOk P w K mg base (L2.CX P w) 11 f fd ["script"] (SpM K (fs_law K)) := by
  have T : Tx K mg := ⟨He.free_ok X G (c.fact 0 rfl), He.free_ok X G (c.fact 1 rfl), He.free_ok X G (c.fact 2 rfl), He.free_ok X G (c.fact 3 rfl), He.free_ok X G (c.fact 4 rfl), He.free_ok X G (c.fact 5 rfl), He.free_ok X G (c.fact 6 rfl), He.free_ok X G (c.fact 7 rfl), He.free_ok X G (c.fact 8 rfl), He.str_ok X G (c.fact 9 rfl), He.int_ok X G (c.fact 10 rfl), He.int_ok X G (c.fact 11 rfl), He.glo_ok X G (c.fact 12 rfl), He.exc_ok (c.fact 13 rfl)⟩
  obtain ⟨fd, F⟩ := c.def_ 25 (d := d_law) rfl
  have e := hfa.symm.trans (He.glo_ok X G (c.fact 39 (f := .glo "law") rfl))
  cases e
  have b := FunD.bindsA (ps := ["script"]) F fun _ _ _ _ _ _ us hl => match us, hl with | [_], _ => rfl
  refine ⟨fd, fun s v => b s [v] rfl, fun base => ?_⟩
  have dd__law_cell : Df K mg "_law_cell" s__law_cell ["script", "k"] := df_of X G (c.fact 14 (f := .glo "_law_cell") rfl) (c.def_ 0 (d := d__law_cell) rfl) (fun _ _ _ _ _ _ us hl => match us, hl with | [_, _], _ => rfl)
  have o__law_cell : Ok P w K mg base "_law_cell" ["script", "k"] 1 (SpM K (fs__law_cell K)) := ok__law_cell T dd__law_cell  h__law_cell
  have dd__law_mix : Df K mg "_law_mix" s__law_mix ["script", "k"] := df_of X G (c.fact 15 (f := .glo "_law_mix") rfl) (c.def_ 1 (d := d__law_mix) rfl) (fun _ _ _ _ _ _ us hl => match us, hl with | [_, _], _ => rfl)
  have o__law_mix : Ok P w K mg base "_law_mix" ["script", "k"] 2 (SpM K (fs__law_mix K)) := ok__law_mix T dd__law_mix o__law_cell h__law_mix
  have dd__law_draw : Df K mg "_law_draw" s__law_draw ["script", "town", "many"] := df_of X G (c.fact 16 (f := .glo "_law_draw") rfl) (c.def_ 2 (d := d__law_draw) rfl) (fun _ _ _ _ _ _ us hl => match us, hl with | [_, _, _], _ => rfl)
  have o__law_draw : Ok P w K mg base "_law_draw" ["script", "town", "many"] 3 (SpM K (fs__law_draw K)) := ok__law_draw T dd__law_draw o__law_mix h__law_draw
  have dd__law_pick : Df K mg "_law_pick" s__law_pick ["script", "town", "some"] := df_of X G (c.fact 17 (f := .glo "_law_pick") rfl) (c.def_ 3 (d := d__law_pick) rfl) (fun _ _ _ _ _ _ us hl => match us, hl with | [_, _, _], _ => rfl)
  have o__law_pick : Ok P w K mg base "_law_pick" ["script", "town", "some"] 4 (SpM K (fs__law_pick K)) := ok__law_pick T dd__law_pick o__law_draw h__law_pick
  have dd__law_few : Df K mg "_law_few" s__law_few ["script", "town"] := df_of X G (c.fact 18 (f := .glo "_law_few") rfl) (c.def_ 4 (d := d__law_few) rfl) (fun _ _ _ _ _ _ us hl => match us, hl with | [_, _], _ => rfl)
  have o__law_few : Ok P w K mg base "_law_few" ["script", "town"] 5 (SpM K (fs__law_few K)) := ok__law_few T dd__law_few o__law_draw o__law_pick h__law_few
  have dd__law_alphabet : Df K mg "_law_alphabet" s__law_alphabet ["one", "other"] := df_of X G (c.fact 19 (f := .glo "_law_alphabet") rfl) (c.def_ 5 (d := d__law_alphabet) rfl) (fun _ _ _ _ _ _ us hl => match us, hl with | [_, _], _ => rfl)
  have o__law_alphabet : Ok P w K mg base "_law_alphabet" ["one", "other"] 1 (SpM K (fs__law_alphabet K)) := ok__law_alphabet T dd__law_alphabet  h__law_alphabet
  have dd_is_word : Df K mg "is_word" s_is_word ["text"] := df_of X G (c.fact 20 (f := .glo "is_word") rfl) (c.def_ 6 (d := d_is_word) rfl) (fun _ _ _ _ _ _ us hl => match us, hl with | [_], _ => rfl)
  have o_is_word : Ok P w K mg base "is_word" ["text"] 1 (SpM K (fs_is_word K)) := ok_is_word T dd_is_word  h_is_word
  have dd_look_pattern : Df K mg "look_pattern" s_look_pattern ["pattern"] := df_of X G (c.fact 21 (f := .glo "look_pattern") rfl) (c.def_ 7 (d := d_look_pattern) rfl) (fun _ _ _ _ _ _ us hl => match us, hl with | [_], _ => rfl)
  have o_look_pattern : Ok P w K mg base "look_pattern" ["pattern"] 2 (SpM K (fs_look_pattern K)) := ok_look_pattern T dd_look_pattern o_is_word h_look_pattern
  have dd_look_both : Df K mg "look_both" s_look_both ["one", "other"] := df_of X G (c.fact 22 (f := .glo "look_both") rfl) (c.def_ 8 (d := d_look_both) rfl) (fun _ _ _ _ _ _ us hl => match us, hl with | [_, _], _ => rfl)
  have o_look_both : Ok P w K mg base "look_both" ["one", "other"] 3 (SpM K (fs_look_both K)) := ok_look_both T dd_look_both o_look_pattern h_look_both
  have dd_words_in : Df K mg "words_in" s_words_in ["pattern"] := df_of X G (c.fact 23 (f := .glo "words_in") rfl) (c.def_ 9 (d := d_words_in) rfl) (fun _ _ _ _ _ _ us hl => match us, hl with | [_], _ => rfl)
  have o_words_in : Ok P w K mg base "words_in" ["pattern"] 1 (SpM K (fs_words_in K)) := ok_words_in T dd_words_in  h_words_in
  have dd_alphabet : Df K mg "alphabet" s_alphabet ["one", "other"] := df_of X G (c.fact 24 (f := .glo "alphabet") rfl) (c.def_ 10 (d := d_alphabet) rfl) (fun _ _ _ _ _ _ us hl => match us, hl with | [_, _], _ => rfl)
  have o_alphabet : Ok P w K mg base "alphabet" ["one", "other"] 4 (SpM K (fs_alphabet K)) := ok_alphabet T dd_alphabet o_look_both o_words_in h_alphabet
  have dd_closed : Df K mg "closed" s_closed ["pattern", "places"] := df_of X G (c.fact 25 (f := .glo "closed") rfl) (c.def_ 11 (d := d_closed) rfl) (fun _ _ _ _ _ _ us hl => match us, hl with | [_, _], _ => rfl)
  have o_closed : Ok P w K mg base "closed" ["pattern", "places"] 1 (SpM K (fs_closed K)) := ok_closed T dd_closed  h_closed
  have dd_takes : Df K mg "takes" s_takes ["part", "word"] := df_of X G (c.fact 26 (f := .glo "takes") rfl) (c.def_ 12 (d := d_takes) rfl) (fun _ _ _ _ _ _ us hl => match us, hl with | [_, _], _ => rfl)
  have o_takes : Ok P w K mg base "takes" ["part", "word"] 1 (SpM K (fs_takes K)) := ok_takes T dd_takes  h_takes
  have dd_behind : Df K mg "behind" s_behind ["pattern", "places", "word"] := df_of X G (c.fact 27 (f := .glo "behind") rfl) (c.def_ 13 (d := d_behind) rfl) (fun _ _ _ _ _ _ us hl => match us, hl with | [_, _, _], _ => rfl)
  have o_behind : Ok P w K mg base "behind" ["pattern", "places", "word"] 2 (SpM K (fs_behind K)) := ok_behind T dd_behind o_takes o_closed h_behind
  have dd_shortest : Df K mg "shortest" s_shortest ["one", "other", "wanted"] := df_of X G (c.fact 28 (f := .glo "shortest") rfl) (c.def_ 14 (d := d_shortest) rfl) (fun _ _ _ _ _ _ us hl => match us, hl with | [_, _, _], _ => rfl)
  have o_shortest : Ok P w K mg base "shortest" ["one", "other", "wanted"] 5 (SpM K (fs_shortest K)) := ok_shortest T dd_shortest o_alphabet o_closed o_behind h_shortest
  have dd_apart : Df K mg "apart" s_apart ["one", "other"] := df_of X G (c.fact 29 (f := .glo "apart") rfl) (c.def_ 15 (d := d_apart) rfl) (fun _ _ _ _ _ _ us hl => match us, hl with | [_, _], _ => rfl)
  have o_apart : Ok P w K mg base "apart" ["one", "other"] 6 (SpM K (fs_apart K)) := ok_apart T dd_apart o_look_both o_shortest h_apart
  have dd__law_fits : Df K mg "_law_fits" s__law_fits ["pattern", "words"] := df_of X G (c.fact 30 (f := .glo "_law_fits") rfl) (c.def_ 16 (d := d__law_fits) rfl) (fun _ _ _ _ _ _ us hl => match us, hl with | [_, _], _ => rfl)
  have o__law_fits : Ok P w K mg base "_law_fits" ["pattern", "words"] 1 (SpM K (fs__law_fits K)) := ok__law_fits T dd__law_fits  h__law_fits
  have dd__law_is : Df K mg "_law_is" s__law_is ["found", "due", "one", "other", "wanted"] := df_of X G (c.fact 31 (f := .glo "_law_is") rfl) (c.def_ 17 (d := d__law_is) rfl) (fun _ _ _ _ _ _ us hl => match us, hl with | [_, _, _, _, _], _ => rfl)
  have o__law_is : Ok P w K mg base "_law_is" ["found", "due", "one", "other", "wanted"] 2 (SpM K (fs__law_is K)) := ok__law_is T dd__law_is o__law_fits h__law_is
  have dd__law_lists : Df K mg "_law_lists" s__law_lists ["words", "most"] := df_of X G (c.fact 32 (f := .glo "_law_lists") rfl) (c.def_ 18 (d := d__law_lists) rfl) (fun _ _ _ _ _ _ us hl => match us, hl with | [_, _], _ => rfl)
  have o__law_lists : Ok P w K mg base "_law_lists" ["words", "most"] 1 (SpM K (fs__law_lists K)) := ok__law_lists T dd__law_lists  h__law_lists
  have dd__law_first : Df K mg "_law_first" s__law_first ["one", "other", "words", "wanted"] := df_of X G (c.fact 33 (f := .glo "_law_first") rfl) (c.def_ 19 (d := d__law_first) rfl) (fun _ _ _ _ _ _ us hl => match us, hl with | [_, _, _, _], _ => rfl)
  have o__law_first : Ok P w K mg base "_law_first" ["one", "other", "words", "wanted"] 2 (SpM K (fs__law_first K)) := ok__law_first T dd__law_first o__law_lists o__law_fits h__law_first
  have dd_covers : Df K mg "covers" s_covers ["one", "other"] := df_of X G (c.fact 34 (f := .glo "covers") rfl) (c.def_ 20 (d := d_covers) rfl) (fun _ _ _ _ _ _ us hl => match us, hl with | [_, _], _ => rfl)
  have o_covers : Ok P w K mg base "covers" ["one", "other"] 6 (SpM K (fs_covers K)) := ok_covers T dd_covers o_look_both o_shortest h_covers
  have dd_common : Df K mg "common" s_common ["one", "other"] := df_of X G (c.fact 35 (f := .glo "common") rfl) (c.def_ 21 (d := d_common) rfl) (fun _ _ _ _ _ _ us hl => match us, hl with | [_, _], _ => rfl)
  have o_common : Ok P w K mg base "common" ["one", "other"] 6 (SpM K (fs_common K)) := ok_common T dd_common o_look_both o_shortest h_common
  have dd_match_from : Df K mg "match_from" s_match_from ["pattern", "words"] := df_of X G (c.fact 36 (f := .glo "match_from") rfl) (c.def_ 22 (d := d_match_from) rfl) (fun _ _ _ _ _ _ us hl => match us, hl with | [_, _], _ => rfl)
  have o_match_from : Ok P w K mg base "match_from" ["pattern", "words"] 9 (SpM K (fs_match_from K 7)) := ok_match_from T dd_match_from o_takes h_match_from h0_match_from 7
  have dd_match : Df K mg "match" s_match ["pattern", "words"] := df_of X G (c.fact 37 (f := .glo "match") rfl) (c.def_ 23 (d := d_match) rfl) (fun _ _ _ _ _ _ us hl => match us, hl with | [_, _], _ => rfl)
  have o_match : Ok P w K mg base "match" ["pattern", "words"] 10 (SpM K (fs_match K)) := ok_match T dd_match o_look_pattern o_match_from h_match
  have dd_needless : Df K mg "needless" s_needless ["patterns"] := df_of X G (c.fact 38 (f := .glo "needless") rfl) (c.def_ 24 (d := d_needless) rfl) (fun _ _ _ _ _ _ us hl => match us, hl with | [_], _ => rfl)
  have o_needless : Ok P w K mg base "needless" ["patterns"] 7 (SpM K (fs_needless K)) := ok_needless T dd_needless o_look_pattern o_covers h_needless
  exact ok_law T ⟨F⟩ o__law_draw o__law_few o__law_alphabet o_alphabet o_apart o__law_is o__law_first o_covers o_common o_match o_needless h_law
end Rk
open PySem PySem.W PySem.Calls PyProof.Rows
set_option maxRecDepth 100000 in
set_option maxHeartbeats 0 in
theorem PySem.Challenge.cw_answerhall_k40_whole_covering_holds : PySem.Challenge.rw_answerhall_k40_whole_covering.Holds := by
  w_on; o_law
  refine HandSHeadRun.head_any (r := OpenLaw.row PySem.Challenge.rw_answerhall_k40_whole_covering) (q := view (OpenLaw.row PySem.Challenge.rw_answerhall_k40_whole_covering).prog [35]) (H := Rk.hk) (ob := Rk.ob) (M := 9000) (loose := Rk.loose) (d := HandSHeadRun.topDef (OpenLaw.row PySem.Challenge.rw_answerhall_k40_whole_covering).prog 35) (kwd := []) Rk.ob_eq
    (by kernel_rfl) (fun s => by kernel_rfl) Rk.run (by kernel_rfl) (by kernel_rfl) (by kernel_rfl) (by rfl) (by first | assumption | decide +kernel) (by decide +kernel) ⟨rfl, rfl, rfl, rfl, rfl, by decide +kernel⟩ ?hw ?hc
  case hw => w_witness2
  case hc =>
    refine L2.walk_ofE (l := PySem.Challenge.rw_answerhall_k40_whole_covering) (n := 63) (k := 11) (x := "script") (CX := L2.CX0) rfl (by decide) (by kernel_rfl) ⟨rfl, by decide, by decide⟩ ?F (fun _ _ _ _ z => z)
    intro w mg fa h Y G hmg0
    obtain ⟨K, KX, c, ce⟩ := Y
    have hmg : mg ("law" : PySem.Str) = some (.ref fa) := by
      have e : (HandSHeadRun.topDef (OpenLaw.row PySem.Challenge.rw_answerhall_k40_whole_covering).prog 35).name = ("law" : PySem.Str) := by kernel_rfl
      rw [← e]
      exact hmg0
    obtain ⟨fd, hb, hF⟩ := Rk.facts (P := (PySem.Challenge.rw_answerhall_k40_whole_covering).prog) (w := w) KX G hmg c ce
    exact ⟨K, fd, fun vs H Q _ => M.SpM K (M.fs_law K) vs H Q fun _ _ _ => False, KX, hb, fun H a ns hl _ hS => M.law_start (fs := M.fs_law K) (fun sc P X hl hP => ⟨sc, rfl, hl, hP⟩) H a ns hl hS, fun base _ _ => M.fnok_nox (hF base)⟩
