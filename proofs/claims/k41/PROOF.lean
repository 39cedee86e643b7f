import PyProof.Rows.All
import Wide.All
import OpenK.AllK
import Wide.FinOn
import KE.KStateDown
import HandS.ForMost
import HandS.ForExc
import HandS.More
import HandS.Conv
import HandS.Defaults
import HandS.TupAny
import HandS.DeepEq
import HandS.Deep
import HandS.WordsDict
import HandS.TryOnly
import HandS.ExcIs
import HandS.ExcValue
import HandS.IsInst
import HandS.HeadHook2
import KE.KDictPairs
import HandS.Strs
import KE.KEqDict
import KE.DataMinMax
import KE.SortData
import HandS.HeadEnd
import HandS.Head0
import HandS.Head1
import HandS.Head2
import PySem.Challenge.RW_answerhall_k41_whole_pattern_texts
set_option Elab.async false
set_option linter.all false
set_option maxRecDepth 100000
set_option maxHeartbeats 4000000
namespace M
open PySem L2
/-! ### data -/
inductive D where
  | non | bl (b : Bool) | int (i : Int) | str (s : PySem.Str)
  | lst (ds : List D) | sq (ds : List D) | tup (ds : List D)
  | dic (kvs : List (Key × D))
  | obj (C : Addr) (fs : List (PySem.Str × D))
  | exc (cls : Value)
  | raw (v : V)
/-- an error that was caught and is kept -/
def ExH (cls : Value) (a : Addr) : HO := .ext fun h => ∃ (oe : Obj) (vs : Array Value), h.get? a = some oe ∧ oe.cls = cls ∧ oe.dict = none ∧ oe.data = .fields vs
mutual
inductive Rp (K : PySem.W.Frag) (F : Hp) : V → D → Prop
  | non : Rp K F .non .non
  | bl (b : Bool) : Rp K F (.bl b) (.bl b)
  | int (i : Int) : Rp K F (.int i) (.int i)
  | str (x : PySem.Str) : Rp K F (.str x) (.str x)
  | lst {a : Addr} {vs : List V} {ds : List D} : F a = some (.lst vs) → RpL K F vs ds → Rp K F (.ref a) (.lst ds)
  | sq {a : Addr} {vs : List V} {ds : List D} : SqL K F a vs → RpL K F vs ds → Rp K F (.ref a) (.sq ds)
  | tup {a : Addr} {vs : List V} {ds : List D} : SqT K F a vs → RpL K F vs ds → Rp K F (.ref a) (.tup ds)
  | dic {a : Addr} {kvs : List (Key × V)} {kds : List (Key × D)} : Rd F a (.dK kvs) → RpK K F kvs kds → Rp K F (.ref a) (.dic kds)
  | obj {a dx C : Addr} {fvs : List (PySem.Str × V)} {fs : List (PySem.Str × D)} : F a = some (.ins C dx fvs) → F dx = some (.own a) → RpF K F fvs fs → Rp K F (.ref a) (.obj C fs)
  | exc {a : Addr} {cls : Value} : F a = some (ExH cls a) → Rp K F (.ref a) (.exc cls)
  | raw (v : V) : Rp K F v (.raw v)
inductive RpL (K : PySem.W.Frag) (F : Hp) : List V → List D → Prop
  | nil : RpL K F [] []
  | cons {v : V} {d : D} {vs : List V} {ds : List D} : Rp K F v d → RpL K F vs ds → RpL K F (v :: vs) (d :: ds)
inductive RpK (K : PySem.W.Frag) (F : Hp) : List (Key × V) → List (Key × D) → Prop
  | nil : RpK K F [] []
  | cons {k : Key} {v : V} {d : D} {vs : List (Key × V)} {ds : List (Key × D)} : Rp K F v d → RpK K F vs ds → RpK K F ((k, v) :: vs) ((k, d) :: ds)
inductive RpF (K : PySem.W.Frag) (F : Hp) : List (PySem.Str × V) → List (PySem.Str × D) → Prop
  | nil : RpF K F [] []
  | cons {k : PySem.Str} {v : V} {d : D} {vs : List (PySem.Str × V)} {ds : List (PySem.Str × D)} : Rp K F v d → RpF K F vs ds → RpF K F ((k, v) :: vs) ((k, d) :: ds)
end
/-! ### heaps -/
def emp : Hp := fun _ => none
def Dj (a b : Hp) : Prop := ∀ x, a x = none ∨ b x = none
def jn (a b : Hp) : Hp := fun x => match a x with | some o => some o | none => b x
theorem jn_none {a b : Hp} {x : Addr} : jn a b x = none ↔ a x = none ∧ b x = none := by
  unfold jn
  cases h : a x <;> simp
theorem jn_l {a b : Hp} {x : Addr} {o : HO} (h : a x = some o) : jn a b x = some o := by unfold jn; rw [h]
theorem jn_r {a b : Hp} {x : Addr} (h : a x = none) : jn a b x = b x := by unfold jn; rw [h]
theorem jn_some {a b : Hp} {x : Addr} {o : HO} (h : jn a b x = some o) : a x = some o ∨ (a x = none ∧ b x = some o) := by
  unfold jn at h
  cases q : a x with
  | none => rw [q] at h; exact .inr ⟨rfl, h⟩
  | some u => rw [q] at h; exact .inl h
theorem Dj.symm {a b : Hp} (h : Dj a b) : Dj b a := fun x => (h x).symm
theorem Dj.emp_l {a : Hp} : Dj emp a := fun _ => .inl rfl
theorem Dj.emp_r {a : Hp} : Dj a emp := fun _ => .inr rfl
theorem Dj.jn_l {a b c : Hp} (h1 : Dj a c) (h2 : Dj b c) : Dj (jn a b) c := fun x => by
  rcases h1 x with h | h
  · rcases h2 x with q | q
    · exact .inl (jn_none.mpr ⟨h, q⟩)
    · exact .inr q
  · exact .inr h
theorem Dj.jn_r {a b c : Hp} (h1 : Dj c a) (h2 : Dj c b) : Dj c (jn a b) := (Dj.jn_l h1.symm h2.symm).symm
theorem Dj.of_jn_l {a b c : Hp} (h : Dj (jn a b) c) : Dj a c := fun x => by
  rcases h x with q | q
  · exact .inl (jn_none.mp q).1
  · exact .inr q
theorem Dj.of_jn_r {a b c : Hp} (h : Dj (jn a b) c) : Dj b c := fun x => by
  rcases h x with q | q
  · exact .inl (jn_none.mp q).2
  · exact .inr q
theorem Dj.sub {a b a' : Hp} (h : Dj a b) (s : Same a' a) : Dj a' b := fun x => by
  cases q : a' x with
  | none => exact .inl rfl
  | some o =>
    rcases h x with z | z
    · rw [s _ _ q] at z; cases z
    · exact .inr z
theorem Dj.none {a b : Hp} (h : Dj a b) {x : Addr} {o : HO} (e : a x = some o) : b x = Option.none := by
  rcases h x with q | q
  · rw [e] at q; cases q
  · exact q
theorem Same.jn_l {a b : Hp} : Same a (jn a b) := fun _ _ e => M.jn_l e
theorem Same.jn_r {a b : Hp} (h : Dj a b) : Same b (jn a b) := fun x o e => by
  rw [M.jn_r (h.symm.none e)]; exact e
theorem Same.jn {a b H : Hp} (h1 : Same a H) (h2 : Same b H) : Same (jn a b) H := fun x o e => by
  rcases jn_some e with q | ⟨_, q⟩
  · exact h1 _ _ q
  · exact h2 _ _ q
theorem Same.emp {H : Hp} : Same emp H := fun _ _ e => nomatch (show (Option.none : Option HO) = some _ from e)
theorem same_new {H : Hp} {p : Addr} {o : HO} (h : H p = none) : Same H (upd H p o) := fun b x e => by
  rw [upd_ne (ne_of_none e h)]; exact e
theorem jn_comm {a b : Hp} (h : Dj a b) : jn a b = jn b a := by
  funext x
  unfold jn
  rcases h x with q | q
  · rw [q]; cases b x <;> rfl
  · rw [q]; cases a x <;> rfl
theorem jn_assoc {a b c : Hp} : jn (jn a b) c = jn a (jn b c) := by
  funext x
  unfold jn
  cases a x <;> rfl
theorem jn_emp {a : Hp} : jn a emp = a := by
  funext x
  unfold jn emp
  cases a x <;> rfl
theorem emp_jn {a : Hp} : jn emp a = a := by
  funext x
  rfl
theorem jn_upd_l {a b : Hp} {p : Addr} {o : HO} : upd (jn a b) p o = jn (upd a p o) b := by
  funext x
  unfold upd jn
  by_cases h : x = p
  · simp [h]
  · simp [h]
theorem jn_upd_r {a b : Hp} {p : Addr} {o : HO} (h : a p = none) : upd (jn a b) p o = jn a (upd b p o) := by
  funext x
  unfold upd jn
  by_cases hx : x = p
  · subst hx; simp [h]
  · simp [hx]
theorem Dj.upd {a b : Hp} {p : Addr} {o : HO} (h : Dj a b) (hb : b p = Option.none) : Dj (L2.upd a p o) b := fun x => by
  by_cases hx : x = p
  · subst hx; exact .inr hb
  · rw [upd_ne hx]; exact h x
theorem Dj.of_upd {a b : Hp} {p : Addr} {o : HO} (h : Dj (L2.upd a p o) b) : b p = Option.none := h.none upd_same
theorem Dj.un_upd {a b : Hp} {p : Addr} {o : HO} (h : Dj (L2.upd a p o) b) (ha : a p = Option.none) : Dj a b := h.sub (same_new ha)
/-- known of a is known of b, but for a lock -/
def Le (F F' : Hp) : Prop := ∀ a o, F a = some o → F' a = some o ∨ (∃ ob kvs, o = .dK kvs ∧ F' a = some (.frz ob (.dK kvs))) ∨ ∃ ob kvs, o = .frz ob (.dK kvs) ∧ F' a = some (.dK kvs)
theorem Le.of {F F' : Hp} (h : Same F F') : Le F F' := fun a o e => .inl (h a o e)
theorem Le.rdL {F F' : Hp} (e : Le F F') {a : Addr} {xs : List V} (h : Rd F a (.lst xs)) : Rd F' a (.lst xs) := by
  rcases h with h | ⟨o, h⟩
  · rcases e _ _ h with q | ⟨_, _, q, _⟩ | ⟨_, _, q, _⟩
    · exact .inl q
    · cases q
    · cases q
  · rcases e _ _ h with q | ⟨_, _, q, _⟩ | ⟨_, _, q, _⟩
    · exact .inr ⟨o, q⟩
    · cases q
    · cases q
theorem Le.rdT {F F' : Hp} (e : Le F F') {a : Addr} {xs : List V} (h : Rd F a (.tup xs)) : Rd F' a (.tup xs) := by
  rcases h with h | ⟨o, h⟩
  · rcases e _ _ h with q | ⟨_, _, q, _⟩ | ⟨_, _, q, _⟩
    · exact .inl q
    · cases q
    · cases q
  · rcases e _ _ h with q | ⟨_, _, q, _⟩ | ⟨_, _, q, _⟩
    · exact .inr ⟨o, q⟩
    · cases q
    · cases q
theorem Le.rdD {F F' : Hp} (e : Le F F') {a : Addr} {kvs : List (Key × V)} (h : Rd F a (.dK kvs)) : Rd F' a (.dK kvs) := by
  rcases h with h | ⟨o, h⟩
  · rcases e _ _ h with q | ⟨ob, _, q, z⟩ | ⟨_, _, q, _⟩
    · exact .inl q
    · cases q; exact .inr ⟨ob, z⟩
    · cases q
  · rcases e _ _ h with q | ⟨_, _, q, _⟩ | ⟨_, _, q, z⟩
    · exact .inr ⟨o, q⟩
    · cases q
    · cases q; exact .inl z
theorem Le.sqL {K : PySem.W.Frag} {F F' : Hp} (e : Le F F') {a : Addr} {xs : List V} (h : SqL K F a xs) : SqL K F' a xs := by
  rcases h with h | h
  · exact .inl (e.rdL h)
  · exact .inr h
theorem Le.sqT {K : PySem.W.Frag} {F F' : Hp} (e : Le F F') {a : Addr} {xs : List V} (h : SqT K F a xs) : SqT K F' a xs := by
  rcases h with h | h
  · exact .inl (e.rdT h)
  · exact .inr h
theorem Le.ins {F F' : Hp} (e : Le F F') {a C dx : Addr} {fs : List (PySem.Str × V)} (h : F a = some (.ins C dx fs)) : F' a = some (.ins C dx fs) := by
  rcases e _ _ h with q | ⟨_, _, q, _⟩ | ⟨_, _, q, _⟩
  · exact q
  · cases q
  · cases q
theorem Le.lst {F F' : Hp} (e : Le F F') {a : Addr} {vs : List V} (h : F a = some (.lst vs)) : F' a = some (.lst vs) := by
  rcases e _ _ h with q | ⟨_, _, q, _⟩ | ⟨_, _, q, _⟩
  · exact q
  · cases q
  · cases q
theorem Le.own {F F' : Hp} (e : Le F F') {a x : Addr} (h : F a = some (.own x)) : F' a = some (.own x) := by
  rcases e _ _ h with q | ⟨_, _, q, _⟩ | ⟨_, _, q, _⟩
  · exact q
  · cases q
  · cases q
theorem Le.exh {F F' : Hp} (e : Le F F') {a x : Addr} {c : Value} (h : F a = some (ExH c x)) : F' a = some (ExH c x) := by
  rcases e _ _ h with q | ⟨_, _, q, _⟩ | ⟨_, _, q, _⟩
  · exact q
  · cases q
  · cases q
mutual
theorem Rp.le {K : PySem.W.Frag} {F F' : Hp} (e : Le F F') : ∀ {v : V} {d : D}, Rp K F v d → Rp K F' v d
  | _, _, .non => .non
  | _, _, .bl b => .bl b
  | _, _, .int i => .int i
  | _, _, .str x => .str x
  | _, _, .lst h r => .lst (e.lst h) (RpL.le e r)
  | _, _, .sq h r => .sq (e.sqL h) (RpL.le e r)
  | _, _, .tup h r => .tup (e.sqT h) (RpL.le e r)
  | _, _, .dic h r => .dic (e.rdD h) (RpK.le e r)
  | _, _, .obj h g r => .obj (e.ins h) (e.own g) (RpF.le e r)
  | _, _, .exc h => .exc (e.exh h)
  | _, _, .raw v => .raw v
theorem RpL.le {K : PySem.W.Frag} {F F' : Hp} (e : Le F F') : ∀ {v : List V} {d : List D}, RpL K F v d → RpL K F' v d
  | _, _, .nil => .nil
  | _, _, .cons h r => .cons (Rp.le e h) (RpL.le e r)
theorem RpK.le {K : PySem.W.Frag} {F F' : Hp} (e : Le F F') : ∀ {v : List (Key × V)} {d : List (Key × D)}, RpK K F v d → RpK K F' v d
  | _, _, .nil => .nil
  | _, _, .cons h r => .cons (Rp.le e h) (RpK.le e r)
theorem RpF.le {K : PySem.W.Frag} {F F' : Hp} (e : Le F F') : ∀ {v : List (PySem.Str × V)} {d : List (PySem.Str × D)}, RpF K F v d → RpF K F' v d
  | _, _, .nil => .nil
  | _, _, .cons h r => .cons (Rp.le e h) (RpF.le e r)
end
theorem Rp.up {K : PySem.W.Frag} {F F' : Hp} {v : V} {d : D} (h : Rp K F v d) (e : Same F F') : Rp K F' v d := Rp.le (Le.of e) h
theorem RpL.up {K : PySem.W.Frag} {F F' : Hp} {v : List V} {d : List D} (h : RpL K F v d) (e : Same F F') : RpL K F' v d := RpL.le (Le.of e) h
theorem RpK.up {K : PySem.W.Frag} {F F' : Hp} {v : List (Key × V)} {d : List (Key × D)} (h : RpK K F v d) (e : Same F F') : RpK K F' v d := RpK.le (Le.of e) h
theorem RpF.up {K : PySem.W.Frag} {F F' : Hp} {v : List (PySem.Str × V)} {d : List (PySem.Str × D)} (h : RpF K F v d) (e : Same F F') : RpF K F' v d := RpF.le (Le.of e) h
/-! ### owned trees -/
inductive T where
  | lf (d : D)
  | lst (ts : List T)
  | dic (kvs : List (Key × T))
  | obj (C : Addr) (fs : List (PySem.Str × T))
mutual
inductive OwT (K : PySem.W.Frag) (F : Hp) : V → Hp → T → Prop
  | lf {v : V} {d : D} : Rp K F v d → OwT K F v emp (.lf d)
  | lst {p : Addr} {vs : List V} {h : Hp} {ts : List T} : OwL K F vs h ts → h p = none → OwT K F (.ref p) (upd h p (.lst vs)) (.lst ts)
  | dic {p : Addr} {kvs : List (Key × V)} {h : Hp} {kts : List (Key × T)} : OwK K F kvs h kts → h p = none → OwT K F (.ref p) (upd h p (.dK kvs)) (.dic kts)
  | obj {p dx C : Addr} {fvs : List (PySem.Str × V)} {h : Hp} {fts : List (PySem.Str × T)} : OwF K F fvs h fts → h p = none → h dx = none → dx ≠ p → OwT K F (.ref p) (upd (upd h dx (.own p)) p (.ins C dx fvs)) (.obj C fts)
inductive OwL (K : PySem.W.Frag) (F : Hp) : List V → Hp → List T → Prop
  | nil : OwL K F [] emp []
  | cons {v : V} {vs : List V} {h1 h2 : Hp} {t : T} {ts : List T} : OwT K F v h1 t → OwL K F vs h2 ts → Dj h1 h2 → OwL K F (v :: vs) (jn h1 h2) (t :: ts)
inductive OwK (K : PySem.W.Frag) (F : Hp) : List (Key × V) → Hp → List (Key × T) → Prop
  | nil : OwK K F [] emp []
  | cons {k : Key} {v : V} {vs : List (Key × V)} {h1 h2 : Hp} {t : T} {ts : List (Key × T)} : OwT K F v h1 t → OwK K F vs h2 ts → Dj h1 h2 → OwK K F ((k, v) :: vs) (jn h1 h2) ((k, t) :: ts)
inductive OwF (K : PySem.W.Frag) (F : Hp) : List (PySem.Str × V) → Hp → List (PySem.Str × T) → Prop
  | nil : OwF K F [] emp []
  | cons {k : PySem.Str} {v : V} {vs : List (PySem.Str × V)} {h1 h2 : Hp} {t : T} {ts : List (PySem.Str × T)} : OwT K F v h1 t → OwF K F vs h2 ts → Dj h1 h2 → OwF K F ((k, v) :: vs) (jn h1 h2) ((k, t) :: ts)
end
mutual
theorem OwT.le {K : PySem.W.Frag} {F F' : Hp} (e : Le F F') : ∀ {v : V} {h : Hp} {t : T}, OwT K F v h t → OwT K F' v h t
  | _, _, _, .lf r => .lf (r.le e)
  | _, _, _, .lst r n => .lst (OwL.le e r) n
  | _, _, _, .dic r n => .dic (OwK.le e r) n
  | _, _, _, .obj r n m q => .obj (OwF.le e r) n m q
theorem OwL.le {K : PySem.W.Frag} {F F' : Hp} (e : Le F F') : ∀ {v : List V} {h : Hp} {t : List T}, OwL K F v h t → OwL K F' v h t
  | _, _, _, .nil => .nil
  | _, _, _, .cons r s d => .cons (OwT.le e r) (OwL.le e s) d
theorem OwK.le {K : PySem.W.Frag} {F F' : Hp} (e : Le F F') : ∀ {v : List (Key × V)} {h : Hp} {t : List (Key × T)}, OwK K F v h t → OwK K F' v h t
  | _, _, _, .nil => .nil
  | _, _, _, .cons r s d => .cons (OwT.le e r) (OwK.le e s) d
theorem OwF.le {K : PySem.W.Frag} {F F' : Hp} (e : Le F F') : ∀ {v : List (PySem.Str × V)} {h : Hp} {t : List (PySem.Str × T)}, OwF K F v h t → OwF K F' v h t
  | _, _, _, .nil => .nil
  | _, _, _, .cons r s d => .cons (OwT.le e r) (OwF.le e s) d
end
/-! ### what the slots hold -/
inductive MV where
  | un
  | fz (d : D)
  | ot (p : Addr) (t : T)
inductive OwS (K : PySem.W.Frag) (F : Hp) : List MV → List (Option V) → Hp → Prop
  | nil : OwS K F [] [] emp
  | un {ms : List MV} {o : Option V} {σ : List (Option V)} {h : Hp} : OwS K F ms σ h → OwS K F (.un :: ms) (o :: σ) h
  | fz {ms : List MV} {v : V} {d : D} {σ : List (Option V)} {h : Hp} : Rp K F v d → OwS K F ms σ h → OwS K F (.fz d :: ms) (some v :: σ) h
  | ot {ms : List MV} {p : Addr} {t : T} {σ : List (Option V)} {h1 h2 : Hp} : OwT K F (.ref p) h1 t → OwS K F ms σ h2 → Dj h1 h2 → OwS K F (.ot p t :: ms) (some (.ref p) :: σ) (jn h1 h2)
theorem OwS.le {K : PySem.W.Frag} {F F' : Hp} (e : Le F F') {ms : List MV} {σ : List (Option V)} {h : Hp} (x : OwS K F ms σ h) : OwS K F' ms σ h := by
  induction x with
  | nil => exact .nil
  | un _ ih => exact .un ih
  | fz r _ ih => exact .fz (r.le e) ih
  | ot r _ d ih => exact .ot (r.le e) ih d
theorem OwS.up {K : PySem.W.Frag} {F F' : Hp} {ms : List MV} {σ : List (Option V)} {h : Hp} (x : OwS K F ms σ h) (e : Same F F') : OwS K F' ms σ h := x.le (Le.of e)
theorem OwS.length {K : PySem.W.Frag} {F : Hp} {ms : List MV} {σ : List (Option V)} {h : Hp} (x : OwS K F ms σ h) : ms.length = σ.length := by
  induction x with
  | nil => rfl
  | un _ ih => simp [ih]
  | fz _ _ ih => simp [ih]
  | ot _ _ _ ih => simp [ih]
theorem OwS.join {K : PySem.W.Frag} {F : Hp} {a b : List MV} {s t : List (Option V)} {h1 h2 : Hp} (x : OwS K F a s h1) (y : OwS K F b t h2) (d : Dj h1 h2) : OwS K F (a ++ b) (s ++ t) (jn h1 h2) := by
  induction x with
  | nil => rw [emp_jn]; exact y
  | un _ ih => exact .un (ih d)
  | fz r _ ih => exact .fz r (ih d)
  | ot r _ e ih =>
    rw [jn_assoc]
    exact .ot r (ih d.of_jn_r) (e.jn_r d.of_jn_l)
theorem OwS.split {K : PySem.W.Frag} {F : Hp} : ∀ {a b : List MV} {s t : List (Option V)} {h : Hp}, a.length = s.length → OwS K F (a ++ b) (s ++ t) h → ∃ h1 h2, OwS K F a s h1 ∧ OwS K F b t h2 ∧ Dj h1 h2 ∧ h = jn h1 h2
  | [], b, [], t, h, _, x => ⟨emp, h, .nil, x, Dj.emp_l, emp_jn.symm⟩
  | [], _, _ :: _, _, _, e, _ => by simp at e
  | _ :: _, _, [], _, _, e, _ => by simp at e
  | m :: a, b, o :: s, t, h, e, x => by
    have e' : a.length = s.length := by simpa using e
    cases x with
    | un y =>
      obtain ⟨h1, h2, p, q, d, r⟩ := OwS.split e' y
      exact ⟨h1, h2, .un p, q, d, r⟩
    | fz w y =>
      obtain ⟨h1, h2, p, q, d, r⟩ := OwS.split e' y
      exact ⟨h1, h2, .fz w p, q, d, r⟩
    | ot w y dd =>
      obtain ⟨h1, h2, p, q, d, r⟩ := OwS.split e' y
      rename_i g1 g2
      subst r
      refine ⟨jn g1 h1, h2, .ot w p (dd.symm.of_jn_l).symm, q, ?_, jn_assoc.symm⟩
      exact Dj.jn_l (dd.symm.of_jn_r).symm d
end M
namespace M
open PySem L2
/-! ### the state: G is kept, F is known for good, the slots own the rest -/
structure St (K : PySem.W.Frag) (G F H : Hp) (ms : List MV) (σ : List (Option V)) : Prop where
  g : Same G H
  f : Same F H
  fg : Dj F G
  own : ∃ h, OwS K F ms σ h ∧ Same h H ∧ Dj h F ∧ Dj h G
/-- new things only -/
inductive Gr (F H : Hp) : Hp → Hp → Prop
  | refl : Gr F H F H
  | new {F1 H1 : Hp} {p : Addr} {o : HO} : Gr F H F1 H1 → H1 p = none → Gr F H (upd F1 p o) (upd H1 p o)
section
variable {K : PySem.W.Frag} {G F H F' H' : Hp} {ms : List MV} {σ : List (Option V)}
theorem St.len (S : St K G F H ms σ) : ms.length = σ.length := by
  obtain ⟨h, x, _⟩ := S.own
  exact x.length
theorem St.new {p : Addr} {o : HO} (S : St K G F H ms σ) (hp : H p = none) : St K G (upd F p o) (upd H p o) ms σ := by
  have hF : F p = none := S.f.free hp
  have hG : G p = none := S.g.free hp
  obtain ⟨h, x, sh, d1, d2⟩ := S.own
  have hh : h p = none := sh.free hp
  refine ⟨S.g.trans (same_new hp), ?_, S.fg.upd hG, h, x.up (same_new hF), sh.trans (same_new hp), (d1.symm.upd hh).symm, d2⟩
  intro b u e
  by_cases hb : b = p
  · subst hb; rw [upd_same] at e ⊢; exact e
  · rw [upd_ne hb] at e ⊢; exact S.f _ _ e
theorem Gr.same (g : Gr F H F' H') (s : Same F H) : Same F F' ∧ Same H H' ∧ Same F' H' := by
  induction g with
  | refl => exact ⟨Same.refl _, Same.refl _, s⟩
  | new g hp ih =>
    rename_i F1 H1 p o
    obtain ⟨a, b, c⟩ := ih
    have hF : F1 p = none := c.free hp
    refine ⟨a.trans (same_new hF), b.trans (same_new hp), fun q u e => ?_⟩
    by_cases hq : q = p
    · subst hq; rw [upd_same] at e ⊢; exact e
    · rw [upd_ne hq] at e ⊢; exact c _ _ e
theorem St.gr (S : St K G F H ms σ) (g : Gr F H F' H') : St K G F' H' ms σ := by
  induction g with
  | refl => exact S
  | new g hp ih => exact ih.new hp
/-- an object that no one knows is owned by a new slot -/
theorem St.newOwn {p : Addr} {o : HO} {t : T} (S : St K G F H ms σ) (hp : H p = none) (ht : OwT K F (.ref p) (upd emp p o) t) : St K G F (upd H p o) (.ot p t :: ms) (some (.ref p) :: σ) := by
  have hF : F p = none := S.f.free hp
  have hG : G p = none := S.g.free hp
  obtain ⟨h, x, sh, d1, d2⟩ := S.own
  have hh : h p = none := sh.free hp
  have dj : Dj (upd emp p o) h := Dj.emp_l.upd hh
  refine ⟨S.g.trans (same_new hp), S.f.trans (same_new hp), S.fg, jn (upd emp p o) h, .ot ht x dj, ?_, Dj.jn_l (Dj.emp_l.upd hF) d1, Dj.jn_l (Dj.emp_l.upd hG) d2⟩
  refine Same.jn (fun b u e => ?_) (sh.trans (same_new hp))
  by_cases hb : b = p
  · subst hb; rw [upd_same] at e ⊢; exact e
  · rw [upd_ne hb] at e; cases e
theorem OwS.get {h : Hp} {i : Nat} {d : D} (x : OwS K F ms σ h) (e : ms[i]? = some (.fz d)) : ∃ v, σ[i]? = some (some v) ∧ Rp K F v d := by
  induction x generalizing i with
  | nil => simp at e
  | un _ ih =>
    cases i with
    | zero => simp at e
    | succ i => simpa using ih (by simpa using e)
  | fz r _ ih =>
    cases i with
    | zero => simp at e; subst e; exact ⟨_, rfl, r⟩
    | succ i => simpa using ih (by simpa using e)
  | ot _ _ _ ih =>
    cases i with
    | zero => simp at e
    | succ i => simpa using ih (by simpa using e)
theorem OwS.getO {h : Hp} {i : Nat} {p : Addr} {t : T} (x : OwS K F ms σ h) (e : ms[i]? = some (.ot p t)) : σ[i]? = some (some (.ref p)) := by
  induction x generalizing i with
  | nil => simp at e
  | un _ ih =>
    cases i with
    | zero => simp at e
    | succ i => simpa using ih (by simpa using e)
  | fz r _ ih =>
    cases i with
    | zero => simp at e
    | succ i => simpa using ih (by simpa using e)
  | ot _ _ _ ih =>
    cases i with
    | zero => simp at e; obtain ⟨rfl, rfl⟩ := e; rfl
    | succ i => simpa using ih (by simpa using e)
theorem St.get {i : Nat} {d : D} (S : St K G F H ms σ) (e : ms[i]? = some (.fz d)) : ∃ v, σ[i]? = some (some v) ∧ Rp K F v d := by
  obtain ⟨h, x, _⟩ := S.own
  exact x.get e
theorem St.getO {i : Nat} {p : Addr} {t : T} (S : St K G F H ms σ) (e : ms[i]? = some (.ot p t)) : σ[i]? = some (some (.ref p)) := by
  obtain ⟨h, x, _⟩ := S.own
  exact x.getO e
/-- one slot apart from the others -/
theorem OwS.focus {h : Hp} {i : Nat} {p : Addr} {t : T} (x : OwS K F ms σ h) (e : ms[i]? = some (.ot p t)) : ∃ h1 h2, h = jn h1 h2 ∧ Dj h1 h2 ∧ OwT K F (.ref p) h1 t ∧
    (∀ F' h1' t', Le F F' → OwT K F' (.ref p) h1' t' → Dj h1' h2 → OwS K F' (ms.set i (.ot p t')) σ (jn h1' h2)) ∧ (∀ F' d, Le F F' → Rp K F' (.ref p) d → OwS K F' (ms.set i (.fz d)) σ h2) := by
  induction x generalizing i with
  | nil => simp at e
  | un x ih =>
    cases i with
    | zero => simp at e
    | succ i =>
      obtain ⟨h1, h2, a, b, c, d, f⟩ := ih (i := i) (by simpa using e)
      exact ⟨h1, h2, a, b, c, fun F' h1' t' l o q => .un (d F' h1' t' l o q), fun F' dd l o => .un (f F' dd l o)⟩
  | fz r x ih =>
    cases i with
    | zero => simp at e
    | succ i =>
      obtain ⟨h1, h2, a, b, c, d, f⟩ := ih (i := i) (by simpa using e)
      exact ⟨h1, h2, a, b, c, fun F' h1' t' l o q => .fz (r.le l) (d F' h1' t' l o q), fun F' dd l o => .fz (r.le l) (f F' dd l o)⟩
  | ot w x dj ih =>
    rename_i ms0 p0 t0 σ0 g1 g2
    cases i with
    | zero =>
      simp at e
      obtain ⟨rfl, rfl⟩ := e
      exact ⟨g1, g2, rfl, dj, w, fun F' h1' t' l o q => .ot o (x.le l) q, fun F' dd l o => .fz o (x.le l)⟩
    | succ i =>
      obtain ⟨h1, h2, a, b, c, d, f⟩ := ih (i := i) (by simpa using e)
      subst a
      have d1 : Dj g1 h1 := (dj.symm.of_jn_l).symm
      have d2 : Dj g1 h2 := (dj.symm.of_jn_r).symm
      refine ⟨h1, jn g1 h2, ?_, Dj.jn_r d1.symm b, c, fun F' h1' t' l o q => ?_, fun F' dd l o => ?_⟩
      · rw [← jn_assoc, jn_comm d1, jn_assoc]
      · have q1 : Dj g1 h1' := q.symm.of_jn_l
        have q2 : Dj h1' h2 := (q.symm.of_jn_r).symm
        have z := OwS.ot (w.le l) (d F' h1' t' l o q2) (Dj.jn_r q1 d2)
        rw [← jn_assoc, jn_comm q1, jn_assoc] at z
        exact z
      · exact .ot (w.le l) (f F' dd l o) d2
theorem OwS.drop {h : Hp} {m : MV} {o : Option V} (x : OwS K F (m :: ms) (o :: σ) h) : ∃ h', OwS K F ms σ h' ∧ Same h' h := by
  cases x with
  | un x => exact ⟨_, x, Same.refl _⟩
  | fz _ x => exact ⟨_, x, Same.refl _⟩
  | ot _ x d => exact ⟨_, x, Same.jn_r d⟩
theorem St.sub {ms' : List MV} {σ' : List (Option V)} (S : St K G F H ms σ) (k : ∀ h, OwS K F ms σ h → ∃ h', OwS K F ms' σ' h' ∧ Same h' h) : St K G F H ms' σ' := by
  obtain ⟨h, x, sh, d1, d2⟩ := S.own
  obtain ⟨h', x', s'⟩ := k h x
  exact ⟨S.g, S.f, S.fg, h', x', s'.trans sh, d1.sub s', d2.sub s'⟩
theorem St.tail {m : MV} {o : Option V} (S : St K G F H (m :: ms) (o :: σ)) : St K G F H ms σ := S.sub fun _ x => x.drop
theorem St.pushF {v : V} {d : D} (S : St K G F H ms σ) (r : Rp K F v d) : St K G F H (.fz d :: ms) (some v :: σ) := S.sub fun h x => ⟨h, .fz r x, Same.refl _⟩
theorem St.headF {v : V} {d : D} (S : St K G F H (.fz d :: ms) (some v :: σ)) : Rp K F v d := by
  obtain ⟨h, x, _⟩ := S.own
  cases x with
  | fz r _ => exact r
theorem St.headO {v : V} {p : Addr} {t : T} (S : St K G F H (.ot p t :: ms) (some v :: σ)) : v = .ref p := by
  obtain ⟨h, x, _⟩ := S.own
  cases x with
  | ot _ _ _ => rfl
/-- the first goes to the place i -/
theorem OwS.move {m : MV} {o : Option V} : ∀ {ms : List MV} {σ : List (Option V)} {h : Hp} (i : Nat), OwS K F (m :: ms) (o :: σ) h → ∃ h', OwS K F (ms.set i m) (σ.set i o) h' ∧ Same h' h
  | [], σ, h, i, x => by
    obtain ⟨h', y, s⟩ := x.drop
    cases y
    exact ⟨emp, .nil, s⟩
  | m0 :: ms, σ, h, 0, x => by
    cases x with
    | un y =>
      cases σ with
      | nil => exact absurd y.length (by simp)
      | cons o0 σ =>
        obtain ⟨h', z, s⟩ := y.drop
        exact ⟨h', .un z, s⟩
    | fz r y =>
      cases σ with
      | nil => exact absurd y.length (by simp)
      | cons o0 σ =>
        obtain ⟨h', z, s⟩ := y.drop
        exact ⟨h', .fz r z, s⟩
    | ot r y d =>
      cases σ with
      | nil => exact absurd y.length (by simp)
      | cons o0 σ =>
        obtain ⟨h', z, s⟩ := y.drop
        refine ⟨_, .ot r z (d.symm.sub s).symm, ?_⟩
        exact Same.jn Same.jn_l (s.trans (Same.jn_r d))
  | m0 :: ms, σ, h, i + 1, x => by
    -- the pair m, m0 is turned
    have sw : ∃ o0 σ0 g, σ = o0 :: σ0 ∧ OwS K F (m0 :: m :: ms) (o0 :: o :: σ0) g ∧ Same g h := by
      cases x with
      | un y =>
        cases y with
        | un z => exact ⟨_, _, _, rfl, .un (.un z), Same.refl _⟩
        | fz r z => exact ⟨_, _, _, rfl, .fz r (.un z), Same.refl _⟩
        | ot r z d => exact ⟨_, _, _, rfl, .ot r (.un z) d, Same.refl _⟩
      | fz r' y =>
        cases y with
        | un z => exact ⟨_, _, _, rfl, .un (.fz r' z), Same.refl _⟩
        | fz r z => exact ⟨_, _, _, rfl, .fz r (.fz r' z), Same.refl _⟩
        | ot r z d => exact ⟨_, _, _, rfl, .ot r (.fz r' z) d, Same.refl _⟩
      | ot r' y d' =>
        cases y with
        | un z => exact ⟨_, _, _, rfl, .un (.ot r' z d'), Same.refl _⟩
        | fz r z => exact ⟨_, _, _, rfl, .fz r (.ot r' z d'), Same.refl _⟩
        | ot r z d =>
          have e1 := (d'.symm.of_jn_l).symm
          have e2 := (d'.symm.of_jn_r).symm
          refine ⟨_, _, _, rfl, .ot r (.ot r' z e2) (Dj.jn_r e1.symm d), ?_⟩
          rw [← jn_assoc, jn_comm e1.symm, jn_assoc]
          exact Same.refl _
    obtain ⟨o0, σ0, g, rfl, y, s⟩ := sw
    cases y with
    | un z =>
      obtain ⟨h', w, s'⟩ := OwS.move i z
      exact ⟨h', .un w, s'.trans s⟩
    | fz r z =>
      obtain ⟨h', w, s'⟩ := OwS.move i z
      exact ⟨h', .fz r w, s'.trans s⟩
    | ot r z d =>
      obtain ⟨h', w, s'⟩ := OwS.move i z
      exact ⟨_, .ot r w (d.symm.sub s').symm, (Same.jn Same.jn_l (s'.trans (Same.jn_r d))).trans s⟩
theorem St.move {m : MV} {o : Option V} (S : St K G F H (m :: ms) (o :: σ)) (i : Nat) : St K G F H (ms.set i m) (σ.set i o) := S.sub fun _ x => x.move i
theorem St.setF {v : V} {d : D} (S : St K G F H ms σ) (r : Rp K F v d) (i : Nat) : St K G F H (ms.set i (.fz d)) (σ.set i (some v)) := (S.pushF r).move i
theorem St.setU {o : Option V} (S : St K G F H ms σ) (i : Nat) : St K G F H (ms.set i .un) (σ.set i o) := (S.sub (ms' := .un :: ms) (σ' := o :: σ) fun h x => ⟨h, .un x, Same.refl _⟩).move i
/-- some of it is lent: the rest is kept -/
theorem St.lend {a b : List MV} {s t : List (Option V)} (hl : a.length = s.length) (S : St K G F H (a ++ b) (s ++ t)) :
    ∃ G', St K G' F H a s ∧ ∀ F1 H1 a' s', Same F F1 → St K G' F1 H1 a' s' → St K G F1 H1 (a' ++ b) (s' ++ t) := by
  obtain ⟨h, x, sh, d1, d2⟩ := S.own
  obtain ⟨h1, h2, x1, x2, dj, rfl⟩ := x.split hl
  have s1 : Same h1 H := Same.jn_l.trans sh
  have s2 : Same h2 H := (Same.jn_r dj).trans sh
  refine ⟨jn G h2, ⟨Same.jn S.g s2, S.f, Dj.jn_r S.fg d1.of_jn_r.symm, h1, x1, s1, d1.of_jn_l, Dj.jn_r d2.of_jn_l dj⟩, fun F1 H1 a' s' e S1 => ?_⟩
  obtain ⟨h1', y, sy, e1, e2⟩ := S1.own
  have gh : Dj G h2 := d2.of_jn_r.symm
  have c1 : Dj F1 G := (S1.fg.symm.of_jn_l).symm
  have c2 : Dj F1 h2 := (S1.fg.symm.of_jn_r).symm
  have c3 : Dj h1' h2 := (e2.symm.of_jn_r).symm
  have c4 : Dj h1' G := (e2.symm.of_jn_l).symm
  exact ⟨Same.jn_l.trans S1.g, S1.f, c1, jn h1' h2, y.join (x2.up e) c3, Same.jn sy ((Same.jn_r gh).trans S1.g), Dj.jn_l e1 c2.symm, Dj.jn_l c4 gh.symm⟩
end
end M
namespace M
open PySem L2
abbrev XP := Value → List MV → Prop
abbrev noX : XP := fun _ _ => False
section
variable (K : PySem.W.Frag) (n : Nat)
/-- an expression gives data d and leaves the slots ms': P d ms' -/
def wpD (te : WX → TE) (ms : List MV) (P : D → List MV → Prop) (X : XP) : Prop :=
  ∀ (W : WX) (G F H : Hp) (σ gv : List (Option V)) (Q : VK), σ.length = n → St K G F H ms (σ ++ gv) →
    (∀ d v ms' gv' F' H', P d ms' → St K G F' H' ms' (σ ++ gv') → Rp K F' v d → Same F F' → Q v H') →
    (∀ c ms' gv' F' H', X c ms' → St K G F' H' ms' (σ ++ gv') → Same F F' → W c none σ H') → te W σ H Q
/-- an expression gives a new owned thing -/
def wpN (te : WX → TE) (ms : List MV) (P : Addr → T → List MV → Prop) (X : XP) : Prop :=
  ∀ (W : WX) (G F H : Hp) (σ gv : List (Option V)) (Q : VK), σ.length = n → St K G F H ms (σ ++ gv) →
    (∀ p t ms' gv' F' H', P p t ms' → St K G F' H' (.ot p t :: ms') (some (.ref p) :: (σ ++ gv')) → Same F F' → Q (.ref p) H') →
    (∀ c ms' gv' F' H', X c ms' → St K G F' H' ms' (σ ++ gv') → Same F F' → W c none σ H') → te W σ H Q
def wpT (tt : WX → TT) (ms : List MV) (P : Bool → List MV → Prop) (X : XP) : Prop :=
  ∀ (W : WX) (G F H : Hp) (σ gv : List (Option V)) (Q : Bool → Hp → Prop), σ.length = n → St K G F H ms (σ ++ gv) →
    (∀ b ms' gv' F' H', P b ms' → St K G F' H' ms' (σ ++ gv') → Same F F' → Q b H') →
    (∀ c ms' gv' F' H', X c ms' → St K G F' H' ms' (σ ++ gv') → Same F F' → W c none σ H') → tt W σ H Q
def wpA (ta : WX → TA) (ms : List MV) (P : List D → List MV → Prop) (X : XP) : Prop :=
  ∀ (W : WX) (G F H : Hp) (σ gv : List (Option V)) (Q : List V → Hp → Prop), σ.length = n → St K G F H ms (σ ++ gv) →
    (∀ ds vs ms' gv' F' H', P ds ms' → St K G F' H' ms' (σ ++ gv') → RpL K F' vs ds → Same F F' → Q vs H') →
    (∀ c ms' gv' F' H', X c ms' → St K G F' H' ms' (σ ++ gv') → Same F F' → W c none σ H') → ta W σ H Q
def wpS (ts : WX → TS) (ms : List MV) (N : List MV → Prop) (R : MV → List MV → Prop) (X : XP) : Prop :=
  ∀ (W : WX) (G F H : Hp) (σ gv : List (Option V)) (E : Ends), σ.length = n → St K G F H ms (σ ++ gv) →
    (∀ ms' σ' gv' F' H', N ms' → σ'.length = n → St K G F' H' ms' (σ' ++ gv') → Same F F' → E.nx σ' H') →
    (∀ m v ms' σ' gv' F' H', R m ms' → σ'.length = n → St K G F' H' (m :: ms') (some v :: (σ' ++ gv')) → Same F F' → E.rt v H') →
    (∀ c ms' σ' gv' F' H', X c ms' → σ'.length = n → St K G F' H' ms' (σ' ++ gv') → Same F F' → W c none σ' H') → ts W E σ H
end
section
variable {K : PySem.W.Frag} {n : Nat} {ms : List MV} {X : XP}
/-! ### consequence -/
theorem wpD.mono {te : WX → TE} {P P' : D → List MV → Prop} {X' : XP} (h : wpD K n te ms P X) (hp : ∀ d ms', P d ms' → P' d ms') (hx : ∀ c ms', X c ms' → X' c ms') : wpD K n te ms P' X' :=
  fun W G F H σ gv Q hn S k x => h W G F H σ gv Q hn S (fun d v ms' gv' F' H' p => k d v ms' gv' F' H' (hp _ _ p)) fun c ms' gv' F' H' p => x c ms' gv' F' H' (hx _ _ p)
theorem wpT.mono {te : WX → TT} {P P' : Bool → List MV → Prop} {X' : XP} (h : wpT K n te ms P X) (hp : ∀ d ms', P d ms' → P' d ms') (hx : ∀ c ms', X c ms' → X' c ms') : wpT K n te ms P' X' :=
  fun W G F H σ gv Q hn S k x => h W G F H σ gv Q hn S (fun d ms' gv' F' H' p => k d ms' gv' F' H' (hp _ _ p)) fun c ms' gv' F' H' p => x c ms' gv' F' H' (hx _ _ p)
theorem wpS.mono {ts : WX → TS} {N N' : List MV → Prop} {R R' : MV → List MV → Prop} {X' : XP} (h : wpS K n ts ms N R X) (hn : ∀ ms', N ms' → N' ms') (hr : ∀ m ms', R m ms' → R' m ms') (hx : ∀ c ms', X c ms' → X' c ms') : wpS K n ts ms N' R' X' :=
  fun W G F H σ gv E hl S k r x => h W G F H σ gv E hl S (fun ms' σ' gv' F' H' p => k ms' σ' gv' F' H' (hn _ p)) (fun m v ms' σ' gv' F' H' p => r m v ms' σ' gv' F' H' (hr _ _ p)) fun c ms' σ' gv' F' H' p => x c ms' σ' gv' F' H' (hx _ _ p)
/-! ### names, constants -/
theorem get_app {σ gv : List (Option V)} {i : Nat} {o : Option V} (hi : i < σ.length) (h : (σ ++ gv)[i]? = some o) : σ[i]? = some o := by
  rwa [List.getElem?_append_left hi] at h
theorem wd_var {i : Nat} {d : D} {P : D → List MV → Prop} (e : ms[i]? = some (.fz d)) (hi : i < n) (h : P d ms) : wpD K n (fun _ => tVar i) ms P X := by
  intro W G F H σ gv Q hn S k _
  obtain ⟨v, hv, r⟩ := S.get e
  exact ⟨v, get_app (by omega) hv, k d v ms gv F H h S r (Same.refl _)⟩
/-- the name of an owned thing -/
theorem wd_varO {i : Nat} {p : Addr} {t : T} {P : D → List MV → Prop} (e : ms[i]? = some (.ot p t)) (hi : i < n) (h : P (.raw (.ref p)) ms) : wpD K n (fun _ => tVar i) ms P X := by
  intro W G F H σ gv Q hn S k _
  have hv := S.getO e
  exact ⟨.ref p, get_app (by omega) hv, k _ _ ms gv F H h S (.raw _) (Same.refl _)⟩
theorem wd_c {v : V} {d : D} {P : D → List MV → Prop} (r : ∀ F, Rp K F v d) (h : P d ms) : wpD K n (fun _ => tC v) ms P X := by
  intro W G F H σ gv Q hn S k _
  exact k d v ms gv F H h S (r F) (Same.refl _)
theorem wd_int {i : Int} {P : D → List MV → Prop} (h : P (.int i) ms) : wpD K n (fun _ => tC (.int i)) ms P X := wd_c (fun _ => .int i) h
theorem wd_str {i : PySem.Str} {P : D → List MV → Prop} (h : P (.str i) ms) : wpD K n (fun _ => tC (.str i)) ms P X := wd_c (fun _ => .str i) h
theorem wd_bl {i : Bool} {P : D → List MV → Prop} (h : P (.bl i) ms) : wpD K n (fun _ => tC (.bl i)) ms P X := wd_c (fun _ => .bl i) h
theorem wd_non {P : D → List MV → Prop} (h : P .non ms) : wpD K n (fun _ => tC .non) ms P X := wd_c (fun _ => .non) h
/-! ### operations by values -/
def opD (K : PySem.W.Frag) (r : R2) (a b : D) (P : D → Prop) : Prop :=
  ∀ (x y : V) (F H : Hp) (Q : VK), Rp K F x a → Rp K F y b → Same F H → (∀ d v F' H', P d → Gr F H F' H' → Rp K F' v d → Q v H') → r x y H Q
def unD (K : PySem.W.Frag) (r : V → Hp → VK → Prop) (a : D) (P : D → Prop) : Prop :=
  ∀ (x : V) (F H : Hp) (Q : VK), Rp K F x a → Same F H → (∀ d v F' H', P d → Gr F H F' H' → Rp K F' v d → Q v H') → r x H Q
def cbD (K : PySem.W.Frag) (r : List V → Hp → VK → Prop) (as : List D) (P : D → Prop) : Prop :=
  ∀ (xs : List V) (F H : Hp) (Q : VK), RpL K F xs as → Same F H → (∀ d v F' H', P d → Gr F H F' H' → Rp K F' v d → Q v H') → r xs H Q
def bmD (K : PySem.W.Frag) (r : V → List V → Hp → VK → Prop) (a : D) (as : List D) (P : D → Prop) : Prop :=
  ∀ (x : V) (xs : List V) (F H : Hp) (Q : VK), Rp K F x a → RpL K F xs as → Same F H → (∀ d v F' H', P d → Gr F H F' H' → Rp K F' v d → Q v H') → r x xs H Q
theorem wd_op {r : R2} {ta tb : WX → TE} {P : D → List MV → Prop} (h : wpD K n ta ms (fun a m1 => wpD K n tb m1 (fun b m2 => opD K r a b fun d => P d m2) X) X) : wpD K n (fun W => tOp r (ta W) (tb W)) ms P X := by
  intro W G F H σ gv Q hn S k x
  refine h W G F H σ gv _ hn S (fun a v1 m1 g1 F1 H1 hb S1 r1 e1 => ?_) x
  refine hb W G F1 H1 σ g1 _ hn S1 (fun b v2 m2 g2 F2 H2 ho S2 r2 e2 => ?_) (fun c m g F' H' p S' e => x c m g F' H' p S' (e1.trans e))
  exact ho v1 v2 F2 H2 Q (r1.up e2) r2 S2.f fun d v F' H' p gr rd => k d v m2 g2 F' H' p (S2.gr gr) rd ((e1.trans e2).trans (gr.same S2.f).1)
theorem wd_un {r : V → Hp → VK → Prop} {ta : WX → TE} {P : D → List MV → Prop} (h : wpD K n ta ms (fun a m1 => unD K r a fun d => P d m1) X) : wpD K n (fun W => tUn r (ta W)) ms P X := by
  intro W G F H σ gv Q hn S k x
  refine h W G F H σ gv _ hn S (fun a v1 m1 g1 F1 H1 ho S1 r1 e1 => ?_) x
  exact ho v1 F1 H1 Q r1 S1.f fun d v F' H' p gr rd => k d v m1 g1 F' H' p (S1.gr gr) rd (e1.trans (gr.same S1.f).1)
theorem wd_chain {r r' : R2} {ta tb tc : WX → TE} {P : D → List MV → Prop}
    (h : wpD K n ta ms (fun a m1 => wpD K n tb m1 (fun b m2 => opD K r a b fun z => ∃ k, z = .bl k ∧ if k = true then wpD K n tc m2 (fun c m3 => opD K r' b c fun d => P d m3) X else P (.bl false) m2) X) X) :
    wpD K n (fun W => tChain r r' (ta W) (tb W) (tc W)) ms P X := by
  intro W G F H σ gv Q hn S k x
  refine h W G F H σ gv _ hn S (fun a v1 m1 g1 F1 H1 hb S1 r1 e1 => ?_) x
  refine hb W G F1 H1 σ g1 _ hn S1 (fun b v2 m2 g2 F2 H2 ho S2 r2 e2 => ?_) (fun c m g F' H' p S' e => x c m g F' H' p S' (e1.trans e))
  refine ho v1 v2 F2 H2 _ (r1.up e2) r2 S2.f fun z v F3 H3 p gr rd => ?_
  obtain ⟨b', rfl, hk⟩ := p
  cases rd
  have e3 := (gr.same S2.f).1
  refine ⟨b', rfl, ?_⟩
  cases b' with
  | false => 
    rw [if_neg Bool.false_ne_true] at hk ⊢
    exact k _ _ m2 g2 F3 H3 hk (S2.gr gr) (.bl _) ((e1.trans e2).trans e3)
  | true =>
    rw [if_pos rfl] at hk ⊢
    refine hk W G F3 H3 σ g2 _ hn (S2.gr gr) (fun c v3 m3 g3 F4 H4 ho' S4 r4 e4 => ?_) (fun c m g F' H' p S' e => x c m g F' H' p S' (((e1.trans e2).trans e3).trans e))
    exact ho' v2 v3 F4 H4 Q ((r2.up e3).up e4) r4 S4.f fun d v F' H' p gr' rd => k d v m3 g3 F' H' p (S4.gr gr') rd ((((e1.trans e2).trans e3).trans e4).trans (gr'.same S4.f).1)
/-! ### arguments -/
theorem wa_nil {P : List D → List MV → Prop} (h : P [] ms) : wpA K n (fun _ => tNil) ms P X := by
  intro W G F H σ gv Q hn S k _
  exact k [] [] ms gv F H h S .nil (Same.refl _)
theorem wa_cons {ta : WX → TE} {tr : WX → TA} {P : List D → List MV → Prop} (h : wpD K n ta ms (fun a m1 => wpA K n tr m1 (fun r m2 => P (a :: r) m2) X) X) : wpA K n (fun W => tCons (ta W) (tr W)) ms P X := by
  intro W G F H σ gv Q hn S k x
  refine h W G F H σ gv _ hn S (fun a v1 m1 g1 F1 H1 hb S1 r1 e1 => ?_) x
  refine hb W G F1 H1 σ g1 _ hn S1 (fun r vs m2 g2 F2 H2 p S2 r2 e2 => ?_) (fun c m g F' H' p S' e => x c m g F' H' p S' (e1.trans e))
  exact k (a :: r) (v1 :: vs) m2 g2 F2 H2 p S2 (.cons (r1.up e2) r2) (e1.trans e2)
theorem wd_cb {r : List V → Hp → VK → Prop} {ta : WX → TA} {P : D → List MV → Prop} (h : wpA K n ta ms (fun as m1 => cbD K r as fun d => P d m1) X) : wpD K n (fun W => tCB r (ta W)) ms P X := by
  intro W G F H σ gv Q hn S k x
  refine h W G F H σ gv _ hn S (fun as vs m1 g1 F1 H1 ho S1 r1 e1 => ?_) x
  exact ho vs F1 H1 Q r1 S1.f fun d v F' H' p gr rd => k d v m1 g1 F' H' p (S1.gr gr) rd (e1.trans (gr.same S1.f).1)
/-- a new tuple, a new list, known for good -/
theorem RpL.length {F : Hp} {vs : List V} {ds : List D} (h : RpL K F vs ds) : vs.length = ds.length := by
  induction vs generalizing ds with
  | nil => cases h; rfl
  | cons v vs ih =>
    cases h with
    | cons _ r => simp [ih r]
theorem wd_tup {ta : WX → TA} {P : D → List MV → Prop} (h : wpA K n ta ms (fun as m1 => as.length ≤ 1000000 ∧ P (.tup as) m1) X) : wpD K n (fun W => tTup (ta W)) ms P X := by
  intro W G F H σ gv Q hn S k x
  refine h W G F H σ gv _ hn S (fun as vs m1 g1 F1 H1 ho S1 r1 e1 => ?_) x
  refine ⟨?_, fun p hp => ?_⟩
  · rw [r1.length]
    have := ho.1
    rw [sizeLine_eq]; omega
  · have nF := S1.f.free hp
    exact k _ _ m1 g1 _ _ ho.2 (S1.new hp) (.tup (SqT.of upd_same) (r1.up (same_new nF))) (e1.trans (same_new nF))
theorem wd_lst {ta : WX → TA} {P : D → List MV → Prop} (h : wpA K n ta ms (fun as m1 => as.length ≤ 1000000 ∧ P (.lst as) m1) X) : wpD K n (fun W => tLst (ta W)) ms P X := by
  intro W G F H σ gv Q hn S k x
  refine h W G F H σ gv _ hn S (fun as vs m1 g1 F1 H1 ho S1 r1 e1 => ?_) x
  refine ⟨?_, fun p hp => ?_⟩
  · rw [r1.length]
    have := ho.1
    rw [sizeLine_eq]; omega
  · have nF := S1.f.free hp
    exact k _ _ m1 g1 _ _ ho.2 (S1.new hp) (.lst upd_same (r1.up (same_new nF))) (e1.trans (same_new nF))
/-- a new list, owned -/
theorem owL_of {F : Hp} {vs : List V} {ds : List D} (h : RpL K F vs ds) : OwL K F vs emp (ds.map .lf) := by
  induction vs generalizing ds with
  | nil => cases h; exact .nil
  | cons v vs ih =>
    cases h with
    | cons r t =>
      have z := OwL.cons (OwT.lf r) (ih t) Dj.emp_l
      rw [emp_jn] at z
      exact z
theorem wn_lst {ta : WX → TA} {P : Addr → T → List MV → Prop} (h : wpA K n ta ms (fun as m1 => as.length ≤ 1000000 ∧ ∀ p, P p (.lst (as.map .lf)) m1) X) : wpN K n (fun W => tLst (ta W)) ms P X := by
  intro W G F H σ gv Q hn S k x
  refine h W G F H σ gv _ hn S (fun as vs m1 g1 F1 H1 ho S1 r1 e1 => ?_) x
  refine ⟨?_, fun p hp => ?_⟩
  · rw [r1.length]
    have := ho.1
    rw [sizeLine_eq]; omega
  · exact k _ _ m1 g1 _ _ (ho.2 p) (S1.newOwn hp (.lst (owL_of r1) rfl)) e1
/-! ### tests -/
theorem wt_test {te : WX → TE} {P : Bool → List MV → Prop} (h : wpD K n te ms (fun d m1 => ∃ b, d = .bl b ∧ P b m1) X) : wpT K n (fun W => tTest (te W)) ms P X := by
  intro W G F H σ gv Q hn S k x
  refine h W G F H σ gv _ hn S (fun d v m1 g1 F1 H1 ho S1 r1 e1 => ?_) x
  obtain ⟨b, rfl, p⟩ := ho
  cases r1
  exact ⟨b, rfl, k b m1 g1 F1 H1 p S1 e1⟩
theorem wt_B {te : WX → TE} {P : Bool → List MV → Prop} (h : wpD K n te ms (fun d m1 => ∃ b, d = .bl b ∧ P b m1) X) : wpT K n (fun W => tB (te W)) ms P X := by
  intro W G F H σ gv Q hn S k x
  refine h W G F H σ gv _ hn S (fun d v m1 g1 F1 H1 ho S1 r1 e1 => ?_) x
  obtain ⟨b, rfl, p⟩ := ho
  cases r1
  exact ⟨b, rfl, k b m1 g1 F1 H1 p S1 e1⟩
/-- the truth of data -/
def tru : D → Option Bool
  | .non => some false
  | .bl b => some b
  | .int i => some (i != 0)
  | .lst ds => some (!ds.isEmpty)
  | .sq ds => some (!ds.isEmpty)
  | .tup ds => some (!ds.isEmpty)
  | _ => none
abbrev tTru (K : PySem.W.Frag) (ta : TE) : TT := fun σ H Q => ta σ H fun x H' => ∃ k, TruV K x H' k ∧ Q k H'
theorem wt_tru {te : WX → TE} {P : Bool → List MV → Prop} (h : wpD K n te ms (fun d m1 => ∃ b, tru d = some b ∧ P b m1) X) : wpT K n (fun W => tTru K (te W)) ms P X := by
  intro W G F H σ gv Q hn S k x
  refine h W G F H σ gv _ hn S (fun d v m1 g1 F1 H1 ho S1 r1 e1 => ?_) x
  obtain ⟨b, eb, p⟩ := ho
  refine ⟨b, ?_, k b m1 g1 F1 H1 p S1 e1⟩
  cases r1 with
  | non => cases eb; rfl
  | bl b => cases eb; rfl
  | int i => cases eb; rfl
  | lst hs r =>
    cases eb
    refine .inl ⟨_, SqL.of (S1.f _ _ hs), ?_⟩
    cases r <;> rfl
  | sq hs r =>
    cases eb
    refine .inl ⟨_, S1.f.seq hs, ?_⟩
    cases r <;> rfl
  | tup hs r =>
    cases eb
    refine .inr (.inl ⟨_, (Le.of S1.f).sqT hs, ?_⟩)
    cases r <;> rfl
  | str => cases eb
  | dic => cases eb
  | obj => cases eb
  | exc => cases eb
  | raw => cases eb
theorem wt_and {t u : WX → TT} {P : Bool → List MV → Prop} (h : wpT K n t ms (fun b m1 => if b = true then wpT K n u m1 P X else P false m1) X) : wpT K n (fun W => tAnd (t W) (u W)) ms P X := by
  intro W G F H σ gv Q hn S k x
  refine h W G F H σ gv _ hn S (fun b m1 g1 F1 H1 ho S1 e1 => ?_) x
  cases b with
  | false => 
    rw [if_neg Bool.false_ne_true] at ho ⊢
    exact k _ _ _ _ _ ho S1 e1
  | true =>
    rw [if_pos rfl] at ho ⊢
    exact ho W G F1 H1 σ g1 Q hn S1 (fun b m g F' H' p S' e => k b m g F' H' p S' (e1.trans e)) fun c m g F' H' p S' e => x c m g F' H' p S' (e1.trans e)
theorem wt_or {t u : WX → TT} {P : Bool → List MV → Prop} (h : wpT K n t ms (fun b m1 => if b = true then P true m1 else wpT K n u m1 P X) X) : wpT K n (fun W => tOr (t W) (u W)) ms P X := by
  intro W G F H σ gv Q hn S k x
  refine h W G F H σ gv _ hn S (fun b m1 g1 F1 H1 ho S1 e1 => ?_) x
  cases b with
  | true => 
    rw [if_pos rfl] at ho ⊢
    exact k _ _ _ _ _ ho S1 e1
  | false =>
    rw [if_neg Bool.false_ne_true] at ho ⊢
    exact ho W G F1 H1 σ g1 Q hn S1 (fun b m g F' H' p S' e => k b m g F' H' p S' (e1.trans e)) fun c m g F' H' p S' e => x c m g F' H' p S' (e1.trans e)
theorem wt_not {t : WX → TT} {P : Bool → List MV → Prop} (h : wpT K n t ms (fun b m1 => P (!b) m1) X) : wpT K n (fun W => tNot (t W)) ms P X := by
  intro W G F H σ gv Q hn S k x
  exact h W G F H σ gv _ hn S (fun b m1 g1 F1 H1 ho S1 e1 => k _ _ _ _ _ ho S1 e1) x
theorem wd_andV {ta tb : WX → TE} {P : D → List MV → Prop} (h : wpD K n ta ms (fun a m1 => ∃ b, a = .bl b ∧ if b = true then wpD K n tb m1 P X else P (.bl false) m1) X) : wpD K n (fun W => tAndV (ta W) (tb W)) ms P X := by
  intro W G F H σ gv Q hn S k x
  refine h W G F H σ gv _ hn S (fun a v m1 g1 F1 H1 ho S1 r1 e1 => ?_) x
  obtain ⟨b, rfl, ho⟩ := ho
  cases r1
  refine ⟨b, rfl, ?_⟩
  cases b with
  | false =>
    rw [if_neg Bool.false_ne_true] at ho ⊢
    exact k _ _ _ _ _ _ ho S1 (.bl _) e1
  | true =>
    rw [if_pos rfl] at ho ⊢
    exact ho W G F1 H1 σ g1 Q hn S1 (fun d v m g F' H' p S' r e => k d v m g F' H' p S' r (e1.trans e)) fun c m g F' H' p S' e => x c m g F' H' p S' (e1.trans e)
theorem wd_orV {ta tb : WX → TE} {P : D → List MV → Prop} (h : wpD K n ta ms (fun a m1 => ∃ b, a = .bl b ∧ if b = true then P (.bl true) m1 else wpD K n tb m1 P X) X) : wpD K n (fun W => tOrV (ta W) (tb W)) ms P X := by
  intro W G F H σ gv Q hn S k x
  refine h W G F H σ gv _ hn S (fun a v m1 g1 F1 H1 ho S1 r1 e1 => ?_) x
  obtain ⟨b, rfl, ho⟩ := ho
  cases r1
  refine ⟨b, rfl, ?_⟩
  cases b with
  | true =>
    rw [if_pos rfl] at ho ⊢
    exact k _ _ _ _ _ _ ho S1 (.bl _) e1
  | false =>
    rw [if_neg Bool.false_ne_true] at ho ⊢
    exact ho W G F1 H1 σ g1 Q hn S1 (fun d v m g F' H' p S' r e => k d v m g F' H' p S' r (e1.trans e)) fun c m g F' H' p S' e => x c m g F' H' p S' (e1.trans e)
theorem wd_notV {ta : WX → TE} {P : D → List MV → Prop} (h : wpD K n ta ms (fun a m1 => ∃ b, a = .bl b ∧ P (.bl !b) m1) X) : wpD K n (fun W => tNotV (ta W)) ms P X := by
  intro W G F H σ gv Q hn S k x
  refine h W G F H σ gv _ hn S (fun a v m1 g1 F1 H1 ho S1 r1 e1 => ?_) x
  obtain ⟨b, rfl, ho⟩ := ho
  cases r1
  exact ⟨b, rfl, k _ _ _ _ _ _ ho S1 (.bl _) e1⟩
theorem wd_if {t : WX → TT} {ta tb : WX → TE} {P : D → List MV → Prop} (h : wpT K n t ms (fun b m1 => if b = true then wpD K n ta m1 P X else wpD K n tb m1 P X) X) : wpD K n (fun W => tIf (t W) (ta W) (tb W)) ms P X := by
  intro W G F H σ gv Q hn S k x
  refine h W G F H σ gv _ hn S (fun b m1 g1 F1 H1 ho S1 e1 => ?_) x
  cases b with
  | false =>
    rw [if_neg Bool.false_ne_true] at ho ⊢
    exact ho W G F1 H1 σ g1 Q hn S1 (fun d v m g F' H' p S' r e => k d v m g F' H' p S' r (e1.trans e)) fun c m g F' H' p S' e => x c m g F' H' p S' (e1.trans e)
  | true =>
    rw [if_pos rfl] at ho ⊢
    exact ho W G F1 H1 σ g1 Q hn S1 (fun d v m g F' H' p S' r e => k d v m g F' H' p S' r (e1.trans e)) fun c m g F' H' p S' e => x c m g F' H' p S' (e1.trans e)
/-! ### statements -/
variable {N : List MV → Prop} {R : MV → List MV → Prop}
theorem ws_next (h : N ms) : wpS K n (fun _ => tNext) ms N R X := by
  intro W G F H σ gv E hn S k _ _
  exact k ms σ gv F H h hn S (Same.refl _)
theorem ws_seq {t u : WX → TS} (h : wpS K n t ms (fun m1 => wpS K n u m1 N R X) R X) : wpS K n (fun W => tSeq (t W) (u W)) ms N R X := by
  intro W G F H σ gv E hn S k r x
  refine h W G F H σ gv { E with nx := u W E } hn S (fun m1 σ1 g1 F1 H1 h1 hn1 S1 e1 => ?_) r x
  exact h1 W G F1 H1 σ1 g1 E hn1 S1 (fun m σ' g F' H' p l S' e => k m σ' g F' H' p l S' (e1.trans e)) (fun m v ms' σ' g F' H' p l S' e => r m v ms' σ' g F' H' p l S' (e1.trans e)) fun c m σ' g F' H' p l S' e => x c m σ' g F' H' p l S' (e1.trans e)
theorem set_app {σ gv : List (Option V)} {i : Nat} {o : Option V} (hi : i < σ.length) : (σ ++ gv).set i o = σ.set i o ++ gv := by
  rw [List.set_append_left _ _ hi]
theorem ws_set {te : WX → TE} {i : Nat} (hi : i < n) (h : wpD K n te ms (fun d m1 => N (m1.set i (.fz d))) X) : wpS K n (fun W => tAsg (te W) (gName i)) ms N R X := by
  intro W G F H σ gv E hn S k r x
  refine h W G F H σ gv _ hn S (fun d v m1 g1 F1 H1 p S1 r1 e1 => ?_) (fun c m g F' H' p S' e => x c m σ g F' H' p hn S' e)
  have S2 := S1.setF r1 i
  rw [set_app (by omega)] at S2
  exact k _ _ g1 F1 H1 p (by rw [List.length_set]; exact hn) S2 e1
theorem ws_setN {te : WX → TE} {i : Nat} (hi : i < n) (h : wpN K n te ms (fun p t m1 => N (m1.set i (.ot p t))) X) : wpS K n (fun W => tAsg (te W) (gName i)) ms N R X := by
  intro W G F H σ gv E hn S k r x
  refine h W G F H σ gv _ hn S (fun q t m1 g1 F1 H1 p S1 e1 => ?_) (fun c m g F' H' p S' e => x c m σ g F' H' p hn S' e)
  have S2 := S1.move i
  rw [set_app (by omega)] at S2
  exact k _ _ g1 F1 H1 p (by rw [List.length_set]; exact hn) S2 e1
theorem ws_drop {te : WX → TE} (h : wpD K n te ms (fun _ m1 => N m1) X) : wpS K n (fun W => tDrop (te W)) ms N R X := by
  intro W G F H σ gv E hn S k r x
  exact h W G F H σ gv _ hn S (fun d v m1 g1 F1 H1 p S1 r1 e1 => k _ _ g1 F1 H1 p hn S1 e1) (fun c m g F' H' p S' e => x c m σ g F' H' p hn S' e)
theorem ws_ret {te : WX → TE} (h : wpD K n te ms (fun d m1 => R (.fz d) m1) X) : wpS K n (fun W => tRet (te W)) ms N R X := by
  intro W G F H σ gv E hn S k r x
  exact h W G F H σ gv _ hn S (fun d v m1 g1 F1 H1 p S1 r1 e1 => r _ v m1 σ g1 F1 H1 p hn (S1.pushF r1) e1) (fun c m g F' H' p S' e => x c m σ g F' H' p hn S' e)
theorem ws_retO {te : WX → TE} (h : wpN K n te ms (fun p t m1 => R (.ot p t) m1) X) : wpS K n (fun W => tRet (te W)) ms N R X := by
  intro W G F H σ gv E hn S k r x
  exact h W G F H σ gv _ hn S (fun q t m1 g1 F1 H1 p S1 e1 => r _ _ m1 σ g1 F1 H1 p hn S1 e1) (fun c m g F' H' p S' e => x c m σ g F' H' p hn S' e)
theorem ws_if {t : WX → TT} {a b : WX → TS} (h : wpT K n t ms (fun c m1 => if c = true then wpS K n a m1 N R X else wpS K n b m1 N R X) X) : wpS K n (fun W => tIfS (t W) (a W) (b W)) ms N R X := by
  intro W G F H σ gv E hn S k r x
  refine h W G F H σ gv _ hn S (fun c m1 g1 F1 H1 ho S1 e1 => ?_) (fun c m g F' H' p S' e => x c m σ g F' H' p hn S' e)
  have go : ∀ u : WX → TS, wpS K n u m1 N R X → u W E σ H1 := fun u hu =>
    hu W G F1 H1 σ g1 E hn S1 (fun m σ' g F' H' p l S' e => k m σ' g F' H' p l S' (e1.trans e)) (fun m v ms' σ' g F' H' p l S' e => r m v ms' σ' g F' H' p l S' (e1.trans e)) fun c m σ' g F' H' p l S' e => x c m σ' g F' H' p l S' (e1.trans e)
  cases c with
  | false =>
    rw [if_neg Bool.false_ne_true] at ho ⊢
    exact go b ho
  | true =>
    rw [if_pos rfl] at ho ⊢
    exact go a ho
/-- raise: the class cls -/
theorem ws_raise {cls : Value} (h : X cls ms) : wpS K n (fun W => fun _ σ H => W cls none σ H) ms N R X := by
  intro W G F H σ gv E hn S k r x
  exact x cls ms σ gv F H h hn S (Same.refl _)
end
end M
namespace M
open PySem L2
/-! ### promises -/
abbrev FS := List MV → (MV → List MV → Prop) → XP → Prop
def SpM (K : PySem.W.Frag) (fs : FS) : Sp := fun vs H Q E => ∃ (G F : Hp) (ms : List MV) (P : MV → List MV → Prop) (X : XP), St K G F H ms (vs.map some) ∧ fs ms P X ∧
  (∀ m v ms' F' H', P m ms' → St K G F' H' (m :: ms') (some v :: vs.map some) → Same F F' → Q v H') ∧ (∀ c ms' F' H', X c ms' → St K G F' H' ms' (vs.map some) → Same F F' → E c none H')
/-- an owned thing changes its place -/
inductive Lend : List (Nat × Nat) → List MV → List MV → List MV → List MV → Prop
  | nil {a b : List MV} : Lend [] a b a b
  | cons {j i : Nat} {l : List (Nat × Nat)} {a b a' b' : List MV} {p : Addr} {t : T} : a[j]? = some (.fz (.raw (.ref p))) → b[i]? = some (.ot p t) → Lend l (a.set j (.ot p t)) (b.set i (.fz (.raw (.ref p)))) a' b' → Lend ((j, i) :: l) a b a' b'
section
variable {K : PySem.W.Frag} {n : Nat} {ms : List MV} {X : XP} {G F H : Hp}
theorem set_self {α : Type} {l : List α} {i : Nat} {x : α} (h : l[i]? = some x) : l.set i x = l := by
  obtain ⟨hi, e⟩ := List.getElem?_eq_some_iff.mp h
  apply List.ext_getElem?
  intro k
  rw [List.getElem?_set]
  by_cases hk : i = k
  · subst hk; simp [hi, h]; exact e.symm
  · simp [hk]
theorem OwS.back {σ : List (Option V)} {h1 h2 : Hp} {j : Nat} {p : Addr} {t : T} (x : OwS K F ms σ h2) (e : ms[j]? = some (.fz (.raw (.ref p)))) (w : OwT K F (.ref p) h1 t) (d : Dj h1 h2) : OwS K F (ms.set j (.ot p t)) σ (jn h1 h2) := by
  induction x generalizing j with
  | nil => simp at e
  | un x ih =>
    cases j with
    | zero => simp at e
    | succ j => exact .un (ih (by simpa using e) d)
  | fz r x ih =>
    cases j with
    | zero =>
      simp at e
      subst e
      cases r
      exact .ot w x d
    | succ j => exact .fz r (ih (by simpa using e) d)
  | ot r x dd ih =>
    rename_i g1 g2
    cases j with
    | zero => simp at e
    | succ j =>
      have d1 : Dj h1 g1 := (d.symm.of_jn_l).symm
      have d2 : Dj h1 g2 := (d.symm.of_jn_r).symm
      have z := OwS.ot r (ih (by simpa using e) d2) (Dj.jn_r d1.symm dd)
      rw [← jn_assoc, jn_comm d1.symm, jn_assoc] at z
      exact z
/-- within one list: the thing at i goes to j, which names it -/
theorem OwS.swap {σ : List (Option V)} {h : Hp} {i j : Nat} {p : Addr} {t : T} (x : OwS K F ms σ h) (ej : ms[j]? = some (.fz (.raw (.ref p)))) (ei : ms[i]? = some (.ot p t)) :
    OwS K F ((ms.set j (.ot p t)).set i (.fz (.raw (.ref p)))) σ h := by
  obtain ⟨h1, h2, rfl, d, w, _, f⟩ := x.focus ei
  have y := f F (.raw (.ref p)) (Le.of (Same.refl _)) (.raw _)
  have hij : i ≠ j := fun q => by subst q; rw [ei] at ej; cases ej
  have ej' : (ms.set i (.fz (.raw (.ref p))))[j]? = some (.fz (.raw (.ref p))) := by
    rw [List.getElem?_set]; simp [hij, ej]
  have z := y.back ej' w d
  rw [List.set_comm _ _ hij] at z
  exact z
theorem lend_len {l : List (Nat × Nat)} {a b a' b' : List MV} (L : Lend l a b a' b') : a'.length = a.length ∧ b'.length = b.length := by
  induction L with
  | nil => exact ⟨rfl, rfl⟩
  | cons _ _ _ ih => simpa using ih
theorem Lend.ok {l : List (Nat × Nat)} {a b a' b' : List MV} (L : Lend l a b a' b') : ∀ {s t : List (Option V)} {h : Hp}, OwS K F (a ++ b) (s ++ t) h → OwS K F (a' ++ b') (s ++ t) h := by
  induction L with
  | nil => exact fun x => x
  | cons ea eb _ ih =>
    rename_i j i l a b a' b' p t0 _
    intro s t h x
    have hj : j < a.length := (List.getElem?_eq_some_iff.mp ea).1
    refine ih ?_
    have e1 : (a ++ b)[j]? = some (.fz (.raw (.ref p))) := by rw [List.getElem?_append_left hj]; exact ea
    have e2 : (a ++ b)[a.length + i]? = some (.ot p t0) := by rw [List.getElem?_append_right (by omega)]; simpa using eb
    have y := x.swap e1 e2
    rw [List.set_append_left _ _ hj, List.set_append_right _ _ (by simp)] at y
    simpa using y
theorem RpL.owS {vs : List V} {ds : List D} (r : RpL K F vs ds) : OwS K F (ds.map .fz) (vs.map some) emp := by
  induction vs generalizing ds with
  | nil => cases r; exact .nil
  | cons v vs ih =>
    cases r with
    | cons h t => exact .fz h (ih t)
/-- f(..): the arguments ds; l: which of them are owned things, and of which slots -/
theorem run_call {fs : FS} {l : List (Nat × Nat)} {ds : List D} {a' b' : List MV} {σ gv : List (Option V)} {vs : List V} {W : WX} {Q : VK} {P : MV → List MV → Prop} (S : St K G F H ms (σ ++ gv)) (r : RpL K F vs ds) (L : Lend l (ds.map .fz) ms a' b')
    (h : fs a' (fun m a1 => ∃ a2 b2, Lend (l.map fun q => (q.2, q.1)) b' a1 b2 a2 ∧ P m b2) (fun c a1 => ∃ a2 b2, Lend (l.map fun q => (q.2, q.1)) b' a1 b2 a2 ∧ X c b2))
    (k : ∀ m v ms' F' H', P m ms' → St K G F' H' (m :: ms') (some v :: (σ ++ gv)) → Same F F' → Q v H') (x : ∀ c ms' F' H', X c ms' → St K G F' H' ms' (σ ++ gv) → Same F F' → W c none σ H') : SpM K fs vs H Q (WE W σ) := by
  have S1 : St K G F H (a' ++ b') (vs.map some ++ (σ ++ gv)) := by
    refine S.sub fun h0 y => ⟨h0, ?_, Same.refl _⟩
    have z := (r.owS).join y Dj.emp_l
    rw [emp_jn] at z
    exact L.ok z
  have hl : a'.length = (vs.map some).length := by
    rw [(lend_len L).1, List.length_map, List.length_map, r.length]
  obtain ⟨G', S2, back⟩ := St.lend hl S1
  have turn : ∀ {a1 : List MV} {F' H' : Hp} {b2 a2 : List MV}, Lend (l.map fun q => (q.2, q.1)) b' a1 b2 a2 → St K G F' H' (a1 ++ b') (vs.map some ++ (σ ++ gv)) → St K G F' H' b2 (σ ++ gv) := by
    intro a1 F' H' b2 a2 L2 S3
    refine S3.sub fun h0 y => ?_
    -- turn the two lists round, swap back, forget the arguments
    have ly : a1.length = (vs.map some).length := by
      have q1 := y.length
      have q2 := S2.len
      have q3 : b'.length = (σ ++ gv).length := by rw [(lend_len L).2]; exact S.len
      rw [List.length_append, List.length_append] at q1
      omega
    obtain ⟨h1, h2, y1, y2, d, rfl⟩ := y.split ly
    have z := L2.ok (y2.join y1 d.symm)
    have lb : b2.length = (σ ++ gv).length := by rw [(lend_len L2).1, (lend_len L).2]; exact S.len
    obtain ⟨g1, g2, z1, z2, dz, ez⟩ := z.split lb
    refine ⟨g1, z1, ?_⟩
    rw [jn_comm d, ez]
    exact Same.jn_l
  refine ⟨G', F, a', _, _, S2, h, fun m v a1 F' H' hp S3 e => ?_, fun c a1 F' H' hp S3 e => ?_⟩
  · obtain ⟨a2, b2, L2, p⟩ := hp
    have S4 := back F' H' (m :: a1) (some v :: vs.map some) e S3
    refine k m v b2 F' H' p ?_ e
    -- the result stays ahead
    refine S4.sub fun h0 y => ?_
    have tl : ∀ {hh : Hp}, OwS K F' (a1 ++ b') (vs.map some ++ (σ ++ gv)) hh → ∃ h', OwS K F' b2 (σ ++ gv) h' ∧ Same h' hh := by
      intro hh y
      have ly : a1.length = (vs.map some).length := by
        have q1 := y.length
        have q3 : b'.length = (σ ++ gv).length := by rw [(lend_len L).2]; exact S.len
        rw [List.length_append, List.length_append] at q1
        omega
      obtain ⟨h1, h2, y1, y2, d, rfl⟩ := y.split ly
      have z := L2.ok (y2.join y1 d.symm)
      have lb : b2.length = (σ ++ gv).length := by rw [(lend_len L2).1, (lend_len L).2]; exact S.len
      obtain ⟨g1, g2, z1, z2, dz, ez⟩ := z.split lb
      refine ⟨g1, z1, ?_⟩
      rw [jn_comm d, ez]
      exact Same.jn_l
    cases y with
    | un y =>
      obtain ⟨h', z, s⟩ := tl y
      exact ⟨h', .un z, s⟩
    | fz rr y =>
      obtain ⟨h', z, s⟩ := tl y
      exact ⟨h', .fz rr z, s⟩
    | ot rr y d =>
      obtain ⟨h', z, s⟩ := tl y
      exact ⟨_, .ot rr z (d.symm.sub s).symm, Same.jn Same.jn_l (s.trans (Same.jn_r d))⟩
  · obtain ⟨a2, b2, L2, p⟩ := hp
    exact x c b2 F' H' p (turn L2 (back F' H' a1 (vs.map some) e S3)) e
/-- a call whose value is data -/
theorem wd_call (l : List (Nat × Nat)) {fs : FS} {ta : WX → TA} {P : D → List MV → Prop}
    (h : wpA K n ta ms (fun ds m1 => ∃ a' b', Lend l (ds.map .fz) m1 a' b' ∧ fs a' (fun m a1 => ∃ a2 b2, Lend (l.map fun q => (q.2, q.1)) b' a1 b2 a2 ∧ ∃ d, m = .fz d ∧ P d b2) (fun c a1 => ∃ a2 b2, Lend (l.map fun q => (q.2, q.1)) b' a1 b2 a2 ∧ X c b2)) X) :
    wpD K n (fun W => tCallS (SpM K fs) (WE W) (ta W)) ms P X := by
  intro W G F H σ gv Q hn S k x
  refine h W G F H σ gv _ hn S (fun ds vs m1 g1 F1 H1 ho S1 r1 e1 => ?_) x
  obtain ⟨a', b', L, hf⟩ := ho
  refine run_call (P := fun m b2 => ∃ d, m = .fz d ∧ P d b2) S1 r1 L hf (fun m v ms' F' H' p S' e => ?_) (fun c ms' F' H' p S' e => x c ms' g1 F' H' p S' (e1.trans e))
  obtain ⟨d, rfl, p⟩ := p
  exact k d v ms' g1 F' H' p S'.tail S'.headF (e1.trans e)
/-- without owned arguments -/
theorem wd_call0 {fs : FS} {ta : WX → TA} {P : D → List MV → Prop}
    (h : wpA K n ta ms (fun ds m1 => fs (ds.map .fz) (fun m _ => ∃ d, m = .fz d ∧ P d m1) (fun c _ => X c m1)) X) (hf : ∀ a (Q Q' : MV → List MV → Prop) (Y Y' : XP), (∀ m b, Q m b → Q' m b) → (∀ c b, Y c b → Y' c b) → fs a Q Y → fs a Q' Y') :
    wpD K n (fun W => tCallS (SpM K fs) (WE W) (ta W)) ms P X := by
  refine wd_call [] ?_
  intro W G F H σ gv Q hn S k x
  refine h W G F H σ gv Q hn S (fun ds vs m1 g1 F1 H1 ho S1 r1 e1 => k ds vs m1 g1 F1 H1 ⟨_, _, .nil, ?_⟩ S1 r1 e1) x
  exact hf _ _ _ _ _ (fun m b q => ⟨_, _, .nil, q⟩) (fun c b q => ⟨_, _, .nil, q⟩) ho
/-- a call whose value is a new owned thing -/
theorem wn_call (l : List (Nat × Nat)) {fs : FS} {ta : WX → TA} {P : Addr → T → List MV → Prop}
    (h : wpA K n ta ms (fun ds m1 => ∃ a' b', Lend l (ds.map .fz) m1 a' b' ∧ fs a' (fun m a1 => ∃ a2 b2, Lend (l.map fun q => (q.2, q.1)) b' a1 b2 a2 ∧ ∃ p t, m = .ot p t ∧ P p t b2) (fun c a1 => ∃ a2 b2, Lend (l.map fun q => (q.2, q.1)) b' a1 b2 a2 ∧ X c b2)) X) :
    wpN K n (fun W => tCallS (SpM K fs) (WE W) (ta W)) ms P X := by
  intro W G F H σ gv Q hn S k x
  refine h W G F H σ gv _ hn S (fun ds vs m1 g1 F1 H1 ho S1 r1 e1 => ?_) x
  obtain ⟨a', b', L, hf⟩ := ho
  refine run_call (P := fun m b2 => ∃ p t, m = .ot p t ∧ P p t b2) S1 r1 L hf (fun m v ms' F' H' p S' e => ?_) (fun c ms' F' H' p S' e => x c ms' g1 F' H' p S' (e1.trans e))
  obtain ⟨q, t, rfl, p⟩ := p
  have ev := S'.headO
  subst ev
  exact k q t ms' g1 F' H' p S' (e1.trans e)
end
/-! ### a def keeps its promise -/
/-- what is handed back of the parameters -/
inductive Back : List MV → List MV → List MV → Prop
  | nil {me : List MV} : Back [] me []
  | fz {d : D} {x : MV} {ms me ms' : List MV} : Back ms me ms' → Back (.fz d :: ms) (x :: me) (.fz d :: ms')
  | ot {p : Addr} {t t' : T} {ms me ms' : List MV} : Back ms me ms' → Back (.ot p t :: ms) (.ot p t' :: me) (.ot p t' :: ms')
section
variable {K : PySem.W.Frag}
theorem Back.ok {F F' : Hp} {ms me ms' : List MV} (b : Back ms me ms') (e : Same F F') : ∀ {vs : List V} {σ : List (Option V)} {h0 h : Hp}, OwS K F ms (vs.map some) h0 → OwS K F' me σ h → ∃ h', OwS K F' ms' (vs.map some) h' ∧ Same h' h := by
  induction b with
  | nil =>
    intro vs σ h0 h x y
    cases vs with
    | nil => exact ⟨emp, .nil, Same.emp⟩
    | cons v vs => cases x
  | fz b ih =>
    intro vs σ h0 h x y
    cases vs with
    | nil => cases x
    | cons v vs =>
      cases x with
      | fz r x =>
        cases σ with
        | nil => exact absurd y.length (by simp)
        | cons o σ =>
          obtain ⟨h1, y1, s1⟩ := y.drop
          obtain ⟨h2, y2, s2⟩ := ih x y1
          exact ⟨h2, .fz (r.up e) y2, s2.trans s1⟩
  | ot b ih =>
    intro vs σ h0 h x y
    cases vs with
    | nil => cases x
    | cons v vs =>
      cases y with
      | ot w y d =>
        cases x with
        | ot w' x d' =>
          obtain ⟨h2, y2, s2⟩ := ih x y
          exact ⟨_, .ot w y2 (d.symm.sub s2).symm, Same.jn Same.jn_l (s2.trans (Same.jn_r d))⟩
theorem start_app {Nn : List PySem.Str} {vs : List V} (h : vs.length ≤ Nn.length) : (L2.start Nn vs).length = Nn.length := by
  unfold L2.start
  simp
  omega
theorem OwS.uns {F : Hp} : ∀ (k : Nat), OwS K F (List.replicate k .un) (List.replicate k none) emp
  | 0 => .nil
  | k + 1 => .un (OwS.uns k)
/-- THE RULE: the body's reading, the model of its promise -/
theorem fs_run {fs : FS} {Nn : List PySem.Str} {t : WX → TS} {np : Nat} (hnp : np ≤ Nn.length)
    (h : ∀ ms P X, fs ms P X → ms.length = np ∧ wpS K Nn.length t (ms ++ List.replicate (Nn.length - np) .un) (fun me => ∃ ms', Back ms me ms' ∧ P (.fz .non) ms') (fun m me => ∃ ms', Back ms me ms' ∧ P m ms') (fun c me => ∃ ms', Back ms me ms' ∧ X c ms'))
    (vs : List V) (H : Hp) (Q : VK) (E : XK) (s : SpM K fs vs H Q E) : vs.length = np ∧ t (fun c d _ H => E c d H) { nx := fun _ H' => Q .non H', rt := Q } (L2.start Nn vs) H := by
  obtain ⟨G, F, ms, P, X, S, hf, k, x⟩ := s
  obtain ⟨hl, hw⟩ := h ms P X hf
  have lv : vs.length = np := by
    have := S.len
    rw [List.length_map] at this
    omega
  refine ⟨lv, ?_⟩
  have S0 : St K G F H (ms ++ List.replicate (Nn.length - np) .un) (L2.start Nn vs ++ []) := by
    rw [List.append_nil]
    unfold L2.start
    rw [lv]
    refine S.sub fun h0 y => ⟨h0, ?_, Same.refl _⟩
    have z := y.join (OwS.uns (F := F) (Nn.length - np)) Dj.emp_r
    rw [jn_emp] at z
    exact z
  obtain ⟨h0, x0, _⟩ := S.own
  have end_ : ∀ {ms' me : List MV} {σ' : List (Option V)} {F' H' : Hp}, Back ms me ms' → Same F F' → St K G F' H' me σ' → St K G F' H' ms' (vs.map some) := fun b e S' =>
    S'.sub fun h y => b.ok e x0 y
  have endM : ∀ {m : MV} {v : V} {ms' me : List MV} {σ' : List (Option V)} {F' H' : Hp}, Back ms me ms' → Same F F' → St K G F' H' (m :: me) (some v :: σ') → St K G F' H' (m :: ms') (some v :: vs.map some) := fun b e S' =>
    S'.sub fun h y => by
      cases y with
      | un y =>
        obtain ⟨h', z, s⟩ := b.ok e x0 y
        exact ⟨h', .un z, s⟩
      | fz rr y =>
        obtain ⟨h', z, s⟩ := b.ok e x0 y
        exact ⟨h', .fz rr z, s⟩
      | ot rr y d =>
        obtain ⟨h', z, s⟩ := b.ok e x0 y
        exact ⟨_, .ot rr z (d.symm.sub s).symm, Same.jn Same.jn_l (s.trans (Same.jn_r d))⟩
  refine hw (fun c d _ H => E c d H) G F H (L2.start Nn vs) [] _ (start_app (by omega)) S0 (fun me σ' gv' F' H' hb _ S' e => ?_) (fun m v me σ' gv' F' H' hb _ S' e => ?_) (fun c me σ' gv' F' H' hb _ S' e => ?_)
  · obtain ⟨ms', b, p⟩ := hb
    exact k _ _ _ _ _ p (endM b e (S'.pushF .non)) e
  · obtain ⟨ms', b, p⟩ := hb
    exact k _ _ _ _ _ p (endM b e S') e
  · obtain ⟨ms', b, p⟩ := hb
    exact x _ _ _ _ p (end_ b e S') e
end
end M
namespace M
open PySem L2
/-! ### an owned tree as data -/
mutual
def T.toD : T → D
  | .lf d => d
  | .lst ts => .lst (toDs ts)
  | .dic kvs => .dic (toDk kvs)
  | .obj C fs => .obj C (toDf fs)
def toDs : List T → List D
  | [] => []
  | t :: ts => t.toD :: toDs ts
def toDk : List (Key × T) → List (Key × D)
  | [] => []
  | (k, t) :: ts => (k, t.toD) :: toDk ts
def toDf : List (PySem.Str × T) → List (PySem.Str × D)
  | [] => []
  | (k, t) :: ts => (k, t.toD) :: toDf ts
end
theorem toDs_lf : ∀ ds : List D, toDs (ds.map .lf) = ds
  | [] => by simp [toDs]
  | d :: ds => by simp [toDs, T.toD, toDs_lf ds]
theorem toD_lst (ds : List D) : T.toD (.lst (ds.map .lf)) = .lst ds := by simp [T.toD, toDs_lf]
section
variable {K : PySem.W.Frag}
theorem same_upd_sub {h F' : Hp} {p : Addr} {o : HO} (s : Same (upd h p o) F') (hp : h p = none) : Same h F' := (same_new hp).trans s
mutual
theorem OwT.rp {F F' : Hp} (e : Same F F') : ∀ {v : V} {h : Hp} {t : T}, OwT K F v h t → Same h F' → Rp K F' v t.toD
  | _, _, _, .lf r, _ => by simp only [T.toD]; exact r.up e
  | _, _, _, .lst r n, s => by
    simp only [T.toD]
    exact .lst (s _ _ upd_same) (OwL.rp e r (same_upd_sub s n))
  | _, _, _, .dic r n, s => by
    simp only [T.toD]
    exact .dic (.inl (s _ _ upd_same)) (OwK.rp e r (same_upd_sub s n))
  | _, _, _, .obj r n m q, s => by
    simp only [T.toD]
    refine .obj (s _ _ upd_same) (s _ _ ?_) (OwF.rp e r ?_)
    · rw [upd_ne q]; exact upd_same
    · refine ((same_new m).trans (same_new ?_)).trans s
      rw [upd_ne (Ne.symm q)]; exact n
theorem OwL.rp {F F' : Hp} (e : Same F F') : ∀ {v : List V} {h : Hp} {t : List T}, OwL K F v h t → Same h F' → RpL K F' v (toDs t)
  | _, _, _, .nil, _ => by simp only [toDs]; exact .nil
  | _, _, _, .cons r t d, s => by
    simp only [toDs]
    exact .cons (OwT.rp e r (Same.jn_l.trans s)) (OwL.rp e t ((Same.jn_r d).trans s))
theorem OwK.rp {F F' : Hp} (e : Same F F') : ∀ {v : List (Key × V)} {h : Hp} {t : List (Key × T)}, OwK K F v h t → Same h F' → RpK K F' v (toDk t)
  | _, _, _, .nil, _ => by simp only [toDk]; exact .nil
  | _, _, _, .cons r t d, s => by
    simp only [toDk]
    exact .cons (OwT.rp e r (Same.jn_l.trans s)) (OwK.rp e t ((Same.jn_r d).trans s))
theorem OwF.rp {F F' : Hp} (e : Same F F') : ∀ {v : List (PySem.Str × V)} {h : Hp} {t : List (PySem.Str × T)}, OwF K F v h t → Same h F' → RpF K F' v (toDf t)
  | _, _, _, .nil, _ => by simp only [toDf]; exact .nil
  | _, _, _, .cons r t d, s => by
    simp only [toDf]
    exact .cons (OwT.rp e r (Same.jn_l.trans s)) (OwF.rp e t ((Same.jn_r d).trans s))
end
/-- all owned things seen as data -/
def view : MV → MV
  | .ot _ t => .fz t.toD
  | m => m
theorem OwS.view {F F' : Hp} (e : Same F F') {ms : List MV} {σ : List (Option V)} {h : Hp} (x : OwS K F ms σ h) (s : Same h F') : OwS K F' (ms.map view) σ emp := by
  induction x with
  | nil => exact .nil
  | un x ih => exact .un (ih s)
  | fz r x ih => exact .fz (r.up e) (ih s)
  | ot r x d ih => exact .fz (OwT.rp e r (Same.jn_l.trans s)) (ih ((Same.jn_r d).trans s))
def flat : D → Bool
  | .non => true
  | .bl _ => true
  | .int _ => true
  | .str _ => true
  | _ => false
theorem Rp.flat {F F' : Hp} {v : V} {d : D} (r : Rp K F v d) (h : flat d = true) : Rp K F' v d := by
  cases r with
  | non => exact .non
  | bl b => exact .bl b
  | int i => exact .int i
  | str x => exact .str x
  | lst => cases h
  | sq => cases h
  | tup => cases h
  | dic => cases h
  | obj => cases h
  | exc => cases h
  | raw => cases h
variable {n : Nat} {ms : List MV} {X : XP}
/-- the whole is looked at, nothing is changed -/
theorem view_core {G F H : Hp} {σ : List (Option V)} (S : St K G F H ms σ) : ∃ F1, Same F F1 ∧ St K G F1 H (ms.map view) σ ∧ ∀ F2 H2 ms2 σ2, Same F1 F2 → St K G F2 H2 ms2 σ2 → ∃ F3, Same F F3 ∧ St K G F3 H2 ms σ := by
  obtain ⟨h, x, sh, d1, d2⟩ := S.own
  refine ⟨jn F h, Same.jn_l, ⟨S.g, Same.jn S.f sh, Dj.jn_l S.fg d2, emp, x.view Same.jn_l (Same.jn_r d1.symm), Same.emp, Dj.emp_l, Dj.emp_l⟩, fun F2 H2 ms2 σ2 e S2 => ?_⟩
  have sF : Same F F2 := Same.jn_l.trans e
  have sh2 : Same h F2 := (Same.jn_r d1.symm).trans e
  -- F2 without h
  refine ⟨fun a => match h a with | some _ => none | none => F2 a, fun a o q => ?_, S2.g, fun a o q => ?_, fun a => ?_, h, x.up fun a o q => ?_, sh2.trans S2.f, fun a => ?_, d2⟩
  · show (match h a with | some _ => none | none => F2 a) = some o
    rw [d1.symm.none q]; exact sF _ _ q
  · have q' : (match h a with | some _ => none | none => F2 a) = some o := q
    cases z : h a with
    | some u => rw [z] at q'; cases q'
    | none => rw [z] at q'; exact S2.f _ _ q'
  · show (match h a with | some _ => none | none => F2 a) = none ∨ G a = none
    cases z : h a with
    | some u => exact .inl rfl
    | none => exact S2.fg a
  · show (match h a with | some _ => none | none => F2 a) = some o
    rw [d1.symm.none q]; exact sF _ _ q
  · show h a = none ∨ (match h a with | some _ => none | none => F2 a) = none
    cases z : h a with
    | some u => exact .inr rfl
    | none => exact .inl rfl
theorem wd_view {te : WX → TE} {P : D → List MV → Prop} (h : wpD K n te (ms.map view) (fun d _ => flat d = true ∧ P d ms) (fun c _ => X c ms)) : wpD K n te ms P X := by
  intro W G F H σ gv Q hn S k x
  obtain ⟨F1, e1, S1, back⟩ := view_core S
  refine h W G F1 H σ gv Q hn S1 (fun d v m2 g2 F2 H2 p S2 r2 e2 => ?_) (fun c m2 g2 F2 H2 p S2 e2 => ?_)
  · obtain ⟨F3, e3, S3⟩ := back _ _ _ _ e2 S2
    exact k d v ms gv F3 H2 p.2 S3 (r2.flat p.1) e3
  · obtain ⟨F3, e3, S3⟩ := back _ _ _ _ e2 S2
    exact x c ms gv F3 H2 p S3 e3
theorem wt_view {te : WX → TT} {P : Bool → List MV → Prop} (h : wpT K n te (ms.map view) (fun d _ => P d ms) (fun c _ => X c ms)) : wpT K n te ms P X := by
  intro W G F H σ gv Q hn S k x
  obtain ⟨F1, e1, S1, back⟩ := view_core S
  refine h W G F1 H σ gv Q hn S1 (fun d m2 g2 F2 H2 p S2 e2 => ?_) (fun c m2 g2 F2 H2 p S2 e2 => ?_)
  · obtain ⟨F3, e3, S3⟩ := back _ _ _ _ e2 S2
    exact k d ms gv F3 H2 p S3 e3
  · obtain ⟨F3, e3, S3⟩ := back _ _ _ _ e2 S2
    exact x c ms gv F3 H2 p S3 e3
/-- an owned thing is known for good from here on -/
theorem St.freeze {G F H : Hp} {σ : List (Option V)} {i : Nat} {p : Addr} {t : T} (S : St K G F H ms σ) (e : ms[i]? = some (.ot p t)) : ∃ F', Same F F' ∧ St K G F' H (ms.set i (.fz t.toD)) σ := by
  obtain ⟨h, x, sh, d1, d2⟩ := S.own
  obtain ⟨h1, h2, rfl, dj, w, _, f⟩ := x.focus e
  have s1 : Same h1 H := Same.jn_l.trans sh
  have s2 : Same h2 H := (Same.jn_r dj).trans sh
  refine ⟨jn F h1, Same.jn_l, S.g, Same.jn S.f s1, Dj.jn_l S.fg d2.of_jn_l, h2, f _ _ (Le.of Same.jn_l) (w.rp Same.jn_l (Same.jn_r d1.of_jn_l.symm)), s2, Dj.jn_r d1.of_jn_r dj.symm, d2.of_jn_r⟩
variable {N : List MV → Prop} {R : MV → List MV → Prop}
theorem ws_freeze (i : Nat) {p : Addr} {t : T} {ts : WX → TS} (e : ms[i]? = some (.ot p t)) (h : wpS K n ts (ms.set i (.fz t.toD)) N R X) : wpS K n ts ms N R X := by
  intro W G F H σ gv E hn S k r x
  obtain ⟨F1, e1, S1⟩ := S.freeze e
  exact h W G F1 H σ gv E hn S1 (fun m σ' g F' H' p l S' e => k m σ' g F' H' p l S' (e1.trans e)) (fun m v ms' σ' g F' H' p l S' e => r m v ms' σ' g F' H' p l S' (e1.trans e)) fun c m σ' g F' H' p l S' e => x c m σ' g F' H' p l S' (e1.trans e)
theorem wd_freeze (i : Nat) {p : Addr} {t : T} {te : WX → TE} {P : D → List MV → Prop} (e : ms[i]? = some (.ot p t)) (h : wpD K n te (ms.set i (.fz t.toD)) P X) : wpD K n te ms P X := by
  intro W G F H σ gv Q hn S k x
  obtain ⟨F1, e1, S1⟩ := S.freeze e
  exact h W G F1 H σ gv Q hn S1 (fun d v m g F' H' p S' r e => k d v m g F' H' p S' r (e1.trans e)) fun c m g F' H' p S' e => x c m g F' H' p S' (e1.trans e)
/-- the content of an owned list is changed -/
theorem owL_len {F : Hp} : ∀ {vs : List V} {h : Hp} {ts : List T}, OwL K F vs h ts → vs.length = ts.length
  | _, _, _, .nil => rfl
  | _, _, _, .cons _ r _ => by simp [owL_len r]
theorem OwL.snoc {F : Hp} {v : V} {d : D} (r : Rp K F v d) : ∀ {vs : List V} {h : Hp} {ts : List T}, OwL K F vs h ts → OwL K F (vs ++ [v]) h (ts ++ [.lf d])
  | _, _, _, .nil => by
    have z := OwL.cons (OwT.lf r) OwL.nil Dj.emp_l
    rw [emp_jn] at z
    exact z
  | _, _, _, .cons a b d => .cons a (OwL.snoc r b) d
theorem OwL.setLf {F : Hp} {v : V} {d : D} (r : Rp K F v d) : ∀ {vs : List V} {h : Hp} {ts : List T} (i : Nat), OwL K F vs h ts → ∃ h', OwL K F (vs.set i v) h' (ts.set i (.lf d)) ∧ Same h' h
  | _, _, _, _, .nil => ⟨emp, .nil, Same.refl _⟩
  | _, _, _, 0, .cons a b d => by
    refine ⟨_, .cons (.lf r) b Dj.emp_l, ?_⟩
    rw [emp_jn]
    exact Same.jn_r d
  | _, _, _, i + 1, .cons a b d => by
    obtain ⟨h', z, s⟩ := OwL.setLf r i b
    exact ⟨_, .cons a z (d.symm.sub s).symm, Same.jn Same.jn_l (s.trans (Same.jn_r d))⟩
theorem St.list {G F H : Hp} {σ : List (Option V)} {i : Nat} {p : Addr} {ts : List T} (S : St K G F H ms σ) (e : ms[i]? = some (.ot p (.lst ts))) : ∃ vs, H p = some (.lst vs) ∧ vs.length = ts.length ∧ 
    ∀ vs' ts', (∀ h, OwL K F vs h ts → ∃ h', OwL K F vs' h' ts' ∧ Same h' h) → St K G F (upd H p (.lst vs')) (ms.set i (.ot p (.lst ts'))) σ := by
  obtain ⟨h, x, sh, d1, d2⟩ := S.own
  obtain ⟨h1, h2, rfl, dj, w, f, _⟩ := x.focus e
  cases w with
  | lst w0 np =>
    rename_i vs h0
    have s1 : Same (upd h0 p (.lst vs)) H := Same.jn_l.trans sh
    have s2 : Same h2 H := (Same.jn_r dj).trans sh
    have n2 : h2 p = none := dj.of_upd
    have nF : F p = none := d1.of_jn_l.of_upd
    have nG : G p = none := d2.of_jn_l.of_upd
    refine ⟨vs, s1 _ _ upd_same, owL_len w0, fun vs' ts' hk => ?_⟩
    obtain ⟨h', w', s'⟩ := hk h0 w0
    have np' : h' p = none := s'.free np
    have up : ∀ {A : Hp}, A p = none → Same A H → Same A (upd H p (.lst vs')) := fun na s b u q => by
      rw [upd_ne (ne_of_none q na)]; exact s _ _ q
    have sh' : Same h' H := s'.trans ((same_new np).trans s1)
    have dn : Dj h' h2 := (dj.un_upd np).sub s'
    refine ⟨up nG S.g, up nF S.f, S.fg, jn (upd h' p (.lst vs')) h2, f F _ _ (Le.of (Same.refl _)) (.lst w' np') (dn.upd n2), Same.jn ?_ (up n2 s2), Dj.jn_l ((d1.of_jn_l.un_upd np).sub s' |>.upd nF) d1.of_jn_r, Dj.jn_l ((d2.of_jn_l.un_upd np).sub s' |>.upd nG) d2.of_jn_r⟩
    intro b u q
    by_cases hb : b = p
    · subst hb; rw [upd_same] at q ⊢; exact q
    · rw [upd_ne hb] at q ⊢; exact sh' _ _ q
/-- xs.append(e) -/
theorem ws_append {i : Nat} {p : Addr} {ts : List T} {te : WX → TE} (hi : i < n) (e : ms[i]? = some (.ot p (.lst ts)))
    (h : wpD K n te ms (fun d m1 => ∃ ts1, m1[i]? = some (.ot p (.lst ts1)) ∧ ts1.length < 1000000 ∧ N (m1.set i (.ot p (.lst (ts1 ++ [.lf d]))))) X) : wpS K n (fun W => tDrop (tBM K "list" rAppend (tVar i) (tCons (te W) tNil))) ms N R X := by
  intro W G F H σ gv E hn S k r x
  have hv := get_app (by omega) (S.getO e)
  obtain ⟨vs0, hp0, _⟩ := S.list e
  refine ⟨_, hv, .inl ⟨rfl, _, SqL.of hp0⟩, ?_⟩
  refine h W G F H σ gv _ hn S (fun d v m1 g1 F1 H1 ho S1 r1 e1 => ?_) (fun c m g F' H' p S' e => x c m σ g F' H' p hn S' e)
  obtain ⟨ts1, ei, hl, hN⟩ := ho
  obtain ⟨vs, hp, hlen, f⟩ := S1.list ei
  refine ⟨p, vs, v, rfl, rfl, hp, ?_, ?_⟩
  · rw [sizeLine_eq]; omega
  · exact k _ σ g1 F1 _ hN hn (f _ _ fun h0 w => ⟨h0, w.snoc r1, Same.refl _⟩) e1
/-- xs[i] = e, by a place that is known -/
theorem ws_setL {i : Nat} {te tj : WX → TE} {p : Addr} (hi : i < n)
    (h : wpD K n te ms (fun d m1 => (∃ t, m1[i]? = some (.ot p t)) ∧ wpD K n tj m1 (fun dj m2 => ∃ ts1 j k, dj = .int j ∧ m2[i]? = some (.ot p (.lst ts1)) ∧ ixN ts1.length j = some k ∧ N (m2.set i (.ot p (.lst (ts1.set k (.lf d)))))) X) X) :
    wpS K n (fun W => tAsg (te W) (gSub (tVar i) (tj W) rSetL)) ms N R X := by
  intro W G F H σ gv E hn S k r x
  refine h W G F H σ gv _ hn S (fun d v m1 g1 F1 H1 ho S1 r1 e1 => ?_) (fun c m g F' H' p S' e => x c m σ g F' H' p hn S' e)
  obtain ⟨⟨t0, e0⟩, ho⟩ := ho
  have hv := get_app (by omega) (S1.getO e0)
  refine ⟨_, hv, ?_⟩
  refine ho W G F1 H1 σ g1 _ hn S1 (fun dj v2 m2 g2 F2 H2 ho S2 r2 e2 => ?_) (fun c m g F' H' p S' e => x c m σ g F' H' p hn S' (e1.trans e))
  obtain ⟨ts1, j, k1, rfl, ei, hk, hN⟩ := ho
  cases r2
  obtain ⟨vs, hp, hlen, f⟩ := S2.list ei
  refine ⟨p, vs, j, k1, rfl, rfl, hp, by rw [hlen]; exact hk, ?_⟩
  exact k _ σ g2 F2 _ hN hn (f _ _ fun h0 w => OwL.setLf (r1.up e2) k1 w) (e1.trans e2)
/-! ### targets -/
def wpG (K : PySem.W.Frag) (n : Nat) (g : TG) (d : D) (ms : List MV) (N : List MV → Prop) : Prop :=
  ∀ (G F H : Hp) (σ gv : List (Option V)) (v : V) (Q : L2.St → Hp → Prop), σ.length = n → St K G F H ms (σ ++ gv) → Rp K F v d →
    (∀ ms' σ', N ms' → σ'.length = n → St K G F H ms' (σ' ++ gv) → Q σ' H) → g v σ H Q
def wpGs (K : PySem.W.Frag) (n : Nat) (g : TGs) (ds : List D) (ms : List MV) (N : List MV → Prop) : Prop :=
  ∀ (G F H : Hp) (σ gv : List (Option V)) (vs : List V) (Q : L2.St → Hp → Prop), σ.length = n → St K G F H ms (σ ++ gv) → RpL K F vs ds →
    (∀ ms' σ', N ms' → σ'.length = n → St K G F H ms' (σ' ++ gv) → Q σ' H) → g vs σ H Q
theorem wg_name {i : Nat} {d : D} (hi : i < n) (h : N (ms.set i (.fz d))) : wpG K n (gName i) d ms N := by
  intro G F H σ gv v Q hn S r k
  have S2 := S.setF r i
  rw [set_app (by omega)] at S2
  exact k _ _ h (by rw [List.length_set]; exact hn) S2
theorem wgs_nil (h : N ms) : wpGs K n gNil [] ms N := by
  intro G F H σ gv vs Q hn S r k
  cases r
  exact ⟨rfl, k _ _ h hn S⟩
theorem wgs_cons {g : TG} {gs : TGs} {d : D} {ds : List D} (h : wpG K n g d ms fun m1 => wpGs K n gs ds m1 N) : wpGs K n (gCons g gs) (d :: ds) ms N := by
  intro G F H σ gv vs Q hn S r k
  cases r with
  | cons r1 r2 =>
    refine ⟨_, _, rfl, h G F H σ gv _ _ hn S r1 fun m1 σ1 h1 hn1 S1 => ?_⟩
    exact h1 G F H σ1 gv _ Q hn1 S1 r2 k
theorem wg_tup {g : TGs} {ds : List D} {m : Nat} (hm : ds.length = m) (h : wpGs K n g ds ms N) : wpG K n (gTup K m g) (.tup ds) ms N := by
  intro G F H σ gv v Q hn S r k
  cases r with
  | tup hs r =>
    exact ⟨_, _, rfl, (Le.of S.f).sqT hs, by rw [r.length]; exact hm, h G F H σ gv _ Q hn S r k⟩
theorem ws_asg {te : WX → TE} {g : TG} (h : wpD K n te ms (fun d m1 => wpG K n g d m1 N) X) : wpS K n (fun W => tAsg (te W) g) ms N R X := by
  intro W G F H σ gv E hn S k r x
  refine h W G F H σ gv _ hn S (fun d v m1 g1 F1 H1 p S1 r1 e1 => ?_) (fun c m g F' H' p S' e => x c m σ g F' H' p hn S' e)
  exact p G F1 H1 σ g1 v _ hn S1 r1 fun m2 σ2 h2 hn2 S2 => k m2 σ2 g1 F1 H1 h2 hn2 S2 e1
/-! ### what is walked -/
def Walks (K : PySem.W.Frag) (J : It) (F : Hp) (ds : List D) : Prop :=
  ∀ (i : Nat) (H : Hp), Same F H → (∀ d, ds[i]? = some d → J.go i H ∧ ∀ x H', J.yld i H x H' → H' = H ∧ Rp K F x d) ∧ (i = ds.length → J.stop i H)
theorem Walks.up {J : It} {F F' : Hp} {ds : List D} (w : Walks K J F ds) (e : Same F F') : Walks K J F' ds := fun i H s =>
  ⟨fun d hd => ⟨((w i H (e.trans s)).1 d hd).1, fun x H' hy => ⟨(((w i H (e.trans s)).1 d hd).2 x H' hy).1, (((w i H (e.trans s)).1 d hd).2 x H' hy).2.up e⟩⟩, (w i H (e.trans s)).2⟩
def wpI (K : PySem.W.Frag) (n : Nat) (ti : WX → TI) (ms : List MV) (P : List D → List MV → Prop) (X : XP) : Prop :=
  ∀ (W : WX) (G F H : Hp) (σ gv : List (Option V)) (Q : It → Hp → Prop), σ.length = n → St K G F H ms (σ ++ gv) →
    (∀ ds J ms' gv' F' H', P ds ms' → St K G F' H' ms' (σ ++ gv') → Walks K J F' ds → Same F F' → Q J H') →
    (∀ c ms' gv' F' H', X c ms' → St K G F' H' ms' (σ ++ gv') → Same F F' → W c none σ H') → ti W σ H Q
theorem RpL.at {F : Hp} : ∀ {vs : List V} {ds : List D} {i : Nat} {d : D}, RpL K F vs ds → ds[i]? = some d → ∃ v, vs[i]? = some v ∧ Rp K F v d
  | _, _, _, _, .nil, e => by simp at e
  | _, _, 0, _, .cons r _, e => by simp at e; subst e; exact ⟨_, rfl, r⟩
  | _, _, i + 1, _, .cons _ t, e => by
    obtain ⟨v, h1, h2⟩ := RpL.at (i := i) t (by simpa using e)
    exact ⟨v, by simpa using h1, h2⟩
theorem RpL.of {F : Hp} : ∀ {vs : List V} {ds : List D} {i : Nat} {v : V}, RpL K F vs ds → vs[i]? = some v → ∃ d, ds[i]? = some d ∧ Rp K F v d
  | _, _, _, _, .nil, e => by simp at e
  | _, _, 0, _, .cons r _, e => by simp at e; subst e; exact ⟨_, rfl, r⟩
  | _, _, i + 1, _, .cons _ t, e => by
    obtain ⟨v, h1, h2⟩ := RpL.of (i := i) t (by simpa using e)
    exact ⟨v, by simpa using h1, h2⟩
theorem walks_list {F : Hp} {a : Addr} {vs : List V} {ds : List D} (hs : SqL K F a vs) (r : RpL K F vs ds) : Walks K (Itl K a) F ds := by
  intro i H s
  refine ⟨fun d hd => ?_, fun hi => ⟨vs, s.seq hs, by rw [r.length]; omega⟩⟩
  obtain ⟨v, hv, rv⟩ := r.at hd
  refine ⟨⟨vs, v, s.seq hs, hv⟩, fun x H' hy => ?_⟩
  obtain ⟨rfl, hx⟩ := hy
  have := hx vs (s.seq hs)
  rw [hv] at this
  cases this
  exact ⟨rfl, rv⟩
theorem walks_tup {F : Hp} {a : Addr} {vs : List V} {ds : List D} (hs : SqT K F a vs) (r : RpL K F vs ds) : Walks K (Itt K a) F ds := by
  intro i H s
  have hq : ∀ {H}, Same F H → SqT K H a vs := fun s => (Le.of s).sqT hs
  refine ⟨fun d hd => ?_, fun hi => ⟨vs, hq s, by rw [r.length]; omega⟩⟩
  obtain ⟨v, hv, rv⟩ := r.at hd
  refine ⟨⟨vs, v, hq s, hv⟩, fun x H' hy => ?_⟩
  obtain ⟨rfl, hx⟩ := hy
  have := hx vs (hq s)
  rw [hv] at this
  cases this
  exact ⟨rfl, rv⟩
def rngD (lo : Int) (k : Nat) : List D := (List.range k).map fun i : Nat => D.int (lo + (i : Int))
theorem rngD_len (lo : Int) (k : Nat) : (rngD lo k).length = k := by simp [rngD]
theorem rngD_at {lo : Int} {k i : Nat} {d : D} (h : (rngD lo k)[i]? = some d) : i < k ∧ d = .int (lo + (i : Int)) := by
  have hi : i < k := by
    have := (List.getElem?_eq_some_iff.mp h).1
    rwa [rngD_len] at this
  refine ⟨hi, ?_⟩
  unfold rngD at h
  rw [List.getElem?_map, List.getElem?_range hi] at h
  exact (Option.some.inj h).symm
theorem walks_rng {F : Hp} (lo : Int) (k : Nat) : Walks K (Itr lo k) F (rngD lo k) := by
  intro i H s
  refine ⟨fun d hd => ?_, fun hi => ?_⟩
  · obtain ⟨hi, rfl⟩ := rngD_at hd
    refine ⟨hi, fun x H' hy => ?_⟩
    obtain ⟨rfl, rfl⟩ := hy
    exact ⟨rfl, .int _⟩
  · rw [rngD_len] at hi
    exact Nat.le_of_eq hi.symm
def sgnD (x : PySem.Str) : List D := x.cps.toList.map fun c => D.str ⟨#[c]⟩
theorem walks_str {F : Hp} (x : PySem.Str) : Walks K (Its x) F (sgnD x) := by
  intro i H s
  refine ⟨fun d hd => ?_, fun hi => ?_⟩
  · unfold sgnD at hd
    rw [List.getElem?_map] at hd
    cases q : x.cps.toList[i]? with
    | none => rw [q] at hd; cases hd
    | some c =>
      rw [q] at hd
      cases (Option.some.inj hd)
      have hi : i < x.cps.size := by
        have := (List.getElem?_eq_some_iff.mp q).1
        simpa using this
      refine ⟨hi, fun y H' hy => ?_⟩
      obtain ⟨rfl, c', hc, rfl⟩ := hy
      have : c' = c := by
        rw [Array.getElem?_toList] at q
        rw [q] at hc
        exact (Option.some.inj hc).symm
      subst this
      exact ⟨rfl, .str _⟩
  · show x.cps.size ≤ i
    unfold sgnD at hi
    simp at hi
    omega
theorem wi_list {te : WX → TE} {P : List D → List MV → Prop} (h : wpD K n te ms (fun d m1 => ∃ ds, d = .lst ds ∧ P ds m1) X) : wpI K n (fun W => iList K (te W)) ms P X := by
  intro W G F H σ gv Q hn S k x
  refine h W G F H σ gv _ hn S (fun d v m1 g1 F1 H1 ho S1 r1 e1 => ?_) x
  obtain ⟨ds, rfl, p⟩ := ho
  cases r1 with
  | lst hs r => exact ⟨_, rfl, ⟨_, SqL.of (S1.f _ _ hs)⟩, k ds _ m1 g1 F1 H1 p S1 (walks_list (SqL.of hs) r) e1⟩
theorem wi_tup {te : WX → TE} {P : List D → List MV → Prop} (h : wpD K n te ms (fun d m1 => ∃ ds, d = .tup ds ∧ P ds m1) X) : wpI K n (fun W => iTup K (te W)) ms P X := by
  intro W G F H σ gv Q hn S k x
  refine h W G F H σ gv _ hn S (fun d v m1 g1 F1 H1 ho S1 r1 e1 => ?_) x
  obtain ⟨ds, rfl, p⟩ := ho
  cases r1 with
  | tup hs r => exact ⟨_, rfl, ⟨_, (Le.of S1.f).sqT hs⟩, k ds _ m1 g1 F1 H1 p S1 (walks_tup hs r) e1⟩
theorem wi_str {te : WX → TE} {P : List D → List MV → Prop} (h : wpD K n te ms (fun d m1 => ∃ x, d = .str x ∧ P (sgnD x) m1) X) : wpI K n (fun W => iStr (te W)) ms P X := by
  intro W G F H σ gv Q hn S k x
  refine h W G F H σ gv _ hn S (fun d v m1 g1 F1 H1 ho S1 r1 e1 => ?_) x
  obtain ⟨z, rfl, p⟩ := ho
  cases r1
  exact ⟨_, rfl, k _ _ m1 g1 F1 H1 p S1 (walks_str z) e1⟩
theorem wi_rng1 {ta : WX → TA} {P : List D → List MV → Prop} (h : wpA K n ta ms (fun ds m1 => ∃ j : Int, ds = [.int j] ∧ j ≤ 1000000 ∧ -1000000 ≤ j ∧ P (rngD 0 j.toNat) m1) X) : wpI K n (fun W => iRng1 (ta W)) ms P X := by
  intro W G F H σ gv Q hn S k x
  refine h W G F H σ gv _ hn S (fun ds vs m1 g1 F1 H1 ho S1 r1 e1 => ?_) x
  obtain ⟨j, rfl, b1, b2, p⟩ := ho
  cases r1 with
  | cons r1 r2 =>
    cases r1
    cases r2
    exact ⟨j, rfl, by omega, by omega, k _ _ m1 g1 F1 H1 p S1 (walks_rng 0 _) e1⟩
theorem wi_rng2 {ta : WX → TA} {P : List D → List MV → Prop} (h : wpA K n ta ms (fun ds m1 => ∃ i j : Int, ds = [.int i, .int j] ∧ (j ≤ 1000000 ∧ -1000000 ≤ j) ∧ (i ≤ 1000000 ∧ -1000000 ≤ i) ∧ P (rngD i (j - i).toNat) m1) X) : wpI K n (fun W => iRng2 (ta W)) ms P X := by
  intro W G F H σ gv Q hn S k x
  refine h W G F H σ gv _ hn S (fun ds vs m1 g1 F1 H1 ho S1 r1 e1 => ?_) x
  obtain ⟨i, j, rfl, b1, b2, p⟩ := ho
  cases r1 with
  | cons r1 r2 =>
    cases r1
    cases r2 with
    | cons r2 r3 =>
      cases r2
      cases r3
      exact ⟨i, j, rfl, ⟨by omega, by omega, by omega, by omega⟩, k _ _ m1 g1 F1 H1 p S1 (walks_rng _ _) e1⟩
/-- for -/
theorem ws_for {ti : WX → TI} {g : TG} {tb : WX → TS}
    (h : wpI K n ti ms (fun ds m1 => ∃ I : Nat → List MV → Prop, I 0 m1 ∧ (∀ i d m, ds[i]? = some d → I i m → wpG K n g d m fun m2 => wpS K n tb m2 (I (i + 1)) R X) ∧ ∀ m, I ds.length m → N m) X) :
    wpS K n (fun W => tFor (ti W) g (tb W)) ms N R X := by
  intro W G F H σ gv E hn S k r x
  refine h W G F H σ gv _ hn S (fun ds J m1 g1 F1 H1 ho S1 w e1 => ?_) (fun c m g F' H' p S' e => x c m σ g F' H' p hn S' e)
  obtain ⟨I, h0, hs, hd⟩ := ho
  let Pv : Nat → L2.St → Hp → Prop := fun i σ' H' => ∃ m gv' F', I i m ∧ σ'.length = n ∧ St K G F' H' m (σ' ++ gv') ∧ Same F1 F'
  refine ⟨fun i m σ' H' => i + m = ds.length ∧ Pv i σ' H', ⟨ds.length, by omega, m1, g1, F1, h0, hn, S1, Same.refl _⟩, fun i m σ' H' hW => ?_⟩
  obtain ⟨em, m2, g2, F2, hI, hn2, S2, e2⟩ := hW
  cases q : ds[i]? with
  | none =>
    have hi : ds.length ≤ i := List.getElem?_eq_none_iff.mp q
    have hi' : i = ds.length := by omega
    subst hi'
    exact .inl ⟨((w.up e2) _ H' S2.f).2 rfl, k m2 σ' g2 F2 H' (hd _ hI) hn2 S2 (e1.trans e2)⟩
  | some d =>
    have hi : i < ds.length := (List.getElem?_eq_some_iff.mp q).1
    obtain ⟨hgo, hy⟩ := ((w.up e2) i H' S2.f).1 d q
    refine .inr ⟨hgo, Pv (i + 1), fun σ3 H3 hP => ⟨m - 1, by omega, by omega, hP⟩, fun y H3 hyl => ?_⟩
    obtain ⟨rfl, ry⟩ := hy y H3 hyl
    refine hs i d m2 q hI G F2 H3 σ' g2 y _ hn2 S2 ry fun m3 σ3 h3 hn3 S3 => ?_
    exact h3 W G F2 H3 σ3 g2 _ hn3 S3 (fun m4 σ4 g4 F4 H4 p4 l4 S4 e4 => ⟨m4, g4, F4, p4, l4, S4, e2.trans e4⟩) (fun mm v m4 σ4 g4 F4 H4 p4 l4 S4 e4 => r mm v m4 σ4 g4 F4 H4 p4 l4 S4 ((e1.trans e2).trans e4)) fun c m4 σ4 g4 F4 H4 p4 l4 S4 e4 => x c m4 σ4 g4 F4 H4 p4 l4 S4 ((e1.trans e2).trans e4)
/-- while -/
theorem ws_while {tc : WX → TT} {tb : WX → TS} (I : Nat → List MV → Prop) (h0 : ∃ q, I q ms)
    (hs : ∀ q m, I q m → wpT K n tc m (fun b m1 => if b = true then wpS K n tb m1 (fun m2 => ∃ q', q' < q ∧ I q' m2) R X else N m1) X) : wpS K n (fun W => tWhile (tc W) (tb W)) ms N R X := by
  intro W G F H σ gv E hn S k r x
  refine ⟨fun q σ' H' => ∃ m gv' F', I q m ∧ σ'.length = n ∧ St K G F' H' m (σ' ++ gv') ∧ Same F F', ?_, fun q σ' H' hW => ?_⟩
  · obtain ⟨q, hq⟩ := h0
    exact ⟨q, ms, gv, F, hq, hn, S, Same.refl _⟩
  · obtain ⟨m, g1, F1, hI, hn1, S1, e1⟩ := hW
    refine hs q m hI W G F1 H' σ' g1 _ hn1 S1 (fun b m2 g2 F2 H2 ho S2 e2 => ?_) (fun c m g F' H' p S' e => x c m σ' g F' H' p hn1 S' (e1.trans e))
    cases b with
    | false =>
      rw [if_neg Bool.false_ne_true] at ho ⊢
      exact k m2 σ' g2 F2 H2 ho hn1 S2 (e1.trans e2)
    | true =>
      rw [if_pos rfl] at ho ⊢
      refine ⟨fun σ3 H3 => ∃ q', q' < q ∧ ∃ m gv' F', I q' m ∧ σ3.length = n ∧ St K G F' H3 m (σ3 ++ gv') ∧ Same F F', fun σ3 H3 hN => hN, ?_⟩
      exact ho W G F2 H2 σ' g2 _ hn1 S2 (fun m4 σ4 g4 F4 H4 p4 l4 S4 e4 => by
        obtain ⟨q', lt, hI'⟩ := p4
        exact ⟨q', lt, m4, g4, F4, hI', l4, S4, (e1.trans e2).trans e4⟩) (fun mm v m4 σ4 g4 F4 H4 p4 l4 S4 e4 => r mm v m4 σ4 g4 F4 H4 p4 l4 S4 ((e1.trans e2).trans e4)) fun c m4 σ4 g4 F4 H4 p4 l4 S4 e4 => x c m4 σ4 g4 F4 H4 p4 l4 S4 ((e1.trans e2).trans e4)
/-! ### list comprehensions -/
def wipeM : List MV → List Nat → List MV
  | m, [] => m
  | m, v :: vs => wipeM (m.set v .un) vs
theorem wipeM_set : ∀ (vs : List Nat) (m : List MV) (v : Nat), (wipeM m vs).set v .un = wipeM (m.set v .un) vs
  | [], _, _ => rfl
  | a :: vs, m, v => by
    show (wipeM (m.set a .un) vs).set v .un = wipeM ((m.set v .un).set a .un) vs
    rw [wipeM_set vs]
    by_cases h : a = v
    · rw [h]
    · rw [List.set_comm _ _ h]
theorem St.wipe {G F H : Hp} {σ gv : List (Option V)} (S : St K G F H ms (σ ++ gv)) : ∀ (vs : List Nat), (∀ v ∈ vs, v < σ.length) → St K G F H (wipeM ms vs) (L2.wipe σ vs ++ gv)
  | [], _ => S
  | v :: vs, hv => by
    have S1 := St.wipe S vs fun u hu => hv u (List.mem_cons_of_mem _ hu)
    have S2 := S1.setU (o := none) v
    rw [set_app (by rw [wipe_length]; exact hv v List.mem_cons_self), wipeM_set] at S2
    exact S2
theorem St.unwipe {G F H : Hp} {σ gv : List (Option V)} : ∀ (vs : List Nat) {ms : List MV}, (∀ v ∈ vs, v < σ.length) → St K G F H ms (L2.wipe σ vs ++ gv) → St K G F H (wipeM ms vs) (σ ++ gv)
  | [], ms, _, S => S
  | v :: vs, ms, hv, S => by
    have hl : v < (L2.wipe σ vs).length := by rw [wipe_length]; exact hv v List.mem_cons_self
    have S2 := S.setU (o := (L2.wipe σ vs)[v]) v
    have e : ((L2.wipe σ (v :: vs) ++ gv).set v (L2.wipe σ vs)[v]) = L2.wipe σ vs ++ gv := by
      show (((L2.wipe σ vs).set v none) ++ gv).set v _ = _
      rw [List.set_append_left _ _ (by rw [List.length_set]; exact hl), List.set_set, set_self (List.getElem?_eq_getElem hl)]
    rw [e] at S2
    exact St.unwipe vs (fun u hu => hv u (List.mem_cons_of_mem _ hu)) S2
abbrev W0 : WX := fun _ _ _ _ => False
def tLcW (ti : TI) (g : TG) (tt : WX → TT) (te : WX → TE) (vs : List Nat) : TE := tLc ti g (tt W0) (te W0) vs
theorem wipe_set0 {s : L2.St} {j : Nat} {o : Option V} : ∀ vs : List Nat, (L2.wipe (s.set j o) vs).set j none = (L2.wipe s vs).set j none
  | [] => by show (s.set j o).set j none = s.set j none; rw [List.set_set]
  | v :: vs => by
    show ((L2.wipe (s.set j o) vs).set v none).set j none = ((L2.wipe s vs).set v none).set j none
    by_cases h : v = j
    · subst h
      rw [wipe_set0 vs]
    · rw [List.set_comm _ _ h, wipe_set0 vs, List.set_comm _ _ h]
theorem wipe_set {s : L2.St} {j : Nat} {o : Option V} : ∀ {vs : List Nat}, j ∈ vs → L2.wipe (s.set j o) vs = L2.wipe s vs
  | [], h => by cases h
  | v :: vs, h => by
    show (L2.wipe (s.set j o) vs).set v none = (L2.wipe s vs).set v none
    by_cases hv : j = v
    · subst hv; exact wipe_set0 vs
    · have : j ∈ vs := by
        cases h with
        | head => exact absurd rfl hv
        | tail _ h => exact h
      rw [wipe_set this]
theorem wipe_wipe {s : L2.St} : ∀ vs : List Nat, L2.wipe (L2.wipe s vs) vs = L2.wipe s vs
  | [] => rfl
  | v :: vs => by
    show (L2.wipe ((L2.wipe s vs).set v none) vs).set v none = (L2.wipe s vs).set v none
    rw [wipe_set0, wipe_wipe vs]
/-- a target that stores the block's own names alone -/
def GOk (g : TG) (vs : List Nat) : Prop := ∀ (w s0 : L2.St) (x : V) (H : Hp) (Q : L2.St → Hp → Prop), L2.wipe s0 vs = w → g x s0 H (fun s h => L2.wipe s vs = w → Q s h) → g x s0 H fun s h => L2.wipe s vs = w ∧ Q s h
def GsOk (g : TGs) (vs : List Nat) : Prop := ∀ (w s0 : L2.St) (x : List V) (H : Hp) (Q : L2.St → Hp → Prop), L2.wipe s0 vs = w → g x s0 H (fun s h => L2.wipe s vs = w → Q s h) → g x s0 H fun s h => L2.wipe s vs = w ∧ Q s h
theorem gok_name {j : Nat} {vs : List Nat} (h : j ∈ vs) : GOk (gName j) vs := fun w s0 x H Q e k => by
  have e' : L2.wipe (s0.set j (some x)) vs = w := by rw [wipe_set h]; exact e
  exact ⟨e', k e'⟩
theorem gsok_nil {vs : List Nat} : GsOk gNil vs := fun w s0 x H Q e k => ⟨k.1, e, k.2 e⟩
theorem gsok_cons {j : Nat} {gs : TGs} {vs : List Nat} (h : j ∈ vs) (hs : GsOk gs vs) : GsOk (gCons (gName j) gs) vs := fun w s0 x H Q e k => by
  obtain ⟨v, r, rfl, k⟩ := k
  exact ⟨v, r, rfl, hs w _ r H Q (by rw [wipe_set h]; exact e) k⟩
theorem gok_tup {m : Nat} {gs : TGs} {vs : List Nat} (hs : GsOk gs vs) : GOk (gTup K m gs) vs := fun w s0 x H Q e k => by
  obtain ⟨a, xs, rfl, h1, h2, k⟩ := k
  exact ⟨a, xs, rfl, h1, h2, hs w s0 xs H Q e k⟩
theorem wd_lc {ti : WX → TI} {g : TG} {tt : WX → TT} {te : WX → TE} {vs : List Nat} {P : D → List MV → Prop} (hvs : ∀ v ∈ vs, v < n) (hg : GOk g vs)
    (h : wpI K n ti ms (fun ds m1 => ds.length ≤ 1000000 ∧ ∃ I : Nat → List D → List MV → Prop, I 0 [] (wipeM m1 vs) ∧
      (∀ i d acc m, ds[i]? = some d → I i acc m → wpG K n g d m fun m2 => wpT K n tt m2 (fun b m3 => if b = true then wpD K n te m3 (fun e m4 => I (i + 1) (acc ++ [e]) (wipeM m4 vs)) noX else I (i + 1) acc (wipeM m3 vs)) noX) ∧
      ∀ acc m, I ds.length acc m → P (.lst acc) (wipeM m vs)) X) :
    wpD K n (fun W => tLcW (ti W) g tt te vs) ms P X := by
  intro W G F H σ gv Q hn S k x
  refine h W G F H σ gv _ hn S (fun ds J m1 g1 F1 H1 ho S1 w e1 => ?_) x
  obtain ⟨hlen, I, h0, hs, hd⟩ := ho
  have hvn : ∀ v ∈ vs, v < σ.length := fun v hv => by rw [hn]; exact hvs v hv
  have hwl : (L2.wipe σ vs).length = n := by rw [wipe_length]; exact hn
  intro Dl hDl
  -- the list that grows stands behind the slots
  let gh : List D → MV := fun acc => .ot Dl (.lst (acc.map .lf))
  let Pv : Nat → Hp → Prop := fun i H' => ∃ acc m gv' F', I i acc m ∧ acc.length ≤ i ∧ St K G F' H' (m ++ [gh acc]) ((L2.wipe σ vs ++ gv') ++ [some (.ref Dl)]) ∧ Same F1 F'
  have put : ∀ {G F H : Hp} {m : List MV} {s : List (Option V)} {q : MV} {o : Option V}, St K G F H (q :: m) (o :: s) → St K G F H (m ++ [q]) (s ++ [o]) := by
    intro G F H m s q o S
    refine S.sub fun h y => ?_
    have y1 : OwS K F ([q] ++ m) ([o] ++ s) h := y
    obtain ⟨a, b, p1, p2, d, rfl⟩ := OwS.split (a := [q]) (s := [o]) rfl y1
    refine ⟨_, p2.join p1 d.symm, ?_⟩
    rw [jn_comm d.symm]
    exact Same.refl _
  refine ⟨fun i m H' => i + m = ds.length ∧ Pv i H', ⟨ds.length, by omega, [], wipeM m1 vs, g1, F1, h0, by simp, ?_, Same.refl _⟩, fun i m H' hW => ?_⟩
  · exact put ((S1.wipe vs hvn).newOwn hDl (.lst (owL_of .nil) rfl))
  obtain ⟨em, acc, m2, g2, F2, hI, hacc, S2, e2⟩ := hW
  have hm2 : m2.length = (L2.wipe σ vs ++ g2).length := by
    have := S2.len
    simp only [List.length_append, List.length_cons, List.length_nil] at this ⊢
    omega
  have last : ∀ (l : List MV) (q : MV), (l ++ [q])[l.length]? = some q := fun l q => by simp
  cases q : ds[i]? with
  | none =>
    have hi : ds.length ≤ i := List.getElem?_eq_none_iff.mp q
    have hi' : i = ds.length := by omega
    subst hi'
    refine .inl ⟨((w.up e2) _ H' S2.f).2 rfl, ?_⟩
    obtain ⟨F3, e3, S3⟩ := S2.freeze (last m2 (gh acc))
    have S3' : St K G F3 H' (m2 ++ [.fz (.lst acc)]) ((L2.wipe σ vs ++ g2) ++ [some (.ref Dl)]) := by
      rw [List.set_append_right _ _ (Nat.le_refl _)] at S3
      simpa [toD_lst] using S3
    obtain ⟨v, hv, rv⟩ := S3'.get (last m2 (.fz (.lst acc)))
    have hv' : v = .ref Dl := by
      rw [hm2] at hv
      simpa using hv.symm
    subst hv'
    have S4 : St K G F3 H' m2 (L2.wipe σ vs ++ g2) := S3'.sub fun h y => by
      obtain ⟨a, b, p1, p2, d, rfl⟩ := y.split hm2
      exact ⟨a, p1, Same.jn_l⟩
    exact k _ _ _ g2 F3 H' (hd acc m2 hI) (St.unwipe vs hvn S4) rv ((e1.trans e2).trans e3)
  | some d =>
    have hi : i < ds.length := (List.getElem?_eq_some_iff.mp q).1
    obtain ⟨hgo, hy⟩ := ((w.up e2) i H' S2.f).1 d q
    refine .inr ⟨hgo, Pv (i + 1), fun H3 hP => ⟨m - 1, by omega, by omega, hP⟩, fun y H3 hyl => ?_⟩
    obtain ⟨rfl, ry⟩ := hy y H3 hyl
    obtain ⟨G', SL, back⟩ := St.lend hm2 S2
    refine hg (L2.wipe σ vs) (L2.wipe σ vs) y H3 _ (wipe_wipe vs) (hs i d acc m2 q hI G' F2 H3 (L2.wipe σ vs) g2 y _ hwl SL ry fun m3 σ3 h3 hn3 S3 ew => ?_)
    have hv3 : ∀ v ∈ vs, v < σ3.length := fun v hv => by rw [hn3]; exact hvs v hv
    refine h3 W0 G' F2 H3 σ3 g2 _ hn3 S3 (fun b m4 g4 F4 H4 ho S4 e4 => ?_) (fun c m g F' H' p S' e => p.elim)
    cases b with
    | false =>
      rw [if_neg Bool.false_ne_true] at ho ⊢
      have S5 := S4.wipe vs hv3
      rw [ew] at S5
      exact ⟨acc, _, g4, F4, ho, by omega, back F4 H4 _ _ e4 S5, e2.trans e4⟩
    | true =>
      rw [if_pos rfl] at ho ⊢
      refine ho W0 G' F4 H4 σ3 g4 _ hn3 S4 (fun e v5 m5 g5 F5 H5 hI5 S5 r5 e5 => ?_) (fun c m g F' H' p S' e => p.elim)
      have S6 := S5.wipe vs hv3
      rw [ew] at S6
      have S7 := back F5 H5 _ _ (e4.trans e5) S6
      obtain ⟨ws, hD, hwsl, f⟩ := S7.list (last _ (gh acc))
      refine ⟨ws, hD, by rw [hwsl, List.length_map, sizeLine_eq]; omega, acc ++ [e], _, g5, F5, hI5, by simp; omega, ?_, (e2.trans e4).trans e5⟩
      have S8 := f (ws ++ [v5]) (acc.map .lf ++ [.lf e]) fun h0 w0 => ⟨h0, w0.snoc r5, Same.refl _⟩
      rw [List.set_append_right _ _ (Nat.le_refl _)] at S8
      simpa [gh] using S8
end
end M
namespace M
open PySem L2
/-! ### the readings of operators, whatever the kinds -/
abbrev rAddI : R2 := rI0 fun i j => .int (i + j)
abbrev rAddS : R2 := fun x y H Q => ∃ i j, x = .str i ∧ y = .str j ∧ i.length + j.length ≤ sizeLine ∧ Q (.str (i ++ j)) H
def rAddA (K : PySem.W.Frag) : R2 := fun x y H Q => rAddI x y H Q ∨ (rAddS x y H Q ∨ (rCat x y H Q ∨ rCatA K x y H Q))
def rMulS : R2 := fun x y H Q => ∃ i j, x = .str i ∧ y = .int j ∧ MulOk i j ∧ Q (.str (Txt.mul i j)) H
def rMulA : R2 := fun x y H Q => rI CMul (fun i j => .int (i * j)) x y H Q ∨ (rMulS x y H Q ∨ rRep x y H Q)
def rEqA (K : PySem.W.Frag) : R2 := fun x y H Q => rEq x y H Q ∨ rEqD K x y H Q
def rNeA (K : PySem.W.Frag) : R2 := fun x y H Q => rNe x y H Q ∨ rNeD K x y H Q
def rIxA (K : PySem.W.Frag) : R2 := fun x y H Q => rIxL K x y H Q ∨ (rIxT K x y H Q ∨ rIxS x y H Q)
abbrev rInS : R2 := fun x y H Q => ∃ i j, x = .str i ∧ y = .str j ∧ Q (.bl (!(Builtin.Str.occurrences j i 0 j.length 1).isEmpty)) H
abbrev rNotInS : R2 := fun x y H Q => ∃ i j, x = .str i ∧ y = .str j ∧ Q (.bl (!(!(Builtin.Str.occurrences j i 0 j.length 1).isEmpty))) H
def rInA (K : PySem.W.Frag) : R2 := fun x y H Q => rIn K false x y H Q ∨ rInS x y H Q
def rNotInA (K : PySem.W.Frag) : R2 := fun x y H Q => rIn K true x y H Q ∨ rNotInS x y H Q
def rSlA' (K : PySem.W.Frag) : V → Option Int → Option Int → Hp → VK → Prop := fun x l h H Q => rSlL K x l h H Q ∨ rSlS x l h H Q
def rLenA (K : PySem.W.Frag) : List V → Hp → VK → Prop := fun xs H Q => (∃ x n, xs = [x] ∧ LenV K x H n ∧ Q (.int n) H) ∨ ∃ a kvs, xs = [V.ref a] ∧ H a = some (.dK kvs) ∧ Q (.int kvs.length) H
section
variable {X : Cx}
theorem op_mulS : OpR X (binaryOp .Mult) rMulS := by
  intro pins s σ H x y v u Q I rx ry h
  obtain ⟨i, j, rfl, rfl, hm, q⟩ := h
  obtain ⟨t, rfl⟩ := rx
  obtain ⟨t2, rfl⟩ := ry
  exact SB.mul hm fun t' k => ⟨.str _, H, I.tok _, ⟨_, rfl⟩, q⟩
theorem op_addA : OpR X (binaryOp .Add) (rAddA X.K) := OpR.or op_add (OpR.or op_add_str (OpR.or op_cat op_catA))
theorem op_mulA : OpR X (binaryOp .Mult) rMulA := OpR.or op_mul (OpR.or op_mulS op_rep)
theorem op_eqA (hu : X.A.units + 64 < cLine) : OpR X (compareOp .Eq) (rEqA X.K) := OpR.or op_eq (op_eqD hu)
theorem op_neA (hu : X.A.units + 64 < cLine) : OpR X (compareOp .NotEq) (rNeA X.K) := OpR.or op_ne (op_neD hu)
theorem op_inA : OpR X (compareOp .In) (rInA X.K) := OpR.or op_in_seq op_in_str
theorem op_notInA : OpR X (compareOp .NotIn) (rNotInA X.K) := OpR.or op_notIn_seq op_notin_str
theorem ix_any : IxR X (rIxA X.K) := by
  intro va sl pins s σ H x y v u Q I rx ry h e
  rcases h with h | h | h
  · exact ix_list va sl pins s σ H x y v u Q I rx ry h e
  · exact ix_tup va sl pins s σ H x y v u Q I rx ry h e
  · exact ix_str va sl pins s σ H x y v u Q I rx ry h e
theorem sl_any : SlR X (rSlA' X.K) := SlR.or sl_list sl_str
theorem call_lenA : CallR X (.builtin "len") (rLenA X.K) := CallR.or call_len call_lenD
end
/-! ### what they do of data -/
section
variable {K : PySem.W.Frag} {P : D → Prop}
theorem o_I0i {g : Int → Int → Int} {i j : Int} (h : P (.int (g i j))) : opD K (rI0 fun i j => .int (g i j)) (.int i) (.int j) P := by
  intro x y F H Q r1 r2 s k
  cases r1
  cases r2
  exact ⟨i, j, rfl, rfl, k _ _ F H h .refl (.int _)⟩
theorem o_I0b {g : Int → Int → Bool} {i j : Int} (h : P (.bl (g i j))) : opD K (rI0 fun i j => .bl (g i j)) (.int i) (.int j) P := by
  intro x y F H Q r1 r2 s k
  cases r1
  cases r2
  exact ⟨i, j, rfl, rfl, k _ _ F H h .refl (.bl _)⟩
theorem o_Ii {C : Int → Int → Prop} {g : Int → Int → Int} {i j : Int} (hc : C i j) (h : P (.int (g i j))) : opD K (rI C fun i j => .int (g i j)) (.int i) (.int j) P := by
  intro x y F H Q r1 r2 s k
  cases r1
  cases r2
  exact ⟨i, j, rfl, rfl, hc, k _ _ F H h .refl (.int _)⟩
theorem o_addI {i j : Int} (h : P (.int (i + j))) : opD K (rAddA K) (.int i) (.int j) P := fun x y F H Q r1 r2 s k => .inl (o_I0i (g := fun i j => i + j) h x y F H Q r1 r2 s k)
theorem o_addS {i j : PySem.Str} (hl : i.length + j.length ≤ 1000000) (h : P (.str (i ++ j))) : opD K (rAddA K) (.str i) (.str j) P := by
  intro x y F H Q r1 r2 s k
  cases r1
  cases r2
  exact .inr (.inl ⟨i, j, rfl, rfl, by rw [sizeLine_eq]; omega, k _ _ F H h .refl (.str _)⟩)
theorem RpL.app {F : Hp} : ∀ {v w : List V} {d e : List D}, RpL K F v d → RpL K F w e → RpL K F (v ++ w) (d ++ e)
  | _, _, _, _, .nil, q => q
  | _, _, _, _, .cons r t, q => .cons r (RpL.app t q)
theorem o_addL {a b : List D} (hl : a.length + b.length ≤ 1000000) (h : P (.lst (a ++ b))) : opD K (rAddA K) (.lst a) (.lst b) P := by
  intro x y F H Q r1 r2 s k
  cases r1 with
  | lst e1 r1 =>
    cases r2 with
    | lst e2 r2 =>
      refine .inr (.inr (.inl ⟨_, _, _, _, rfl, rfl, s _ _ e1, s _ _ e2, ?_, fun p hp => ?_⟩))
      · rw [r1.length, r2.length, sizeLine_eq]; omega
      · have nF := s.free hp
        exact k _ _ _ _ h (.new .refl hp) (.lst upd_same ((RpL.app r1 r2).up (same_new nF)))
theorem o_addT {a b : List D} (hl : a.length + b.length ≤ 1000000) (h : P (.tup (a ++ b))) : opD K (rAddA K) (.tup a) (.tup b) P := by
  intro x y F H Q r1 r2 s k
  cases r1 with
  | tup e1 r1 =>
    cases r2 with
    | tup e2 r2 =>
      refine .inr (.inr (.inr ⟨_, _, _, _, rfl, rfl, (Le.of s).sqT e1, (Le.of s).sqT e2, ?_, fun z => ?_, fun _ z => ?_, fun _ _ p hp => ?_⟩))
      · rw [r1.length, r2.length, sizeLine_eq]; omega
      · subst z
        cases r1
        exact k _ _ F H h .refl (.tup e2 r2)
      · subst z
        cases r2
        rw [List.append_nil] at h
        exact k _ _ F H h .refl (.tup e1 r1)
      · have nF := s.free hp
        exact k _ _ _ _ h (.new .refl hp) (.tup (SqT.of upd_same) ((RpL.app r1 r2).up (same_new nF)))
theorem o_mulI {i j : Int} (hc : CMul i j) (h : P (.int (i * j))) : opD K rMulA (.int i) (.int j) P := fun x y F H Q r1 r2 s k => .inl (o_Ii (C := CMul) (g := fun i j => i * j) hc h x y F H Q r1 r2 s k)
theorem o_mulS {i : PySem.Str} {j : Int} (hc : MulOk i j) (h : P (.str (Txt.mul i j))) : opD K rMulA (.str i) (.int j) P := by
  intro x y F H Q r1 r2 s k
  cases r1
  cases r2
  exact .inr (.inl ⟨i, j, rfl, rfl, hc, k _ _ F H h .refl (.str _)⟩)
theorem RpL.rep {F : Hp} {v : List V} {d : List D} (r : RpL K F v d) : ∀ n : Nat, RpL K F (List.replicate n v).flatten (List.replicate n d).flatten
  | 0 => .nil
  | n + 1 => by
    rw [List.replicate_succ, List.replicate_succ, List.flatten_cons, List.flatten_cons]
    exact RpL.app r (RpL.rep r n)
theorem o_mulL {a : List D} {j : Int} (h1 : -1000 ≤ j) (h2 : j ≤ 1000) (h3 : a.length ≤ 1000) (h : P (.lst (List.replicate j.toNat a).flatten)) : opD K rMulA (.lst a) (.int j) P := by
  intro x y F H Q r1 r2 s k
  cases r1 with
  | lst e1 r1 =>
    cases r2
    refine .inr (.inr ⟨_, j, _, rfl, rfl, s _ _ e1, by omega, by omega, ?_, fun p hp => ?_⟩)
    · rw [r1.length, sizeLine_eq]
      have : j.toNat ≤ 1000 := by omega
      calc a.length * j.toNat ≤ 1000 * 1000 := Nat.mul_le_mul h3 this
        _ ≤ _ := by decide
    · have nF := s.free hp
      exact k _ _ _ _ h (.new .refl hp) (.lst upd_same ((RpL.rep r1 _).up (same_new nF)))
/-! == -/
theorem o_eqS {i j : PySem.Str} (h : P (.bl (decide (i = j)))) : opD K (rEqA K) (.str i) (.str j) P := by
  intro x y F H Q r1 r2 s k
  cases r1
  cases r2
  refine .inl ⟨rfl, ?_⟩
  have : decide (V.str i = V.str j) = decide (i = j) := by simp
  rw [this]
  exact k _ _ F H h .refl (.bl _)
theorem o_eqI {i j : Int} (h : P (.bl (decide (i = j)))) : opD K (rEqA K) (.int i) (.int j) P := by
  intro x y F H Q r1 r2 s k
  cases r1
  cases r2
  refine .inl ⟨rfl, ?_⟩
  have : decide (V.int i = V.int j) = decide (i = j) := by simp
  rw [this]
  exact k _ _ F H h .refl (.bl _)
theorem o_neS {i j : PySem.Str} (h : P (.bl (!decide (i = j)))) : opD K (rNeA K) (.str i) (.str j) P := by
  intro x y F H Q r1 r2 s k
  cases r1
  cases r2
  refine .inl ⟨rfl, ?_⟩
  have : decide (V.str i = V.str j) = decide (i = j) := by simp
  rw [this]
  exact k _ _ F H h .refl (.bl _)
theorem o_neI {i j : Int} (h : P (.bl (!decide (i = j)))) : opD K (rNeA K) (.int i) (.int j) P := by
  intro x y F H Q r1 r2 s k
  cases r1
  cases r2
  refine .inl ⟨rfl, ?_⟩
  have : decide (V.int i = V.int j) = decide (i = j) := by simp
  rw [this]
  exact k _ _ F H h .refl (.bl _)
/-! data as the library has it -/
mutual
def D.py : D → PyData
  | .non => .none
  | .bl b => .bool b
  | .int i => .int i
  | .str x => .str x
  | .lst ds => .list (pys ds)
  | .tup ds => .tuple (pys ds)
  | _ => .dict []
def pys : List D → List PyData
  | [] => []
  | d :: ds => d.py :: pys ds
end
mutual
theorem Rp.dp {F : Hp} : ∀ {v : V} {d : D}, Rp K F v d → d.py.canLay0 = true → Dp K F v d.py
  | _, _, .non, _ => by simp only [D.py]; exact .non
  | _, _, .bl b, _ => by simp only [D.py]; exact .bl b
  | _, _, .int i, _ => by simp only [D.py]; exact .int i
  | _, _, .str x, _ => by simp only [D.py]; exact .str x
  | _, _, .lst e r, h => by
    simp only [D.py, PyData.canLay0] at h ⊢
    exact .lst (SqL.of e) (RpL.dp r h)
  | _, _, .tup e r, h => by
    simp only [D.py, PyData.canLay0] at h ⊢
    exact .tup e (RpL.dp r h)
  | _, _, .sq _ _, h => by simp [D.py, PyData.canLay0] at h
  | _, _, .dic _ _, h => by simp [D.py, PyData.canLay0] at h
  | _, _, .obj _ _ _, h => by simp [D.py, PyData.canLay0] at h
  | _, _, .exc _, h => by simp [D.py, PyData.canLay0] at h
  | _, _, .raw _, h => by simp [D.py, PyData.canLay0] at h
theorem RpL.dp {F : Hp} : ∀ {v : List V} {d : List D}, RpL K F v d → PyData.canLayAll0 (pys d) = true → DpAll K F v (pys d)
  | _, _, .nil, _ => by simp only [pys]; exact .nil
  | _, _, .cons r t, h => by
    simp only [pys, PyData.canLayAll0, Bool.and_eq_true] at h ⊢
    exact .cons (Rp.dp r h.1) (RpL.dp t h.2)
end
mutual
theorem Dp.up {F F' : Hp} (e : Same F F') : ∀ {v : V} {d : PyData}, Dp K F v d → Dp K F' v d
  | _, _, .non => .non
  | _, _, .bl b => .bl b
  | _, _, .int i => .int i
  | _, _, .str x => .str x
  | _, _, .lst h r => .lst (e.seq h) (DpAll.up e r)
  | _, _, .tup h r => .tup ((Le.of e).sqT h) (DpAll.up e r)
theorem DpAll.up {F F' : Hp} (e : Same F F') : ∀ {v : List V} {d : List PyData}, DpAll K F v d → DpAll K F' v d
  | _, _, .nil => .nil
  | _, _, .cons r t => .cons (Dp.up e r) (DpAll.up e t)
end
/-- fit to be compared -/
def D.sh (d : D) : Bool := SeqAt.shaped d.py
theorem D.sh_lay {d : D} (h : d.sh = true) : d.py.canLay0 = true := SeqAt.canLay_of_shaped h
theorem o_eqD {a b : D} (ha : a.sh = true) (hb : b.sh = true) (h : P (.bl (PyData.eqv a.py b.py))) : opD K (rEqA K) a b P := by
  intro x y F H Q r1 r2 s k
  exact .inr ⟨_, _, Dp.up s (r1.dp (D.sh_lay ha)), Dp.up s (r2.dp (D.sh_lay hb)), ha, hb, k _ _ F H h .refl (.bl _)⟩
theorem o_neD {a b : D} (ha : a.sh = true) (hb : b.sh = true) (h : P (.bl (!PyData.eqv a.py b.py))) : opD K (rNeA K) a b P := by
  intro x y F H Q r1 r2 s k
  exact .inr ⟨_, _, Dp.up s (r1.dp (D.sh_lay ha)), Dp.up s (r2.dp (D.sh_lay hb)), ha, hb, k _ _ F H h .refl (.bl _)⟩
mutual
theorem eqv_refl : ∀ d : PyData, d.canLay0 = true → PyData.eqv d d = true
  | .none, _ => by simp [PyData.eqv]
  | .bool _, _ => by simp [PyData.eqv]
  | .int _, _ => by simp [PyData.eqv]
  | .str _, _ => by simp [PyData.eqv]
  | .list xs, h => by
    simp only [PyData.canLay0] at h
    simp only [PyData.eqv]
    exact eqvAll_refl xs h
  | .tuple xs, h => by
    simp only [PyData.canLay0] at h
    simp only [PyData.eqv]
    exact eqvAll_refl xs h
  | .dict _, h => by simp [PyData.canLay0] at h
theorem eqvAll_refl : ∀ d : List PyData, PyData.canLayAll0 d = true → PyData.eqvAll d d = true
  | [], _ => by simp [PyData.eqvAll]
  | d :: ds, h => by
    simp only [PyData.canLayAll0, Bool.and_eq_true] at h
    simp [PyData.eqvAll, eqv_refl d h.1, eqvAll_refl ds h.2]
end
theorem o_eqSame {a : D} (ha : a.sh = true) (h : P (.bl true)) : opD K (rEqA K) a a P := o_eqD ha ha (by rw [eqv_refl _ (D.sh_lay ha)]; exact h)
theorem o_neSame {a : D} (ha : a.sh = true) (h : P (.bl false)) : opD K (rNeA K) a a P := o_neD ha ha (by rw [eqv_refl _ (D.sh_lay ha)]; exact h)
/-! is None -/
abbrev rIsN : R2 := fun x y H Q => y = .non ∧ Q (.bl (decide (x = .non))) H
abbrev rNotN : R2 := fun x y H Q => y = .non ∧ Q (.bl (!decide (x = .non))) H
def isNone : D → Option Bool
  | .non => some true
  | .raw _ => none
  | _ => some false
theorem Rp.isN {F : Hp} {v : V} {d : D} {b : Bool} (r : Rp K F v d) (h : isNone d = some b) : decide (v = .non) = b := by
  cases r <;> cases h <;> rfl
theorem o_isN {a : D} {b : Bool} (e : isNone a = some b) (h : P (.bl b)) : opD K rIsN a .non P := by
  intro x y F H Q r1 r2 s k
  cases r2
  refine ⟨rfl, ?_⟩
  rw [r1.isN e]
  exact k _ _ F H h .refl (.bl _)
theorem o_notN {a : D} {b : Bool} (e : isNone a = some b) (h : P (.bl !b)) : opD K rNotN a .non P := by
  intro x y F H Q r1 r2 s k
  cases r2
  refine ⟨rfl, ?_⟩
  rw [r1.isN e]
  exact k _ _ F H h .refl (.bl _)
/-! items -/
theorem RpL.atI {F : Hp} {vs : List V} {ds : List D} {i : Int} {d : D} (r : RpL K F vs ds) (h : L2.atI ds i = some d) : ∃ v, L2.atI vs i = some v ∧ Rp K F v d := by
  unfold L2.atI at h ⊢
  rw [r.length]
  cases q : ixN ds.length i with
  | none => rw [q] at h; cases h
  | some j => rw [q] at h; exact r.at h
theorem o_ixL {a : List D} {i : Int} {d : D} (e : L2.atI a i = some d) (h : P d) : opD K (rIxA K) (.lst a) (.int i) P := by
  intro x y F H Q r1 r2 s k
  cases r1 with
  | lst e1 r1 =>
    cases r2
    obtain ⟨v, hv, rv⟩ := r1.atI e
    exact .inl ⟨_, _, i, v, rfl, rfl, SqL.of (s _ _ e1), hv, k _ _ F H h .refl rv⟩
theorem o_ixQ {a : List D} {i : Int} {d : D} (e : L2.atI a i = some d) (h : P d) : opD K (rIxA K) (.sq a) (.int i) P := by
  intro x y F H Q r1 r2 s k
  cases r1 with
  | sq e1 r1 =>
    cases r2
    obtain ⟨v, hv, rv⟩ := r1.atI e
    exact .inl ⟨_, _, i, v, rfl, rfl, s.seq e1, hv, k _ _ F H h .refl rv⟩
theorem o_ixT {a : List D} {i : Int} {d : D} (e : L2.atI a i = some d) (h : P d) : opD K (rIxA K) (.tup a) (.int i) P := by
  intro x y F H Q r1 r2 s k
  cases r1 with
  | tup e1 r1 =>
    cases r2
    obtain ⟨v, hv, rv⟩ := r1.atI e
    exact .inr (.inl ⟨_, _, i, v, rfl, rfl, (Le.of s).sqT e1, hv, k _ _ F H h .refl rv⟩)
theorem o_ixS {z : PySem.Str} {i : Int} {c : Nat} (hl : z.length ≤ 1000000) (e : L2.atI z.cps.toList i = some c) (h : P (.str ⟨#[c]⟩)) : opD K (rIxA K) (.str z) (.int i) P := by
  intro x y F H Q r1 r2 s k
  cases r1
  cases r2
  exact .inr (.inr ⟨z, i, c, rfl, rfl, by rw [sizeLine_eq]; omega, e, k _ _ F H h .refl (.str _)⟩)
/-! in -/
def eqD : D → D → Bool
  | .non, .non => true
  | .bl a, .bl b => a == b
  | .bl a, .int b => (if a then 1 else 0) == b
  | .int a, .bl b => a == (if b then 1 else 0)
  | .int a, .int b => a == b
  | .str a, .str b => a == b
  | _, _ => false
theorem Rp_eqf {F F' : Hp} {v w : V} {d e : D} (r : Rp K F v d) (q : Rp K F' w e) (h : flat d = true) (h2 : flat e = true) : L2.eqV v w = eqD d e ∧ flatV v = true := by
  cases r with
  | non => cases q <;> first | exact ⟨rfl, rfl⟩ | cases h2
  | bl b => cases q <;> first | exact ⟨rfl, rfl⟩ | cases h2
  | int i => cases q <;> first | exact ⟨rfl, rfl⟩ | cases h2
  | str x => cases q <;> first | exact ⟨rfl, rfl⟩ | cases h2
  | lst => cases h
  | sq => cases h
  | tup => cases h
  | dic => cases h
  | obj => cases h
  | exc => cases h
  | raw => cases h
def inD (x : D) (xs : List D) : Bool := xs.any fun y => eqD y x
theorem RpL.inV {F F' : Hp} {w : V} {e : D} (q : Rp K F' w e) (h2 : flat e = true) : ∀ {vs : List V} {ds : List D}, RpL K F vs ds → ds.all flat = true → L2.inV w vs = inD e ds ∧ vs.all flatV = true
  | _, _, .nil, _ => ⟨rfl, rfl⟩
  | _, _, .cons r t, h => by
    simp only [List.all_cons, Bool.and_eq_true] at h
    obtain ⟨e1, f1⟩ := Rp_eqf r q h.1 h2
    obtain ⟨e2, f2⟩ := RpL.inV q h2 t h.2
    refine ⟨?_, by simp [f1, f2]⟩
    show (L2.eqV _ w || L2.inV w _) = (eqD _ e || inD e _)
    rw [e1, e2]
theorem Rp_flatV {F : Hp} {v : V} {d : D} (r : Rp K F v d) (h : flat d = true) : L2.flatV v = true := (Rp_eqf r r h h).2
theorem o_inT {a : D} {b : List D} (ha : flat a = true) (hb : b.all flat = true) (h : P (.bl (inD a b))) : opD K (rInA K) a (.tup b) P := by
  intro x y F H Q r1 r2 s k
  cases r2 with
  | tup e2 r2 =>
    obtain ⟨e, f⟩ := RpL.inV r1 ha r2 hb
    refine .inl ⟨_, _, rfl, .inr ((Le.of s).sqT e2), Rp_flatV r1 ha, f, ?_⟩
    rw [if_neg (by decide), e]
    exact k _ _ F H h .refl (.bl _)
theorem o_inL {a : D} {b : List D} (ha : flat a = true) (hb : b.all flat = true) (h : P (.bl (inD a b))) : opD K (rInA K) a (.lst b) P := by
  intro x y F H Q r1 r2 s k
  cases r2 with
  | lst e2 r2 =>
    obtain ⟨e, f⟩ := RpL.inV r1 ha r2 hb
    refine .inl ⟨_, _, rfl, .inl (SqL.of (s _ _ e2)), Rp_flatV r1 ha, f, ?_⟩
    rw [if_neg (by decide), e]
    exact k _ _ F H h .refl (.bl _)
theorem o_notInT {a : D} {b : List D} (ha : flat a = true) (hb : b.all flat = true) (h : P (.bl !(inD a b))) : opD K (rNotInA K) a (.tup b) P := by
  intro x y F H Q r1 r2 s k
  cases r2 with
  | tup e2 r2 =>
    obtain ⟨e, f⟩ := RpL.inV r1 ha r2 hb
    refine .inl ⟨_, _, rfl, .inr ((Le.of s).sqT e2), Rp_flatV r1 ha, f, ?_⟩
    rw [if_pos rfl, e]
    exact k _ _ F H h .refl (.bl _)
theorem o_notInL {a : D} {b : List D} (ha : flat a = true) (hb : b.all flat = true) (h : P (.bl !(inD a b))) : opD K (rNotInA K) a (.lst b) P := by
  intro x y F H Q r1 r2 s k
  cases r2 with
  | lst e2 r2 =>
    obtain ⟨e, f⟩ := RpL.inV r1 ha r2 hb
    refine .inl ⟨_, _, rfl, .inl (SqL.of (s _ _ e2)), Rp_flatV r1 ha, f, ?_⟩
    rw [if_pos rfl, e]
    exact k _ _ F H h .refl (.bl _)
theorem o_inS {i j : PySem.Str} (h : P (.bl (!(Builtin.Str.occurrences j i 0 j.length 1).isEmpty))) : opD K (rInA K) (.str i) (.str j) P := by
  intro x y F H Q r1 r2 s k
  cases r1
  cases r2
  exact .inr ⟨i, j, rfl, rfl, k _ _ F H h .refl (.bl _)⟩
/-! len, all, any, sum, ord -/
def lenD : D → Option Nat
  | .str x => some x.length
  | .lst ds => some ds.length
  | .sq ds => some ds.length
  | .tup ds => some ds.length
  | _ => none
theorem c_len {a : D} {m : Nat} (e : lenD a = some m) (hm : m ≤ 1000000) (h : P (.int m)) : cbD K (rLenA K) [a] P := by
  intro xs F H Q r s k
  cases r with
  | cons r1 r2 =>
    cases r2
    refine .inl ⟨_, m, rfl, ?_, k _ _ F H h .refl (.int _)⟩
    cases r1 with
    | str x => cases e; exact ⟨by rw [sizeLine_eq]; omega, rfl⟩
    | lst e1 r1 => cases e; exact .inl ⟨_, SqL.of (s _ _ e1), r1.length.symm⟩
    | sq e1 r1 => cases e; exact .inl ⟨_, s.seq e1, r1.length.symm⟩
    | tup e1 r1 => cases e; exact .inr ⟨_, (Le.of s).sqT e1, r1.length.symm⟩
    | non => cases e
    | bl => cases e
    | int => cases e
    | dic => cases e
    | obj => cases e
    | exc => cases e
    | raw => cases e
theorem c_lenDic {kvs : List (Key × D)} (h : P (.int kvs.length)) (hr : ∀ F a ks, Rd F a (.dK ks) → True) : True := trivial
abbrev rOrd : List V → Hp → VK → Prop := fun xs H Q => ∃ x, xs = [.str x] ∧ x.length = 1 ∧ Q (.int (x.cps.getD 0 0 : Nat)) H
theorem c_ord {c : Nat} (h : P (.int c)) : cbD K rOrd [.str ⟨#[c]⟩] P := by
  intro xs F H Q r s k
  cases r with
  | cons r1 r2 =>
    cases r2
    cases r1
    exact ⟨_, rfl, rfl, k _ _ F H h .refl (.int _)⟩
theorem RpL.bls {F : Hp} : ∀ {vs : List V} {bs : List Bool}, RpL K F vs (bs.map .bl) → vs = bs.map V.bl
  | _, [], .nil => rfl
  | _, b :: bs, .cons r t => by cases r; rw [RpL.bls t]; rfl
theorem RpL.ints {F : Hp} : ∀ {vs : List V} {bs : List Int}, RpL K F vs (bs.map .int) → vs = bs.map V.int
  | _, [], .nil => rfl
  | _, b :: bs, .cons r t => by cases r; rw [RpL.ints t]; rfl
theorem RpL.strs {F : Hp} : ∀ {vs : List V} {bs : List PySem.Str}, RpL K F vs (bs.map .str) → vs = bs.map V.str
  | _, [], .nil => rfl
  | _, b :: bs, .cons r t => by cases r; rw [RpL.strs t]; rfl
theorem RpL.ofStrs {F : Hp} : ∀ (bs : List PySem.Str), RpL K F (bs.map V.str) (bs.map .str)
  | [] => .nil
  | b :: bs => .cons (.str b) (RpL.ofStrs bs)
theorem RpL.ofInts {F : Hp} : ∀ (bs : List Int), RpL K F (bs.map V.int) (bs.map .int)
  | [] => .nil
  | b :: bs => .cons (.int b) (RpL.ofInts bs)
theorem c_all {bs : List Bool} (h : P (.bl (bs.all id))) : cbD K (rAll K) [.lst (bs.map .bl)] P := by
  intro xs F H Q r s k
  cases r with
  | cons r1 r2 =>
    cases r2
    cases r1 with
    | lst e r =>
      have := r.bls
      subst this
      exact ⟨_, bs, rfl, SqL.of (s _ _ e), k _ _ F H h .refl (.bl _)⟩
theorem c_any {bs : List Bool} (h : P (.bl (bs.any id))) : cbD K (rAny K) [.lst (bs.map .bl)] P := by
  intro xs F H Q r s k
  cases r with
  | cons r1 r2 =>
    cases r2
    cases r1 with
    | lst e r =>
      have := r.bls
      subst this
      exact ⟨_, bs, rfl, SqL.of (s _ _ e), k _ _ F H h .refl (.bl _)⟩
theorem c_sum {ns : List Int} (h : P (.int ns.sum)) : cbD K (rSum K) [.lst (ns.map .int)] P := by
  intro xs F H Q r s k
  cases r with
  | cons r1 r2 =>
    cases r2
    cases r1 with
    | lst e r =>
      have := r.ints
      subst this
      exact ⟨_, ns, rfl, SqL.of (s _ _ e), k _ _ F H h .refl (.int _)⟩
/-! texts -/
variable {n : Nat} {ms : List MV} {X : XP}
theorem wd_m0 {r : V → List V → Hp → VK → Prop} {te : WX → TE} {P : D → List MV → Prop} (h : wpD K n te ms (fun a m1 => ∃ x, a = .str x ∧ bmD K r (.str x) [] fun d => P d m1) X) : wpD K n (fun W => tM0 r (te W)) ms P X := by
  intro W G F H σ gv Q hn S k x
  refine h W G F H σ gv _ hn S (fun a v m1 g1 F1 H1 ho S1 r1 e1 => ?_) x
  obtain ⟨z, rfl, ho⟩ := ho
  cases r1
  exact ⟨⟨z, rfl⟩, ho _ [] F1 H1 Q (.str z) .nil S1.f fun d v F' H' p gr rd => k d v m1 g1 F' H' p (S1.gr gr) rd (e1.trans (gr.same S1.f).1)⟩
theorem wd_m1 {r : V → List V → Hp → VK → Prop} {te tf : WX → TE} {P : D → List MV → Prop} (h : wpD K n te ms (fun a m1 => ∃ x, a = .str x ∧ wpD K n tf m1 (fun b m2 => bmD K r (.str x) [b] fun d => P d m2) X) X) : wpD K n (fun W => tM1 r (te W) (tf W)) ms P X := by
  intro W G F H σ gv Q hn S k x
  refine h W G F H σ gv _ hn S (fun a v m1 g1 F1 H1 ho S1 r1 e1 => ?_) x
  obtain ⟨z, rfl, ho⟩ := ho
  cases r1
  refine ⟨⟨z, rfl⟩, ?_⟩
  refine ho W G F1 H1 σ g1 _ hn S1 (fun b v2 m2 g2 F2 H2 hb S2 r2 e2 => ?_) (fun c m g F' H' p S' e => x c m g F' H' p S' (e1.trans e))
  exact hb _ [v2] F2 H2 Q (.str z) (.cons r2 .nil) S2.f fun d v F' H' p gr rd => k d v m2 g2 F' H' p (S2.gr gr) rd ((e1.trans e2).trans (gr.same S2.f).1)
/-- o.m(..) of a built-in type -/
theorem wd_bm {T : String} {r : V → List V → Hp → VK → Prop} {te : WX → TE} {ta : WX → TA} {P : D → List MV → Prop}
    (h : wpD K n te ms (fun a m1 => (∀ F H v, Same F H → Rp K F v a → tyV K T v H) ∧ wpA K n ta m1 (fun as m2 => bmD K r a as fun d => P d m2) X) X) : wpD K n (fun W => tBM K T r (te W) (ta W)) ms P X := by
  intro W G F H σ gv Q hn S k x
  refine h W G F H σ gv _ hn S (fun a v m1 g1 F1 H1 ho S1 r1 e1 => ?_) x
  refine ⟨ho.1 F1 H1 v S1.f r1, ?_⟩
  refine ho.2 W G F1 H1 σ g1 _ hn S1 (fun as vs m2 g2 F2 H2 hb S2 r2 e2 => ?_) (fun c m g F' H' p S' e => x c m g F' H' p S' (e1.trans e))
  exact hb _ vs F2 H2 Q (r1.up e2) r2 S2.f fun d v F' H' p gr rd => k d v m2 g2 F' H' p (S2.gr gr) rd ((e1.trans e2).trans (gr.same S2.f).1)
theorem ty_lst {ds : List D} {F H : Hp} {v : V} (s : Same F H) (r : Rp K F v (.lst ds)) : tyV K "list" v H := by
  cases r with
  | lst e _ => exact .inl ⟨rfl, _, SqL.of (s _ _ e)⟩
/-- slices -/
def wpO (K : PySem.W.Frag) (n : Nat) (to : WX → TO) (ms : List MV) (P : Option Int → List MV → Prop) (X : XP) : Prop :=
  ∀ (W : WX) (G F H : Hp) (σ gv : List (Option V)) (Q : Option Int → Hp → Prop), σ.length = n → St K G F H ms (σ ++ gv) →
    (∀ o ms' gv' F' H', P o ms' → St K G F' H' ms' (σ ++ gv') → Same F F' → Q o H') →
    (∀ c ms' gv' F' H', X c ms' → St K G F' H' ms' (σ ++ gv') → Same F F' → W c none σ H') → to W σ H Q
theorem wo_none {P : Option Int → List MV → Prop} (h : P none ms) : wpO K n (fun _ => tNoPart) ms P X := by
  intro W G F H σ gv Q hn S k _
  exact k none ms gv F H h S (Same.refl _)
theorem wo_some {te : WX → TE} {P : Option Int → List MV → Prop} (h : wpD K n te ms (fun d m1 => ∃ i, d = .int i ∧ P (some i) m1) X) : wpO K n (fun W => tPart (te W)) ms P X := by
  intro W G F H σ gv Q hn S k x
  refine h W G F H σ gv _ hn S (fun a v m1 g1 F1 H1 ho S1 r1 e1 => ?_) x
  obtain ⟨i, rfl, p⟩ := ho
  cases r1
  exact ⟨i, rfl, k _ m1 g1 F1 H1 p S1 e1⟩
def slD (K : PySem.W.Frag) (r : V → Option Int → Option Int → Hp → VK → Prop) (a : D) (lo hi : Option Int) (P : D → Prop) : Prop :=
  ∀ (x : V) (F H : Hp) (Q : VK), Rp K F x a → Same F H → (∀ d v F' H', P d → Gr F H F' H' → Rp K F' v d → Q v H') → r x lo hi H Q
theorem wd_sl {r : V → Option Int → Option Int → Hp → VK → Prop} {te : WX → TE} {tl th : WX → TO} {P : D → List MV → Prop}
    (h : wpD K n te ms (fun a m1 => wpO K n tl m1 (fun lo m2 => wpO K n th m2 (fun hi m3 => slD K r a lo hi fun d => P d m3) X) X) X) : wpD K n (fun W => L2.tSl r (te W) (tl W) (th W)) ms P X := by
  intro W G F H σ gv Q hn S k x
  refine h W G F H σ gv _ hn S (fun a v m1 g1 F1 H1 ho S1 r1 e1 => ?_) x
  refine ho W G F1 H1 σ g1 _ hn S1 (fun lo m2 g2 F2 H2 ho2 S2 e2 => ?_) (fun c m g F' H' p S' e => x c m g F' H' p S' (e1.trans e))
  refine ho2 W G F2 H2 σ g2 _ hn S2 (fun hi m3 g3 F3 H3 ho3 S3 e3 => ?_) (fun c m g F' H' p S' e => x c m g F' H' p S' ((e1.trans e2).trans e))
  exact ho3 _ F3 H3 Q ((r1.up e2).up e3) S3.f fun d v F' H' p gr rd => k d v m3 g3 F' H' p (S3.gr gr) rd (((e1.trans e2).trans e3).trans (gr.same S3.f).1)
def cutD (xs : List D) (lo hi : Option Int) : List D := (xs.drop (HT.sIx xs.length 0 lo)).take (HT.sIx xs.length xs.length hi - HT.sIx xs.length 0 lo)
theorem RpL.drop {F : Hp} : ∀ {v : List V} {d : List D} (k : Nat), RpL K F v d → RpL K F (v.drop k) (d.drop k)
  | _, _, 0, r => r
  | _, _, _ + 1, .nil => .nil
  | _, _, k + 1, .cons _ t => RpL.drop k t
theorem RpL.take {F : Hp} : ∀ {v : List V} {d : List D} (k : Nat), RpL K F v d → RpL K F (v.take k) (d.take k)
  | _, _, 0, _ => .nil
  | _, _, _ + 1, .nil => .nil
  | _, _, k + 1, .cons r t => .cons r (RpL.take k t)
theorem s_lst {a : List D} {lo hi : Option Int} (h : P (.lst (cutD a lo hi))) : slD K (rSlA' K) (.lst a) lo hi P := by
  intro x F H Q r1 s k
  cases r1 with
  | lst e1 r1 =>
    refine .inl ⟨_, _, rfl, SqL.of (s _ _ e1), fun p hp => ?_⟩
    have nF := s.free hp
    refine k _ _ _ _ h (.new .refl hp) (.lst upd_same (RpL.up ?_ (same_new nF)))
    unfold cutV cutD
    rw [r1.length]
    exact RpL.take _ (RpL.drop _ r1)
theorem s_str {z : PySem.Str} {lo hi : Option Int} (hl : z.length ≤ 1000000) (h : P (.str (cutS z lo hi))) : slD K (rSlA' K) (.str z) lo hi P := by
  intro x F H Q r1 s k
  cases r1
  exact .inr ⟨z, rfl, by rw [sizeLine_eq]; omega, k _ _ F H h .refl (.str _)⟩
end
end M
namespace M
open PySem PySem.Spec PyProof.Rows L2
/-! ### an error that is caught and kept -/
theorem exh_ok {P : Program} {w : World} {H : Hp} {h : Heap} {a : Addr} {cls : Value} {ob : Obj} {fv : Array Value} (e : h.get? a = some ob) (z : Zc cls none ob) (d : ob.data = .fields fv) : ObjOk P w H h a (ExH cls a) :=
  ⟨⟨ob, fv, e, z.1, z.2, d⟩, ⟨ob, e⟩, fun _ _ ⟨o, f, e1, r⟩ k => ⟨o, f, k o e1, r⟩⟩
theorem Inv_adopt {X : Cx} {pins : List (Addr × Obj)} {σ : L2.St} {H : Hp} {s : Shared} {a : Addr} {cls : Value} {ob : Obj} {fv : Array Value} (I : Inv X pins σ H s) (ha : s.heap.get? a = some ob) (z : Zc cls none ob) (hd : ob.data = .fields fv) (na : H a = none) (nL : a ≠ X.env.locals)
    (h0 : X.s_0.heap.get? a = none) (np : ∀ p ∈ X.pn ++ pins, p.1 ≠ a) : Inv X pins σ (upd H a (ExH cls a)) s := by
  have far : ∀ b o, H b = some o → b ≠ a := fun b o e q => by rw [q, na] at e; cases e
  refine ⟨I.ok, I.os, I.bare, ⟨I.base.keep, I.base.slot, fun b o q n x => ?_, I.base.there, fun b xs q => ?_, fun b o u q => ?_, fun b ps q => ?_⟩, I.loc, I.cell, ?_, fun x c hc => ?_, fun p hp => ?_, HOk.laidN I.hok (fun _ _ q => q) na (exh_ok ha z hd), I.len⟩
  · rw [upd_ne (fun q' => by rw [q', h0] at q; cases q)]
    exact I.base.free b o q n x
  · have := I.base.tups b xs q
    rw [upd_ne (far _ _ this)]; exact this
  · have := I.base.frzs b o u q
    rw [upd_ne (far _ _ this)]; exact this
  · obtain ⟨more, e⟩ := I.base.tbls b ps q
    exact ⟨more, by rw [upd_ne (far _ _ e)]; exact e⟩
  · rw [upd_ne (Ne.symm nL)]; exact I.free
  · rw [upd_ne ?_]
    · exact I.freeC x c hc
    · intro q
      obtain ⟨v, cv⟩ := I.cell x c hc
      rw [q] at cv
      obtain ⟨oc, e1, e2⟩ := cv
      rw [ha] at e1
      cases e1
      rw [hd] at e2
      cases e2
  · obtain ⟨q1, q2, q3⟩ := I.pin p hp
    exact ⟨q1, by rw [upd_ne (np p hp)]; exact q2, q3⟩
/-- what 'except c as n' wishes: the error is kept behind the suite -/
def wHeld (K : PySem.W.Frag) (c : Value) (i : Nat) (ts : TS) (W : WX) (D : Ends) : WX := fun cls d σ H =>
  ∃ b, PySem.W.exmOne K cls c = some b ∧ (b = true → d = none ∧ ∀ a, H a = none → ts { nx := fun σ' H' => H' a = none → D.nx (σ'.set i none) (upd H' a (ExH cls a)), rt := fun _ _ => False } (σ.set i (some (.ref a))) H) ∧ (b = false → W cls d σ H)
def tTryHeld (K : PySem.W.Frag) (i : Nat) (C : Addr) (tb : WX → TS) (ts : TS) (W : WX) : TS := fun D σ H => tb (wHeld K (.ref C) i ts W D) D σ H
def tTryOnly (K : PySem.W.Frag) (C : Addr) (tb : WX → TS) (ts : TS) (W : WX) : TS := fun D σ H => tb (wOnly K (.ref C) (fun _ _ _ => ts) W D) D σ H
section
variable {X : Cx} {x n : PySem.Str} {C : Addr} {i : Nat} {body suite : List Stmt} {b0 : Stmt} {np pos pos' : Pos} {tb : WX → TS} {ts : TS} {Wo : WX}
theorem ps_try_held (hs : X.stack = X.env :: X.outer) (hf : X.env.frame = some X.env.locals) (hex : X.ex = []) (hN : X.N.Nodup) (hi : X.N[i]? = some n) (hln : X.env.kindOf n = some .local) (hc : Names X x (.ref C)) (tk : Takes X Wo)
    (hb : ∀ (W : WX) (pn : List (Addr × Obj)) (xe : Value → Shared → Prop), Takes (X.tr pn xe) W → PassesOwn (model X.prog X.w) X.A X.env xe → PSs (X.tr pn xe) body (tb W))
    (hsu : ∀ (a : Addr) (oe : Obj) (cls : Value) (d : Option Addr) (pn : List (Addr × Obj)), Zc cls d oe → (∃ vs, oe.data = .fields vs) → PSs (X.suite a ((a, oe) :: pn)) (b0 :: suite) ts) :
    PS X (.Try body [.ExceptHandler (some (.Name x np)) (some n) (b0 :: suite) pos'] [] [] pos) (tTryHeld X.K i C tb ts Wo) := by
  refine ⟨fun pins s σ H D I h => ?_⟩
  have okX := I.ok
  have frs0 : X.A.frames = some (X.env :: X.outer) := by rw [okX.frames, hs]
  refine wpAny_Try_except ?_
  refine wpAny_mono ((hb (wHeld X.K (.ref C) i ts Wo D) (X.pn ++ pins) (fun e s1 => wpAny (model X.prog X.w) X.A (noteFrame e X.env) (fun _ s2 => wpAny (model X.prog X.w) X.A (setFlight e none) (fun _ s3 =>
    wpAny (model X.prog X.w) X.A (handleBy e X.env [.ExceptHandler (some (.Name x np)) (some n) (b0 :: suite) pos']) (SP X pins D) X.xe s3) X.xe s2) X.xe s1) (fun u s' xx => ?_) PassesOwn.looking).run [] s σ H D (I.toTry _) h) (fun f s1 hsp => ?_) (fun e s1 he => he)
  · obtain ⟨a, B, sI, pj, σ1, H1, cls, d, rfl, Ja, nb, up, sky, na, os, ag, b, hb1, hyes, hno⟩ := xx
    have Jb : Inv X pins σ1 H1 sI := Ja.ofTry okX
    have sky1 : Sky B (X.env :: X.outer) a (Zc cls d) X.env.locals s'.heap := by rw [← hs]; exact sky
    show wpAny (model X.prog X.w) X.A (noteFrame (.ref a) X.env) _ _ _
    refine Sky.land Zc.steady frs0 hf sky1 fun h3 fly up3 => ?_
    have Jc : Inv X pins σ1 H1 { s' with heap := h3 } := Jb.landed nb fly.1 (up.trans up3) os ag
    obtain ⟨oe3, vs3, he3, hz3, hd3⟩ := fly.there
    have nfr : a ∉ frs (X.env :: X.outer) := fun hm => by
      obtain ⟨_, o', e', hnf⟩ := fly.2.2.1.mem hm
      rw [he3] at e'
      cases e'
      exact hnf _ hd3
    have nL : a ≠ X.env.locals := fun z => nfr (List.mem_filterMap.mpr ⟨X.env, List.mem_cons_self, by rw [hf, z]⟩)
    have nF : a ∉ X.fs := fun hm => by
      obtain ⟨e, he, q⟩ := List.mem_filterMap.mp hm
      exact nfr (List.mem_filterMap.mpr ⟨e, List.mem_cons_of_mem _ he, q⟩)
    -- nothing stood at a ahead of it
    have nI : sI.heap.get? a = none := by
      cases q : sI.heap.get? a with
      | none => rfl
      | some o =>
        have := nb a o q (by rw [hs]; exact nfr)
        rw [fly.2.1] at this
        cases this
    have n0 : X.s_0.heap.get? a = none := by
      cases q : X.s_0.heap.get? a with
      | none => rfl
      | some o =>
        obtain ⟨o', e⟩ := Jb.base.there a o q (by rw [hex]; exact fun z => nomatch z)
        rw [nI] at e
        cases e
    have npin : ∀ p ∈ X.pn ++ pins, p.1 ≠ a := fun p hp z => by
      have := (Jb.pin p hp).1
      rw [z, nI] at this
      cases this
    have Sc := Jc.suite he3 hd3 na nL nF
    refine wpAny_handleBy_cons (codeAny_handlers_test ?_) (by intro q; cases q)
    have Lt : PySem.W.Looks (model X.prog X.w) h3 (typeOf (.ref a)) cls := fun A Q E s k q => wpAny_typeOf_ref (k _ _ he3) (by rw [hz3.1]; exact q)
    have Lm := PySem.W.exm_one (M := model X.prog X.w) (Jc.kIn) Lt hb1
    have look : ∀ {Q : Value → Shared → Prop} {E : Value → Shared → Prop}, Q (.ref C) { s' with heap := h3 } → wpAny (model X.prog X.w) (X.A.mark (some (.ref a))) (eval (.Name x np) X.env) Q E { s' with heap := h3 } := fun {Q E} q => by
      obtain ⟨hg, hdbg, hm | ⟨hm, hv, hnn⟩⟩ := hc
      · exact ld_glob (X := X.suite a ((a, oe3) :: (X.pn ++ pins))) Sc hg hm q hdbg
      · exact ld_blt (X := X.suite a ((a, oe3) :: (X.pn ++ pins))) Sc hg hm hv q hnn hdbg
    refine look (Lm.here ?_)
    cases b with
    | true =>
      obtain ⟨rfl, hy⟩ := hyes rfl
      refine codeAny_handlers_suite_as ?_
      refine HandSPX.lands_againZ fly fun h4 fly4 up4 => ?_
      have Jd : Inv X pins σ1 H1 { s' with heap := h4 } := Jb.landed nb fly4.1 ((up.trans up3).trans up4) os ag
      obtain ⟨oe4, vs4, he4, hz4, hd4⟩ := fly4.there
      have Sd := Jd.suite he4 hd4 na nL nF
      refine store_ok (X := X.suite a ((a, oe4) :: (X.pn ++ pins))) (v := .ref a) Sd hN hi (.inl hln) rfl (fun s5 Se => ?_) (.inr hln)
      refine wpAny_mono ((hsu a oe4 cls none (X.pn ++ pins) hz4 ⟨_, hd4⟩).run [] s5 _ H1 _ Se (hy a na)) (fun f s6 hsp => ?_) (fun _ _ z => False.elim z)
      cases f with
      | next =>
        obtain ⟨σ6, H6, S6, q6⟩ := hsp
        obtain ⟨pa1, pa2, pa3⟩ := S6.pin (a, oe4) (List.mem_append_left _ List.mem_cons_self)
        have J6 : Inv X pins σ6 H6 s6 := S6.unsuite okX
        have J7 : Inv X ((a, oe4) :: pins) σ6 H6 s6 := by
          refine J6.pins_of fun p hp => ?_
          rcases List.mem_cons.mp hp with rfl | hp
          · exact ⟨pa1, pa2, pa3⟩
          · exact J6.pin p (List.mem_append_right _ hp)
        refine gone_ok J7 hN hi hln fun s8 J8 => ?_
        have e8 := (J8.pin (a, oe4) (List.mem_append_right _ List.mem_cons_self)).1
        have J9 : Inv X pins (σ6.set i none) H6 s8 := J8.pins_of fun p hp => J8.pin p (List.mem_append_right _ (List.mem_cons_of_mem _ hp))
        exact ⟨_, _, Inv_adopt J9 e8 hz4 hd4 pa2 nL n0 npin, q6 pa2⟩
      | brk =>
        obtain ⟨_, _, _, q6⟩ := hsp
        exact False.elim q6
      | cont =>
        obtain ⟨_, _, _, q6⟩ := hsp
        exact False.elim q6
      | ret u =>
        obtain ⟨_, _, _, _, _, q6⟩ := hsp
        exact False.elim q6
    | false =>
      show wpAny _ X.A (handleBy (.ref a) X.env []) _ _ _
      refine wpAny_handleBy_nil ?_
      obtain ⟨_, _, _, ob, fv, Tb, oT, tv, g1, _, g2, g3, _⟩ := id fly
      unfold PySem.passOn
      refine wpAny_bind (wpAny_field g1 g2 g3 ?_)
      rw [if_neg (show ¬ ((Value.ref Tb == Value.none) = true) from by simp)]
      have last : wpAny (model X.prog X.w) X.A (setFlight (.ref a) X.env.frame) (fun _ s4 => wpAny (model X.prog X.w) X.A (throw (.ref a) : Sem Flow) (SP X pins D) X.xe s4) X.xe { s' with heap := h3 } := by
        rw [hf]
        refine HandSPX.setFlight_upZ fly fun h4 hh up4 => wpAny_throw (tk _ _ ?_)
        exact ⟨a, B, sI, pins, σ1, H1, cls, d, rfl, Jb, nb, (up.trans up3).trans up4, .inr (.inr (by rw [hs]; exact hh)), na, os, ag, hno rfl⟩
      first
        | exact wpAny_bind (wpAny_pure (wpAny_bind last))
        | exact wpAny_bind last
  · cases f with
    | next =>
      obtain ⟨σ2, H2, J2, q⟩ := hsp
      exact wpAny_execs_nil ⟨σ2, H2, J2.ofTry okX, q⟩
    | brk =>
      obtain ⟨σ2, H2, J2, q⟩ := hsp
      exact ⟨σ2, H2, J2.ofTry okX, q⟩
    | cont =>
      obtain ⟨σ2, H2, J2, q⟩ := hsp
      exact ⟨σ2, H2, J2.ofTry okX, q⟩
    | ret u =>
      obtain ⟨v2, σ2, H2, J2, r2, q⟩ := hsp
      exact ⟨v2, σ2, H2, J2.ofTry okX, r2, q⟩
end
/-! ### the model's rule: an error that is caught gives data -/
section
variable {K : PySem.W.Frag} {n : Nat} {ms : List MV} {X : XP} {N : List MV → Prop} {R : MV → List MV → Prop}
/-- try: tb; except C as e: held = e  (e in slot i, held in slot j): the errors are those of E, all of them caught -/
theorem ws_tryHeld {i j : Nat} {C : Addr} {tb : WX → TS} {Y : XP} (hi : i < n) (hj : j < n) (hij : i ≠ j) (h : wpS K n tb ms N R Y)
    (hy : ∀ c m, Y c m → PySem.W.exmOne K c (.ref C) = some true ∧ N ((m.set j (.fz (.exc c))).set i .un)) : wpS K n (fun W => tTryHeld K i C tb (tAsg (tVar i) (gName j)) W) ms N R X := by
  intro W G F H σ gv E hn S k r x
  refine h (wHeld K (.ref C) i (tAsg (tVar i) (gName j)) W E) G F H σ gv E hn S k r (fun c m σ1 g1 F1 H1 p hn1 S1 e1 => ?_)
  obtain ⟨ex, hN⟩ := hy c m p
  refine ⟨true, ex, fun _ => ⟨rfl, fun a na => ?_⟩, fun q => nomatch q⟩
  refine ⟨.ref a, ?_, fun na' => ?_⟩
  · rw [List.getElem?_set]; simp [hi, hn1]
  have nF := S1.f.free na
  have S2 := (S1.new (o := ExH c a) na).setF (.exc (K := K) (F := upd F1 a (ExH c a)) upd_same) j
  have S3 := S2.setU (o := none) i
  have e : (((σ1 ++ g1).set j (some (.ref a))).set i none) = (((σ1.set i (some (.ref a))).set j (some (.ref a))).set i none) ++ g1 := by
    rw [List.set_append_left _ _ (by omega), List.set_append_left _ _ (by rw [List.length_set]; omega)]
    congr 1
    rw [List.set_comm _ _ hij, List.set_set]
  rw [e] at S3
  exact k _ _ g1 _ _ hN (by simp [hn1]) S3 (e1.trans (same_new nF))
/-- try: tb; except C: ts -/
theorem ws_tryOnly {C : Addr} {tb ts : WX → TS} {Y : XP} (h : wpS K n tb ms N R Y) (hy : ∀ c m, Y c m → PySem.W.exmOne K c (.ref C) = some true ∧ wpS K n ts m N R X) :
    wpS K n (fun W => tTryOnly K C tb (ts W) W) ms N R X := by
  intro W G F H σ gv E hn S k r x
  refine h (wOnly K (.ref C) (fun _ _ _ => ts W) W E) G F H σ gv E hn S k r (fun c m σ1 g1 F1 H1 p hn1 S1 e1 => ?_)
  obtain ⟨ex, hS⟩ := hy c m p
  refine ⟨true, ex, fun _ a na => ?_, fun q => nomatch q⟩
  exact hS W G F1 H1 σ1 g1 E hn1 S1 (fun m σ' g F' H' p l S' e => k m σ' g F' H' p l S' (e1.trans e)) (fun m v ms' σ' g F' H' p l S' e => r m v ms' σ' g F' H' p l S' (e1.trans e)) fun c m σ' g F' H' p l S' e => x c m σ' g F' H' p l S' (e1.trans e)
end
/-! ### defs in a bundle -/
/-- a def of the text, as the head tells it -/
structure Df (K : PySem.W.Frag) (mg : PySem.Str → Option Value) (x : PySem.Str) (st : Stmt) (ps : List PySem.Str) : Prop where
  ex : ∃ (f : Addr) (fd : FuncData), FunD K x x (defArgs st) (defBody st) (defScope st) [] [] f fd ∧ mg x = some (.ref f) ∧ Binds K fd ps []
/-- a def that keeps its promise -/
structure Ok (P : Program) (w : World) (K : PySem.W.Frag) (mg : PySem.Str → Option Value) (base : Heap) (x : PySem.Str) (ps : List PySem.Str) (k : Nat) (sp : Sp) : Prop where
  ex : ∃ (f : Addr) (fd : FuncData), FnOk P w K mg base (L2.CX P w) k f fd ps sp ∧ mg x = some (.ref f) ∧ PySem.W.keepIn K (.ref f) = true ∧ Binds K fd ps []
theorem ok_mk {P : Program} {w : World} {K : PySem.W.Frag} {mg : PySem.Str → Option Value} {base : Heap} {x : PySem.Str} {st : Stmt} {Nn ps : List PySem.Str} {k : Nat} {fs : FS} {t : WX → TS}
    (Dd : Df K mg x st ps) (S : FnScope Nn ps (defScope st)) (hnp : ps.length ≤ Nn.length)
    (hw : ∀ ms P X, fs ms P X → ms.length = ps.length ∧ wpS K Nn.length t (ms ++ List.replicate (Nn.length - ps.length) .un) (fun me => ∃ ms', Back ms me ms' ∧ P (.fz .non) ms') (fun m me => ∃ ms', Back ms me ms' ∧ P m ms') (fun c me => ∃ ms', Back ms me ms' ∧ X c ms'))
    (der : ∀ (f : Addr) (cdv : Value) (A : Around) (outer : List Env) (s : Shared) (H : Hp) (E : XK), Room k (cxOf (L2.CX P w) P w K mg base Nn x (defScope st) f cdv A outer s H E).A →
      Takes (cxOf (L2.CX P w) P w K mg base Nn x (defScope st) f cdv A outer s H E) (fun c d _ H => E c d H) →
      PassesOwn (model P w) (cxOf (L2.CX P w) P w K mg base Nn x (defScope st) f cdv A outer s H E).A (cxOf (L2.CX P w) P w K mg base Nn x (defScope st) f cdv A outer s H E).env (cxOf (L2.CX P w) P w K mg base Nn x (defScope st) f cdv A outer s H E).xe →
      PSs (cxOf (L2.CX P w) P w K mg base Nn x (defScope st) f cdv A outer s H E) (defBody st) (t (fun c d _ H => E c d H))) :
    Ok P w K mg base x ps (k + 1) (SpM K fs) := by
  obtain ⟨f, fd, F, hm, hb⟩ := Dd.ex
  refine ⟨f, fd, F.ok S (fun vs H Q E h => (fs_run (t := t) hnp hw vs H Q E h).1) (fun cdv A outer s H vs Q E hr h => ?_), hm, F.kp, hb⟩
  exact ⟨_, der f cdv A outer s H E hr (takes_of rfl rfl rfl rfl) (passes_of rfl), (fs_run hnp hw vs H Q E h).2⟩
section
variable {X : Cx} {x : PySem.Str} {ps : List PySem.Str} {k : Nat} {sp : Sp} {W : WX} {t : TA} {e : Expr} {es : List Expr} {p pos : Pos}
theorem pe_callO (o : Ok X.prog X.w X.K X.mg X.base x ps k sp) (hr : Room k X.A) (hg : Gl X x) (tk : Takes X W) (ha : PA X (e :: es) t) (hdb : (x == ("__debug__" : PySem.Str)) = false := by decide)
    (he : starEach (e :: es) X.env = (false, eval e X.env) :: starEach es X.env := by rfl) (hpl : (backTo pos (starEach es X.env)).any (·.1) = false := by rfl) : PE X (.Call (.Name x p) (e :: es) [] pos) (tCallS sp (WE W) t) := by
  obtain ⟨f, fd, F, hm, hk, hb⟩ := o.ex
  exact pe_callS F hr hg hm hk hb (fun σ => passAt tk σ) ha hdb he hpl
theorem pe_callO0 (o : Ok X.prog X.w X.K X.mg X.base x ps k sp) (hr : Room k X.A) (hg : Gl X x) (hdb : (x == ("__debug__" : PySem.Str)) = false := by decide) : PE X (.Call (.Name x p) [] [] pos) (tCall sp [] E0 tNil) := by
  obtain ⟨f, fd, F, hm, hk, hb⟩ := o.ex
  exact pe_call0 F hr hg hm hk hb .nil passL hdb
theorem pe_gstr {z : PySem.Str} (hg : Gl X x) (hm : ∃ t, X.mg x = some (.str z t)) (hd : (x == ("__debug__" : PySem.Str)) = false := by decide) : PE X (.Name x pos) (tC (.str z)) := by
  obtain ⟨t, e⟩ := hm
  exact pe_glob hg e ⟨t, rfl⟩ hd
theorem pe_gint {z : Int} (hg : Gl X x) (hm : ∃ t, X.mg x = some (.int z t)) (hd : (x == ("__debug__" : PySem.Str)) = false := by decide) : PE X (.Name x pos) (tC (.int z)) := by
  obtain ⟨t, e⟩ := hm
  exact pe_glob hg e ⟨t, rfl⟩ hd
theorem pe_gref {a : Addr} (hg : Gl X x) (hm : X.mg x = some (.ref a)) (hd : (x == ("__debug__" : PySem.Str)) = false := by decide) : PE X (.Name x pos) (tC (.ref a)) := pe_glob hg hm rfl hd
theorem pe_bty {T : String} (hg : Gl X x) (hm : X.mg x = none) (hv : bootBuiltins x = some (.type T)) (hn : x ≠ "__name__" := by decide) (hd : (x == ("__debug__" : PySem.Str)) = false := by decide) : PE X (.Name x pos) (tC (.ty T)) := pe_bltn hg hm hv rfl hn hd
end
section
variable {K : PySem.W.Frag} {n : Nat} {ms : List MV} {X : XP}
/-- f() -/
theorem wd_callZ {fs : FS} {P : D → List MV → Prop} (h : fs [] (fun m _ => ∃ d, m = .fz d ∧ P d ms) noX) : wpD K n (fun _ => tCall (SpM K fs) [] E0 tNil) ms P X := by
  intro W G F H σ gv Q hn S k x
  obtain ⟨G', S0, back⟩ := St.lend (a := []) (s := []) rfl (show St K G F H ([] ++ ms) ([] ++ (σ ++ gv)) from S)
  refine ⟨G', F, [], _, _, S0, h, fun m v ms' F' H' p S' e => ?_, fun c ms' F' H' p S' e => p.elim⟩
  obtain ⟨d, rfl, p⟩ := p
  have S3 := back F' H' _ _ e S'
  refine k d v ms gv F' H' p ?_ S'.headF e
  refine S3.sub fun h0 y => ?_
  have ly : ms'.length = 0 := by
    have := S'.len
    simpa using this
  cases ms' with
  | nil => exact y.drop
  | cons _ _ => simp at ly
end
/-! ### names of readings -/
abbrev rLower : V → List V → Hp → VK → Prop := fun x xs H Q => ∃ a, x = .str a ∧ xs = [] ∧ a.length ≤ 5592405 ∧ Q (.str (Txt.lower a)) H
abbrev rUpper : V → List V → Hp → VK → Prop := fun x xs H Q => ∃ a, x = .str a ∧ xs = [] ∧ a.length ≤ 5592405 ∧ Q (.str (Txt.upper a)) H
abbrev rIsalnum : V → List V → Hp → VK → Prop := fun x xs H Q => ∃ a, x = .str a ∧ xs = [] ∧ True ∧ Q (.bl (Txt.isalnum a)) H
abbrev rIsdigit : V → List V → Hp → VK → Prop := fun x xs H Q => ∃ a, x = .str a ∧ xs = [] ∧ True ∧ Q (.bl (Txt.isdigit a)) H
abbrev rSplit : V → List V → Hp → VK → Prop := fun x xs H Q => ∃ a b, x = .str a ∧ xs = [.str b] ∧ (b.length == 0) = false ∧ a.length + 2 ≤ sizeLine ∧ rNewStrs (Txt.split a b) H Q
abbrev rJoin (K : PySem.W.Frag) : V → List V → Hp → VK → Prop := fun x xs H Q => ∃ a p, ∃ ys : List PySem.Str, x = .str a ∧ xs = [.ref p] ∧ (SqL K H p (ys.map V.str) ∨ SqT K H p (ys.map V.str)) ∧ (ys.map (·.length)).sum + ys.length * a.length ≤ 16777216 ∧ Q (.str (Txt.join a ys)) H
section
variable {K : PySem.W.Frag} {P : D → Prop}
theorem b_lower {x : PySem.Str} (hl : x.length ≤ 1000000) (h : P (.str (Txt.lower x))) : bmD K rLower (.str x) [] P := by
  intro v xs F H Q r1 r2 s k
  cases r1
  cases r2
  exact ⟨x, rfl, rfl, by omega, k _ _ F H h .refl (.str _)⟩
theorem b_upper {x : PySem.Str} (hl : x.length ≤ 1000000) (h : P (.str (Txt.upper x))) : bmD K rUpper (.str x) [] P := by
  intro v xs F H Q r1 r2 s k
  cases r1
  cases r2
  exact ⟨x, rfl, rfl, by omega, k _ _ F H h .refl (.str _)⟩
theorem b_isalnum {x : PySem.Str} (h : P (.bl (Txt.isalnum x))) : bmD K rIsalnum (.str x) [] P := by
  intro v xs F H Q r1 r2 s k
  cases r1
  cases r2
  exact ⟨x, rfl, rfl, trivial, k _ _ F H h .refl (.bl _)⟩
theorem b_isdigit {x : PySem.Str} (h : P (.bl (Txt.isdigit x))) : bmD K rIsdigit (.str x) [] P := by
  intro v xs F H Q r1 r2 s k
  cases r1
  cases r2
  exact ⟨x, rfl, rfl, trivial, k _ _ F H h .refl (.bl _)⟩
theorem b_split {x y : PySem.Str} (hy : (y.length == 0) = false) (hl : x.length ≤ 1000000) (h : P (.lst ((Txt.split x y).map .str))) : bmD K rSplit (.str x) [.str y] P := by
  intro v xs F H Q r1 r2 s k
  cases r1
  cases r2 with
  | cons r2 r3 =>
    cases r2
    cases r3
    refine ⟨x, y, rfl, rfl, hy, by rw [sizeLine_eq]; omega, fun p hp => ?_⟩
    exact k _ _ _ _ h (.new .refl hp) (.lst upd_same (RpL.ofStrs _))
theorem b_join {x : PySem.Str} {ys : List PySem.Str} (hl : (ys.map (·.length)).sum + ys.length * x.length ≤ 16777216) (h : P (.str (Txt.join x ys))) : bmD K (rJoin K) (.str x) [.lst (ys.map .str)] P := by
  intro v xs F H Q r1 r2 s k
  cases r1
  cases r2 with
  | cons r2 r3 =>
    cases r3
    cases r2 with
    | lst e r =>
      have := r.strs
      subst this
      exact ⟨x, _, ys, rfl, rfl, .inl (SqL.of (s _ _ e)), hl, k _ _ F H h .refl (.str _)⟩
end
end M
namespace M
open PySem PySem.Spec PyProof.Rows L2
/-! ### isinstance -/
def rIsiX (K : PySem.W.Frag) : List V → Hp → VK → Prop := fun xs H Q => ∃ (a D : Addr) (c : V) (u : Value) (b : Bool), xs = [.ref a, c] ∧ ClsV c u ∧ H a = some (ExH (.ref D) a) ∧ ExcC K D ∧ PySem.W.kitOne K (.ref D) u = some b ∧ Q (.bl b) H
def rIsiA (K : PySem.W.Frag) : List V → Hp → VK → Prop := fun xs H Q => rIsiX K xs H Q ∨ rIsi K xs H Q
section
variable {X : Cx}
theorem call_isiX : CallR X (.builtin "isinstance") (rIsiX X.K) := by
  intro pins s σ H xs us Q I r h
  obtain ⟨a, D, c, u, b, rfl, hc, ha, C, e, q⟩ := h
  cases r with
  | cons rx rr =>
    cases rr with
    | cons rt rr =>
      cases rr
      cases rx
      have ec := hc.eq rt
      subst ec
      obtain ⟨⟨oe, vs, h1, h2, h3, h4⟩, _⟩ := I.hok a _ ha
      have J : PySem.W.InstAt s.heap a oe D none := by
        obtain ⟨oc, od, oda, osl⟩ := oe
        dsimp only at h2 h3 h4
        subst h2 h3 h4
        exact ⟨h1, rfl, rfl, trivial⟩
      exact PySem.W.kia_one (PySem.W.handS_kitx_exc C.hg C.hk C.hs C.hd C.ha C.hn C.ht C.hm) I.kIn J e (fun z => nomatch z) fun tk => ⟨.bl b, H, I.kept (t' := tk) fun _ _ z => z, rfl, q⟩
theorem call_isiA : CallR X (.builtin "isinstance") (rIsiA X.K) := CallR.or call_isiX call_isi
end
/-! ### xs.count(y) of flat things -/
def rCountA (K : PySem.W.Frag) : V → List V → Hp → VK → Prop := fun x xs H Q => ∃ (p : Addr) (vs : List V) (y : V), x = .ref p ∧ xs = [y] ∧ SqL K H p vs ∧ vs.all flatV = true ∧ flatV y = true ∧ Q (.int ((vs.countP fun z => L2.eqV z y : Nat) : Int)) H
def eqOf (y : V) (u : Value) : Bool := match absV u with | some z => L2.eqV z y | none => false
theorem countP_rel {y : V} : ∀ {vs : List V} {us : List Value}, Vals vs us → us.countP (eqOf y) = vs.countP fun z => L2.eqV z y
  | _, _, .nil => rfl
  | _, _, .cons (a := z) (b := u) r t => by
    rw [List.countP_cons, List.countP_cons, countP_rel t]
    have : eqOf y u = L2.eqV z y := by unfold eqOf; rw [r.abs]
    rw [this]
theorem vals_mem {u : Value} : ∀ {vs : List V} {us : List Value}, Vals vs us → u ∈ us → ∃ v ∈ vs, RelV v u
  | _, _, .nil, h => by cases h
  | _, _, .cons r t, h => by
    cases h with
    | head => exact ⟨_, List.mem_cons_self, r⟩
    | tail _ h =>
      obtain ⟨v, hv, rv⟩ := vals_mem t h
      exact ⟨v, List.mem_cons_of_mem _ hv, rv⟩
section
variable {X : Cx}
theorem mt_countA : MtR X "list.count" (rCountA X.K) := by
  intro pins s σ H x xs v us Q I rx rxs h
  obtain ⟨p, vs, y, rfl, rfl, hs, hf, hy, q⟩ := h
  cases rx
  obtain ⟨u, rfl, ru⟩ := rxs.one
  obtain ⟨its, rv, ⟨⟨cls, dd, data, sl⟩, m, ho, hc, hdn, hd⟩, hlen⟩ := I.list hs
  simp only at hc hd
  subst hc hd
  refine call_meets PySem.F.slot_list_count ⟨_, ho, rfl⟩ PySem.F.entry_list_count (PySem.F.args_list_count_2 _ _)
    (SeqAt.list_countAt p its.toArray m dd sl u (eqOf y)) ⟨ho, fun z hz => ?_, ?_⟩
  · obtain ⟨w, hw, rw_⟩ := vals_mem rv (by simpa using hz)
    have e : eqOf y z = L2.eqV w y := by unfold eqOf; rw [rw_.abs]
    rw [e]
    exact eqAt_V rw_ ru (List.all_eq_true.mp hf w hw) hy
  · have ec : its.toArray.toList.countP (eqOf y) = vs.countP fun z => L2.eqV z y := countP_rel rv
    refine ⟨.int ((vs.countP fun z => L2.eqV z y : Nat) : Int), H, I.tok _, ⟨s.toks, ?_⟩, q⟩
    show Value.int ((its.toArray.toList.countP (eqOf y) : Nat) : Int) s.toks = _
    rw [ec]
end
/-! ### dict(TURNS): pairs of texts of the written part -/
structure KPairs (K : PySem.W.Frag) (a : Addr) (kvs : List (PySem.Str × PySem.Str)) : Prop where
  ex : ∃ (its : Array Value) (n : Nat) (sl : Array (Option Value)) (Ts : Nat → Addr), K.lookup a = some ⟨.type "tuple", none, .seq its n, sl⟩ ∧ its.size = kvs.length ∧ kvs.length ≤ 100 ∧
    ∀ (j : Nat) (q : PySem.Str × PySem.Str), kvs[j]? = some q → its[j]? = some (.ref (Ts j)) ∧ ∃ (t u : Tok) (d : Option Addr) (m : Nat) (s2 : Array (Option Value)), K.lookup (Ts j) = some ⟨.type "tuple", d, .seq #[.str q.1 t, .str q.2 u] m, s2⟩
def rDictT (K : PySem.W.Frag) : List V → Hp → VK → Prop := fun xs H Q => ∃ (a : Addr) (kvs : List (PySem.Str × PySem.Str)), xs = [.ref a] ∧ KPairs K a kvs ∧ ∀ p, H p = none → Q (.ref p) (upd H p (.dK (mergeK [] (kvs.map fun q => (Sum.inr q.1, V.str q.2)))))
section
variable {X : Cx}
theorem call_dictT (hc : X.calm = true) : CallR X (.type "dict") (rDictT X.K) := by
  intro pins s σ H xs us Q I r h
  obtain ⟨a, kvs, rfl, ⟨its, m, sl, Ts, hl, hsz, h100, hk⟩, q⟩ := h
  obtain ⟨u, rfl, rx⟩ := vals1 r
  cases rx
  -- the pairs' own values
  have pick : ∀ j : Nat, ∃ tu : Tok × Tok, ∀ q, kvs[j]? = some q → PairAt s.heap (Ts j) (.str q.1 tu.1) (.str q.2 tu.2) := by
    intro j
    cases e : kvs[j]? with
    | none => exact ⟨(0, 0), fun q hq => nomatch hq⟩
    | some q0 =>
      obtain ⟨_, t, u, d, m2, s2, e2⟩ := hk j q0 e
      refine ⟨(t, u), fun q hq => ?_⟩
      cases hq
      exact .inl ⟨_, I.kIn _ _ e2, rfl, _, rfl⟩
  let tk : Nat → Tok × Tok := fun j => (pick j).choose
  have htk : ∀ j q, kvs[j]? = some q → PairAt s.heap (Ts j) (.str q.1 (tk j).1) (.str q.2 (tk j).2) := fun j q e => (pick j).choose_spec q e
  let ps : List (Value × Value) := (List.range kvs.length).zipWith (fun j q => (Value.str q.1 (tk j).1, Value.str q.2 (tk j).2)) kvs
  let kv2 : List (Key × Value) := (List.range kvs.length).zipWith (fun j q => (Sum.inr q.1, Value.str q.2 (tk j).2)) kvs
  have lps : ps.length = kvs.length := by simp [ps]
  have atp : ∀ (j : Nat) (k v : Value), ps[j]? = some (k, v) → ∃ q, kvs[j]? = some q ∧ k = Value.str q.1 (tk j).1 ∧ v = Value.str q.2 (tk j).2 := by
    intro j k v e
    have hj : j < kvs.length := by
      have := (List.getElem?_eq_some_iff.mp e).1
      rwa [lps] at this
    refine ⟨kvs[j], List.getElem?_eq_getElem hj, ?_⟩
    simp only [ps, List.getElem?_zipWith, List.getElem?_range hj, List.getElem?_eq_getElem hj] at e
    cases e
    exact ⟨rfl, rfl⟩
  have ok : PlainSeq "tuple" s.heap a its ∧ PairItems s.heap its Ts ps := by
    refine ⟨⟨_, m, I.kIn _ _ hl, rfl, rfl, rfl⟩, by rw [hsz, lps], fun j k v e => ?_⟩
    obtain ⟨q, hq, rfl, rfl⟩ := atp j k v e
    exact ⟨(hk j q hq).1, htk j q hq⟩
  have have_ : PairsHave (mixKind X.prog X.w) ps.length (PairRel ps) kv2 := by
    refine ⟨by simp [kv2, lps], fun j k v e => ?_⟩
    obtain ⟨q, hq, rfl, rfl⟩ := atp j k v e
    have hj : j < kvs.length := (List.getElem?_eq_some_iff.mp hq).1
    refine ⟨Sum.inr q.1, ?_, mixKind_str _ _ _ _⟩
    simp only [kv2, List.getElem?_zipWith, List.getElem?_range hj, hq]
  have hz : ps.length ≤ sizeLine := by rw [lps, sizeLine_eq]; omega
  have rel : ∀ (l : List (PySem.Str × PySem.Str)) (f : Nat → Tok × Tok) (i : Nat), KV (l.map fun q => (Sum.inr q.1, V.str q.2)) (List.zipWith (fun j q => ((Sum.inr q.1 : Key), Value.str q.2 (f j).2)) (List.range' i l.length) l) := by
    intro l f
    induction l with
    | nil => intro i; exact .nil
    | cons q l ih => intro i; exact .cons ⟨rfl, ⟨_, rfl⟩⟩ (ih (i + 1))
  have rel0 : KV (kvs.map fun q => (Sum.inr q.1, V.str q.2)) kv2 := by
    have := rel kvs tk 0
    simpa [kv2, List.range_eq_range'] using this
  refine PySem.call_dict_pairs (PairArg.tuple a its Ts ps) (I.ok.hd hc) ok have_ hz fun h' tk' hd' k => ?_
  have hm : (s.heap.objs.size == sysModules) = false := beq_eq_false_iff_ne.mpr (Nat.ne_of_gt I.big)
  have hlen : (mergeK [] (kvs.map fun q => (Sum.inr q.1, V.str q.2))).length ≤ sizeLine := by
    refine Nat.le_trans (length_mergeK _ []) ?_
    rw [List.length_nil, List.length_map, sizeLine_eq]; omega
  exact ⟨.ref s.heap.objs.size, upd H s.heap.objs.size (.dK _), I.laid (t' := tk') (fun b o e => k b o (fun z => nomatch z) e) (Nat.le_refl _) (show ObjOk X.prog X.w _ _ _ (.dK _) from ⟨hlen, hm, merged [] kv2, KV.merge rel0 .nil, hd'⟩), rfl, q _ (I.hok.fresh (Nat.le_refl _))⟩
end
/-! ### what they do of data -/
def keyD : D → Option Key
  | .int i => some (.inl i)
  | .str x => some (.inr x)
  | _ => none
def valD (kds : List (Key × D)) (k : Key) : Option D := (kds.find? fun kv => decide (kv.1 = k)).map (·.2)
section
variable {K : PySem.W.Frag} {P : D → Prop}
theorem Rp.key {F : Hp} {v : V} {d : D} {k : Key} (r : Rp K F v d) (h : keyD d = some k) : v = kV k := by
  cases r <;> cases h <;> rfl
theorem RpK.val {F : Hp} {k : Key} : ∀ {kvs : List (Key × V)} {kds : List (Key × D)}, RpK K F kvs kds → (valV kvs k = none ∧ valD kds k = none) ∨ ∃ v d, valV kvs k = some v ∧ valD kds k = some d ∧ Rp K F v d
  | _, _, .nil => .inl ⟨rfl, rfl⟩
  | _, _, .cons (k := k0) (v := v0) (d := d0) r t => by
    by_cases h : k0 = k
    · refine .inr ⟨v0, d0, ?_, ?_, r⟩
      · simp [valV, List.find?_cons, h]
      · simp [valD, List.find?_cons, h]
    · rcases RpK.val (k := k) t with ⟨a, b⟩ | ⟨v, d, a, b, c⟩
      · left
        constructor
        · simpa [valV, List.find?_cons, h] using a
        · simpa [valD, List.find?_cons, h] using b
      · right
        refine ⟨v, d, ?_, ?_, c⟩
        · simpa [valV, List.find?_cons, h] using a
        · simpa [valD, List.find?_cons, h] using b
theorem RpK.ofSS {F : Hp} : ∀ l : List (PySem.Str × PySem.Str), RpK K F (l.map fun q => (Sum.inr q.1, V.str q.2)) (l.map fun q => (Sum.inr q.1, .str q.2))
  | [] => .nil
  | _ :: l => .cons (.str _) (RpK.ofSS l)
variable {n : Nat} {ms : List MV} {X : XP}
/-- d.get(k, x) of a dict that is known for good -/
theorem wd_dget2 {td ty tx : WX → TE} {P : D → List MV → Prop}
    (h : wpD K n td ms (fun a m1 => ∃ kds, a = .dic kds ∧ wpD K n ty m1 (fun b m2 => ∃ k, keyD b = some k ∧ wpD K n tx m2 (fun c m3 => P ((valD kds k).getD c) m3) X) X) X) : wpD K n (fun W => tDGet2 (td W) (ty W) (tx W)) ms P X := by
  intro W G F H σ gv Q hn S kk x
  refine h W G F H σ gv _ hn S (fun a v m1 g1 F1 H1 ho S1 r1 e1 => ?_) x
  obtain ⟨kds, rfl, ho⟩ := ho
  cases r1 with
  | dic hd r =>
    rename_i ad kvs
    have hr : ∀ {F2 H2 : Hp}, Same F1 F2 → Same F2 H2 → Rd H2 ad (.dK kvs) := fun e s => (Le.of s).rdD ((Le.of e).rdD hd)
    refine ⟨_, rfl, .inl ⟨_, hr (Same.refl _) S1.f⟩, ?_⟩
    refine ho W G F1 H1 σ g1 _ hn S1 (fun b v2 m2 g2 F2 H2 ho S2 r2 e2 => ?_) (fun c m g F' H' p S' e => x c m g F' H' p S' (e1.trans e))
    obtain ⟨k, ek, ho⟩ := ho
    have := r2.key ek
    subst this
    refine ho W G F2 H2 σ g2 _ hn S2 (fun c v3 m3 g3 F3 H3 p S3 r3 e3 => ?_) (fun c m g F' H' p S' e => x c m g F' H' p S' ((e1.trans e2).trans e))
    refine ⟨valV kvs k, .inl ⟨kvs, k, hr (e2.trans e3) S3.f, rfl, rfl⟩, ?_⟩
    rcases RpK.val (k := k) r with ⟨a, b⟩ | ⟨v, d, a, b, c⟩
    · rw [a]; rw [b] at p
      exact kk _ _ m3 g3 F3 H3 p S3 r3 ((e1.trans e2).trans e3)
    · rw [a]; rw [b] at p
      exact kk _ _ m3 g3 F3 H3 p S3 (c.up (e2.trans e3)) ((e1.trans e2).trans e3)
theorem c_dictT {a : Addr} {kvs : List (PySem.Str × PySem.Str)} (hk : KPairs K a kvs) (hm : mergeK [] (kvs.map fun q => (Sum.inr q.1, V.str q.2)) = kvs.map fun q => (Sum.inr q.1, V.str q.2))
    (h : P (.dic (kvs.map fun q => (Sum.inr q.1, .str q.2)))) : cbD K (rDictT K) [.raw (.ref a)] P := by
  intro xs F H Q r s k
  cases r with
  | cons r1 r2 =>
    cases r2
    cases r1
    refine ⟨a, kvs, rfl, hk, fun p hp => ?_⟩
    rw [hm]
    refine k _ _ _ _ h (.new .refl hp) (.dic (.inl upd_same) ?_)
    exact RpK.ofSS _
theorem c_isX {D C : Addr} {b : Bool} (hc : ExcC K D) (hk : PySem.W.kitOne K (.ref D) (.ref C) = some b) (h : P (.bl b)) : cbD K (rIsiA K) [.exc (.ref D), .raw (.ref C)] P := by
  intro xs F H Q r s k
  cases r with
  | cons r1 r2 =>
    cases r2 with
    | cons r2 r3 =>
      cases r3
      cases r2
      cases r1 with
      | exc e => exact .inl ⟨_, D, _, _, b, rfl, .own C, s _ _ e, hc, hk, k _ _ F H h .refl (.bl _)⟩
theorem c_isXt {D : Addr} {T : String} {b : Bool} (hc : ExcC K D) (hk : PySem.W.kitOne K (.ref D) (.type T) = some b) (h : P (.bl b)) : cbD K (rIsiA K) [.exc (.ref D), .raw (.ty T)] P := by
  intro xs F H Q r s k
  cases r with
  | cons r1 r2 =>
    cases r2 with
    | cons r2 r3 =>
      cases r3
      cases r2
      cases r1 with
      | exc e => exact .inl ⟨_, D, _, _, b, rfl, .ty T, s _ _ e, hc, hk, k _ _ F H h .refl (.bl _)⟩
theorem RpL.countP {F F' : Hp} {w : V} {e : D} (q : Rp K F' w e) (h2 : flat e = true) : ∀ {vs : List V} {ds : List D}, RpL K F vs ds → ds.all flat = true → vs.countP (fun z => L2.eqV z w) = ds.countP (fun z => eqD z e) ∧ vs.all L2.flatV = true
  | _, _, .nil, _ => ⟨rfl, rfl⟩
  | _, _, .cons r t, h => by
    simp only [List.all_cons, Bool.and_eq_true] at h
    obtain ⟨e1, f1⟩ := Rp_eqf r q h.1 h2
    obtain ⟨e2, f2⟩ := RpL.countP q h2 t h.2
    refine ⟨?_, by simp [f1, f2]⟩
    rw [List.countP_cons, List.countP_cons, e1, e2]
theorem b_count {a : List D} {y : D} (ha : a.all flat = true) (hy : flat y = true) (h : P (.int ((a.countP fun z => eqD z y : Nat) : Int))) : bmD K (rCountA K) (.lst a) [y] P := by
  intro v xs F H Q r1 r2 s k
  cases r2 with
  | cons r2 r3 =>
    cases r3
    cases r1 with
    | lst e r =>
      obtain ⟨e1, f1⟩ := RpL.countP r2 hy r ha
      refine ⟨_, _, _, rfl, rfl, SqL.of (s _ _ e), f1, Rp_flatV r2 hy, ?_⟩
      rw [e1]
      exact k _ _ F H h .refl (.int _)
theorem pys_at {i : Nat} {d : D} : ∀ {ds : List D} {i : Nat}, ds[i]? = some d → (pys ds)[i]? = some d.py
  | [], _, h => by simp at h
  | _ :: _, 0, h => by simp at h; subst h; simp [pys]
  | _ :: ds, i + 1, h => by
    simp only [pys, List.getElem?_cons_succ] at h ⊢
    exact pys_at (i := i) h
theorem pys_of {z : PyData} : ∀ {ds : List D} {i : Nat}, (pys ds)[i]? = some z → ∃ d, ds[i]? = some d ∧ z = d.py
  | [], _, h => by simp [pys] at h
  | d :: _, 0, h => by simp [pys] at h; exact ⟨d, rfl, h.symm⟩
  | _ :: ds, i + 1, h => by
    simp only [pys, List.getElem?_cons_succ] at h ⊢
    exact pys_of (i := i) h
theorem b_index {a : List D} {y z : D} {j : Nat} (ha : (D.lst a).sh = true) (hy : y.sh = true) (hj : a[j]? = some z) (he : PyData.eqv z.py y.py = true) (hb : ∀ m d, m < j → a[m]? = some d → PyData.eqv d.py y.py = false) (h : P (.int (j : Nat))) : bmD K (rIndexD K) (.lst a) [y] P := by
  intro v xs F H Q r1 r2 s k
  cases r2 with
  | cons r2 r3 =>
    cases r3
    have q1 := Dp.up s (r1.dp (D.sh_lay ha))
    have q2 := Dp.up s (r2.dp (D.sh_lay hy))
    cases r1 with
    | lst e r =>
      simp only [D.py] at q1
      refine ⟨_, _, y.py, pys a, j, z.py, rfl, rfl, q1, q2, ?_, hy, pys_at (i := j) hj, he, fun m z' hm hz => ?_, k _ _ F H h .refl (.int _)⟩
      · have := ha
        unfold D.sh at this
        simpa only [D.py] using this
      · obtain ⟨d, hd, rfl⟩ := pys_of hz
        exact hb m d hm hd
theorem un_negI {P : D → Prop} {i : Int} (h : P (.int (-i))) : unD K (rU fun i => .int (-i)) (.int i) P := by
  intro x F H Q r s k
  cases r
  exact ⟨i, rfl, k _ _ F H h .refl (.int _)⟩
theorem wt_yes {P : Bool → List MV → Prop} (h : P true ms) : wpT K n (fun _ => tYes) ms P X := by
  intro W G F H σ gv Q hn S k _
  exact k true ms gv F H h S (Same.refl _)
/-- range(i, j, c) -/
def rngC (lo c : Int) (k : Nat) : List D := (List.range k).map fun i : Nat => D.int (lo + (i : Int) * c)
theorem walks_rngC {F : Hp} (lo c : Int) (k : Nat) : Walks K (Itc lo c k) F (rngC lo c k) := by
  intro i H s
  refine ⟨fun d hd => ?_, fun hi => ?_⟩
  · have hi : i < k := by
      have := (List.getElem?_eq_some_iff.mp hd).1
      simpa [rngC] using this
    unfold rngC at hd
    rw [List.getElem?_map, List.getElem?_range hi] at hd
    cases hd
    refine ⟨hi, fun x H' hy => ?_⟩
    obtain ⟨rfl, rfl⟩ := hy
    exact ⟨rfl, .int _⟩
  · have : i = k := by simpa [rngC] using hi
    exact Nat.le_of_eq this.symm
theorem wi_rng3 {ta : WX → TA} {P : List D → List MV → Prop} (h : wpA K n ta ms (fun ds m1 => ∃ (i j c : Int) (k : Nat), ds = [.int i, .int j, .int c] ∧ RgC i j c k ∧ P (rngC i c k) m1) X) : wpI K n (fun W => iRng3 (ta W)) ms P X := by
  intro W G F H σ gv Q hn S k x
  refine h W G F H σ gv _ hn S (fun ds vs m1 g1 F1 H1 ho S1 r1 e1 => ?_) x
  obtain ⟨i, j, c, kk, rfl, b1, p⟩ := ho
  cases r1 with
  | cons r1 r2 =>
    cases r1
    cases r2 with
    | cons r2 r3 =>
      cases r2
      cases r3 with
      | cons r3 r4 =>
        cases r3
        cases r4
        exact ⟨i, j, c, kk, rfl, b1, k _ _ m1 g1 F1 H1 p S1 (walks_rngC _ _ _) e1⟩
end
end M
namespace M
open PySem PySem.Spec PyProof.Rows L2
/-! ### plain comprehensions -/
theorem wipeM_twice : ∀ (vs : List Nat) (m : List MV), wipeM (wipeM m vs) vs = wipeM m vs
  | [], _ => rfl
  | v :: vs, m => by
    show wipeM ((wipeM (m.set v .un) vs).set v .un) vs = wipeM (m.set v .un) vs
    rw [wipeM_set, List.set_set, wipeM_twice vs]
theorem wd_lcMap {K : PySem.W.Frag} {n : Nat} {ms : List MV} {X : XP} {ti : WX → TI} {g : TG} {tt : WX → TT} {te : WX → TE} {vs : List Nat} {P : D → List MV → Prop} (hvs : ∀ v ∈ vs, v < n) (hg : GOk g vs)
    (h : wpI K n ti ms (fun ds m1 => ds.length ≤ 1000000 ∧ ∃ (f : D → Bool) (u : D → D), (∀ d ∈ ds, wpG K n g d (wipeM m1 vs) fun m2 => wpT K n tt m2 (fun b m3 => b = f d ∧ wipeM m3 vs = wipeM m1 vs ∧ (b = true → wpD K n te m3 (fun e m4 => e = u d ∧ wipeM m4 vs = wipeM m1 vs) noX)) noX) ∧
      P (.lst ((ds.filter f).map u)) (wipeM m1 vs)) X) : wpD K n (fun W => tLcW (ti W) g tt te vs) ms P X := by
  refine wd_lc hvs hg ?_
  intro W G F H σ gv Q hn S k x
  refine h W G F H σ gv Q hn S (fun ds J m1 g1 F1 H1 ho S1 w e1 => k ds J m1 g1 F1 H1 ?_ S1 w e1) x
  obtain ⟨hl, f, u, hd, hP⟩ := ho
  refine ⟨hl, fun i acc m => m = wipeM m1 vs ∧ acc = ((ds.take i).filter f).map u, ⟨rfl, rfl⟩, ?_, ?_⟩
  · rintro i d acc m hi ⟨rfl, rfl⟩
    have hm : d ∈ ds := List.mem_of_getElem? hi
    have nxt : ((ds.take (i + 1)).filter f).map u = ((ds.take i).filter f).map u ++ (if f d = true then [u d] else []) := by
      rw [List.take_add_one, hi]
      cases q : f d <;> simp [q]
    intro G F H σ gv v Q hn S r k
    refine hd d hm G F H σ gv v Q hn S r fun m2 σ2 h2 l2 S2 => k m2 σ2 ?_ l2 S2
    refine h2.mono (fun b m3 hb => ?_) (fun _ _ z => z)
    obtain ⟨rfl, hw, he⟩ := hb
    by_cases q : f d = true
    · rw [if_pos q]
      refine (he q).mono (fun e m4 z => ?_) (fun _ _ z => z)
      obtain ⟨rfl, hw4⟩ := z
      exact ⟨hw4, by rw [nxt, if_pos q]⟩
    · rw [if_neg q]
      exact ⟨hw, by rw [nxt, if_neg q, List.append_nil]⟩
  · rintro acc m ⟨rfl, rfl⟩
    rw [List.take_length, wipeM_twice]
    exact hP
/-- a statement, then the rest, with a word between them -/
theorem ws_cut {K : PySem.W.Frag} {n : Nat} {ms : List MV} {X : XP} {N : List MV → Prop} {R : MV → List MV → Prop} {t u : WX → TS} (Mid : List MV → Prop) (h : wpS K n t ms Mid R X) (k : ∀ m, Mid m → wpS K n u m N R X) : wpS K n (fun W => tSeq (t W) (u W)) ms N R X :=
  ws_seq (h.mono k (fun _ _ z => z) (fun _ _ z => z))
end M
namespace M
open PySem PySem.Spec PyProof.Rows L2
/-! ### len(set(names)): names a list of texts -/
/-- how many texts there are, each told once -/
def ddN : List PySem.Str → List PySem.Str → Nat
  | _, [] => 0
  | seen, x :: r => (if seen.contains x then 0 else 1) + ddN (x :: seen) r
section
variable {prog : Program} {w : World} {A : Around} {R : Result → Shared → Prop} {I : Addr} {fp wr : List Addr} {G : Array GenState → Array GenState → Prop} {n : Nat} {P : Nat → Value → Prop} {St : Nat → Shared → Prop}
abbrev Holds1 (prog : Program) (w : World) (h : Heap) (S : Addr) (seen : List PySem.Str) (m : Nat) : Prop := h.SetOf (strKind prog w) S (fun k => seen.contains k) m
theorem Holds1.at {h h' : Heap} {S : Addr} {seen : List PySem.Str} {m : Nat} (x : Holds1 prog w h S seen m) (k : ∀ o, h.get? S = some o → h'.get? S = some o) : Holds1 prog w h' S seen m := by
  obtain ⟨o, es, ep, t, ho, r⟩ := x; exact ⟨o, es, ep, t, k o ho, r⟩
theorem set_loopS (W : WalksS prog w A.in1 I fp wr G n P St) {S : Addr} (nf : S ∉ fp) : ∀ (xs seen : List PySem.Str) (i m : Nat) (s : Shared), i + xs.length = n → (∀ j x, xs[j]? = some x → ∀ v, P (i + j) v → ∃ t, v = .str x t) → m + xs.length + 1 < scanBound →
    St i s → Holds1 prog w s.heap S seen m → (∀ s' seen', Moved (S :: wr) G s s' → Holds1 prog w s'.heap S seen' (m + ddN seen xs) → R (.ok (.ret .none)) s') →
    codeAny (model prog w) A (.builtin "set.update.loop" ⟨[.ref S, .ref I], []⟩) R s := by
  have nw : S ∉ wr := fun z => nf (W.sub _ z)
  intro xs
  induction xs with
  | nil =>
    intro seen i m s e hv hb hst hS hR
    obtain rfl : i = n := e
    refine codeAny_builtin PyProof.Rows.F.entry_set_update_loop (by
      rw [Around.under_plainId PyProof.Rows.F.plain_set_update_loop _]; show wpAny _ A.in1 (pyNext (.ref I) >>= _) _ _ s
      refine wpAny_bind (W.done s _ _ hst fun s' mv => ?_); show wpAny _ A.in1 (ret Value.none) _ _ s'
      exact wpAny_pure (hR s' seen (mv.mono fun b z => .tail _ z) (hS.at fun o => mv.heap S o nw)))
  | cons x r ih =>
    intro seen i m s e hv hb hst hS hR
    have lt : i < n := by rw [List.length_cons] at e; omega
    refine codeAny_builtin PyProof.Rows.F.entry_set_update_loop (by
      rw [Around.under_plainId PyProof.Rows.F.plain_set_update_loop _]; show wpAny _ A.in1 (pyNext (.ref I) >>= _) _ _ s
      refine wpAny_bind (W.item i s _ _ lt hst fun v s' hP st' mv => ?_)
      obtain ⟨t, rfl⟩ := hv 0 x rfl v (by simpa using hP)
      show wpAny _ A.in1 (holding [Value.str x t] (setAdd S (.str x t)) >>= _) _ _ s'; refine wpAny_bind (wpAny_holding (by
        unfold setAdd; refine wpAny_holding (wpAny_bind ((strKind prog w).pyHash (k := x) (strKind_is _ _ _ _) ?_))
        refine wpAny_setAddHashed_of (knd := strKind prog w) (s := { s' with toks := s'.toks + 1 }) (strKind_is _ _ _ _) rfl (hS.at fun o => mv.heap S o nw) (by rw [List.length_cons] at hb; omega) fun h' sb hS2 => ?_
        have h2 : Holds1 prog w h' S (x :: seen) (m + if seen.contains x then 0 else 1) := PyProof.Rows.SetOf_congr hS2 (fun k => by
          rw [List.contains_cons, Bool.or_comm]; congr 1) (by cases seen.contains x <;> simp)
        refine wpAny_pure ⟨plainId_quiet PyProof.Rows.F.plain_set_update_loop _, ih (x :: seen) (i + 1) _ _ (by rw [List.length_cons] at e; omega) (fun j y hj v hP => hv (j + 1) y hj v (by rw [show i + (j + 1) = i + 1 + j by omega]; exact hP)) ?_ (W.frame _ s' _ _ st' (Nat.le_succ _) fun b hb o ho => ?_) h2 fun s2 seen' mv2 hS3 => ?_⟩
        · rw [List.length_cons] at hb; split <;> omega
        · rw [sb.2 b fun z => nf (z ▸ hb)]; exact ho
        · refine hR s2 seen' (Moved.trans W.gtrans ((mv.mono fun b z => .tail _ z).then_heap (Nat.le_succ _) fun b o hb ho => ?_) mv2) (by rw [ddN, ← Nat.add_assoc]; exact hS3)
          rw [sb.2 b fun z => hb (z ▸ .head _)]; exact ho)))
end
section
variable {prog : Program} {w : World} {A : Around} {E : Value → Shared → Prop} {s : Shared}
def setO (led : Bool) : Obj := { cls := .type "set", dict := none, data := .set #[] 0 (.fresh 0 0 led) }
set_option maxHeartbeats 3200000 in
theorem call_set_texts {l : Addr} {items : Array Value} {xs : List PySem.Str} {Q : Value → Shared → Prop} (hh : A.handled = none) (hl : s.heap.IsList l items) (hi : StrsAre items.toList xs) (hb : xs.length + 1 < scanBound)
    (h : ∀ (h' : Heap) (tk : Nat) (seen : List PySem.Str), Holds1 prog w h' s.heap.objs.size seen (ddN [] xs) → (∀ b o, b < s.heap.objs.size → s.heap.get? b = some o → h'.get? b = some o) → Q (.ref s.heap.objs.size) { s with heap := h', toks := tk }) :
    wpAny (model prog w) A (call (.type "set") [.ref l]) Q E s := by
  obtain ⟨c, tl, hmro⟩ := PySem.F.called_set.mro
  have hmade := PySem.F.called_set.made; have hsub := PySem.F.called_set.sub
  refine wpAny_call (codeAny_of_tree (show wpAny _ _ (callAny (.type "set") _) _ _ _ from wpAny_pure ⟨Code.quiet_builtin _ (by decide +kernel), codeAny_builtin PySem.F.entry_type_call ?_⟩))
  rw [Around.under_plain (weight_type_call_type "set" [.ref l] []) rfl]
  have h1 := PySem.F.called_set.notType; have h2 := PySem.F.called_set.canCreate; have hct := PySem.F.typeCall_set_1 (.ref l)
  repeat (any_goals (first | assumption | wp_step))
  refine codeAny_mono (code_set_new_1 (.ref l) (E := E) (Q₁ := fun obj s₁ => ∃ led : Bool, obj = .ref s.heap.objs.size ∧ s₁ = { s with heap := s.heap.push (setO led) }) fun led => ⟨led, rfl, rfl⟩) fun r s₁ hr => ?_
  match r, hr with
  | .ok (.ret obj), hr =>
    obtain ⟨led, rfl, rfl⟩ := hr
    have hS : (s.heap.push (setO led)).get? s.heap.objs.size = some (setO led) := Heap.get?_push_size _ rfl
    have hT : Shared.TypeIs { s with heap := s.heap.push (setO led) } (.ref s.heap.objs.size) "set" := ⟨_, hS, rfl⟩
    have hli := PySem.F.called_set.init.lookup; have hbi := PySem.F.called_set.init.bind (.ref s.heap.objs.size)
    repeat (any_goals (first | assumption | wp_step))
    refine codeAny_mono (codeAny_call_builtin (R := wants (fun r s₂ => r = .none ∧ ∃ h' tk seen, s₂ = { s with heap := h', toks := tk } ∧ Holds1 prog w h' s.heap.objs.size seen (ddN [] xs) ∧ (∀ b o, b < s.heap.objs.size → s.heap.get? b = some o → h'.get? b = some o)) E) PySem.F.called_set.init.plain PySem.F.entry_set_init (check_set_init_1 hT ?_)) fun r₂ s₂ hr₂ => ?_
    · obtain ⟨⟨ocls, odict, odata, oslots⟩, hol, hcl, nl, hdl⟩ := hl
      simp only at hcl hdl
      subst hcl hdl
      have hol' : (s.heap.push (setO led)).get? l = some { cls := .type "list", dict := odict, data := .seq items nl, slots := oslots } := Heap.get?_push_of_some _ hol
      have hsls := PySem.F.sub_list_set; have hslf := PySem.F.sub_list_frozenset
      have hne : (Value.type "list" == Value.type "dict") = false := by decide
      have hl1 : (s.heap.push (setO led)).IsList l items := ⟨_, hol', rfl, nl, rfl⟩
      unfold Builtin.«set.__init__» noKeywords Builtin.Frozenset.updateFrom; generalize hPI : pyIter = PI; wp_walk; subst hPI
      refine wpAny_pyIter_list hl1 (wpAny_bind (wpAny_runValue ?_))
      have hlS : l < s.heap.objs.size := Heap.lt_size hol
      have z1 : (s.heap.push (setO led)).objs.size = s.heap.objs.size + 1 := Heap.size_push _ _
      have hneI : l ≠ (s.heap.push (setO led)).objs.size := by rw [z1]; exact Nat.ne_of_lt (Nat.lt_succ_of_lt hlS)
      have hsz : xs.length = items.size := by rw [← StrsAre.len_eq hi, Array.length_toList]
      refine set_loopS ((Walks.list (A := A.in1.in1.in1) (by simp [hh]) _ l hneI items).toS) (S := s.heap.objs.size) (by rw [z1]; simp only [List.mem_cons, List.not_mem_nil, or_false, not_or]; exact ⟨Nat.ne_of_lt (Nat.lt_succ_self _), Nat.ne_of_gt hlS⟩) xs [] 0 0 _ (by omega) (fun j x hj v hP => ?_) (by omega) ⟨⟨_, Heap.get?_push_size _ rfl, rfl, rfl⟩, (hl1.push _)⟩ ?_ ?_
      · have hj2 : j < xs.length := (List.getElem?_eq_some_iff.mp hj).1
        obtain ⟨t, e⟩ := SS.strs_at hi j v (by rw [Array.getElem?_toList]; simpa using hP)
        refine ⟨t, ?_⟩
        rw [e, List.getD_eq_getElem?_getD, hj]; rfl
      · exact PyProof.Rows.SetOf_congr ((PyProof.Rows.setObjOf_fresh (knd := PySem.strKind prog w) led).setOf (Heap.get?_push_of_some _ hS) (by unfold scanBound; omega)) (fun _ => rfl) rfl
      · intro s' seen' hm hS'
        obtain ⟨h', g', d', tk', os'⟩ := s'
        obtain rfl : g' = s.gens := hm.gens
        obtain rfl : d' = s.drawn := hm.drawn
        obtain rfl : os' = s.os := hm.os
        refine wpAny_pure (show wpAny _ _ (ret Value.none) _ _ _ from wpAny_pure ⟨rfl, h', tk', seen', rfl, by simpa using hS', fun b o hb e => ?_⟩)
        exact hm.heap b o (by rw [z1]; simp only [List.mem_cons, List.not_mem_nil, or_false, not_or]; exact ⟨Nat.ne_of_lt hb, Nat.ne_of_lt (Nat.lt_succ_of_lt hb)⟩) (Heap.get?_push_of_some _ (Heap.get?_push_of_some _ e))
    · match r₂, hr₂ with
      | .ok (.ret r), hr₂ =>
        obtain ⟨rfl, h', tk, seen, rfl, hS', hk'⟩ := hr₂
        repeat (any_goals (first | assumption | wp_step))
        exact h _ _ _ hS' hk'
      | .error e, hr₂ => exact hr₂
  | .error e, hr => exact hr
end
section
variable {X : Cx}
def tLenSetS (K : PySem.W.Frag) (ta : TE) : TE := fun σ H Q => ta σ H fun x H1 => ∃ l, ∃ xs : List PySem.Str, x = .ref l ∧ SqL K H1 l (xs.map V.str) ∧ xs.length ≤ 1000 ∧ Q (.int (ddN [] xs : Nat)) H1
theorem ddN_le : ∀ (xs seen : List PySem.Str), ddN seen xs ≤ xs.length
  | [], _ => Nat.le_refl _
  | x :: r, seen => by
    have := ddN_le r (x :: seen)
    rw [ddN, List.length_cons]
    split <;> omega
theorem pe_lenSetS {a : Expr} {ta : TE} {p p2 q pos : Pos} (hc : X.calm = true) (hg : Gl X "len") (hm : X.mg "len" = none) (hg2 : Gl X "set") (hm2 : X.mg "set" = none) (ha : PE X a ta)
    (na : starEach [a] X.env = (false, eval a X.env) :: starEach [] X.env := by rfl) : PE X (.Call (.Name "len" p) [.Call (.Name "set" p2) [a] [] q] [] pos) (tLenSetS X.K ta) := by
  refine ⟨fun pins s σ H Q I h => Call_ (ld_blt I hg hm boot_len (PyProof.Rows.callWith_builtin1 (PyProof.Rows.args_cons ?_ rfl) rfl rfl))⟩
  refine Call_ (ld_blt I hg2 hm2 boot_set (PyProof.Rows.callWith_type1 (PyProof.Rows.args_cons (thn (ha.run pins s σ H _ I h) fun v s1 ⟨x, H1, I1, r1, l, xs, ex, hq, h1, q1⟩ => PyProof.Rows.args_nil ?_) na) na rfl))
  subst ex
  cases r1
  obtain ⟨its, r, pl, hz⟩ := I1.list hq
  refine call_set_texts (I1.ok.hd hc) pl.isList (by simpa using strsAre_of r) (by unfold scanBound; omega) fun h' tk seen hS hk => PyProof.Rows.args_nil ?_
  obtain ⟨o, es, ep, t, ho, hex, hd, _, _, _, hf, hn⟩ := hS
  have I2 : Inv X pins σ H1 { s1 with heap := h', toks := tk } := I1.kept fun b o e => hk b o (Heap.lt_size e) e
  have := ddN_le xs []
  exact call_len_set ho hex hd hf (by rw [hn]; omega) ⟨.int (ddN [] xs : Nat), H1, I2.tok _, ⟨_, by rw [hn]⟩, q1⟩
end
end M
namespace M
open PySem PySem.Spec L2
/-! ### places within owned trees -/
inductive Stp where
  | fld (f : PySem.Str) | key (k : Key) | idx (j : Nat)
def lookF {α : Type} (f : PySem.Str) : List (PySem.Str × α) → Option α
  | [] => none
  | (g, x) :: r => if g = f then some x else lookF f r
def lookK {α : Type} (k : Key) : List (Key × α) → Option α
  | [] => none
  | (g, x) :: r => if g = k then some x else lookK k r
def putF {α : Type} (f : PySem.Str) (y : α) : List (PySem.Str × α) → List (PySem.Str × α)
  | [] => [(f, y)]
  | (g, x) :: r => if g = f then (g, y) :: r else (g, x) :: putF f y r
def putKt {α : Type} (k : Key) (y : α) : List (Key × α) → List (Key × α)
  | [] => [(k, y)]
  | (g, x) :: r => if g = k then (g, y) :: r else (g, x) :: putKt k y r
def T.get1 : T → Stp → Option T
  | .obj _ fs, .fld f => lookF f fs
  | .dic ks, .key k => lookK k ks
  | .lst ts, .idx j => ts[j]?
  | _, _ => none
def T.put1 : T → Stp → T → T
  | .obj C fs, .fld f, u => .obj C (putF f u fs)
  | .dic ks, .key k, u => .dic (putKt k u ks)
  | .lst ts, .idx j, u => .lst (ts.set j u)
  | t, _, _ => t
def T.at : T → List Stp → Option T
  | t, [] => some t
  | t, s :: r => (t.get1 s).bind fun u => u.at r
def T.put : T → List Stp → T → T
  | _, [], u => u
  | t, s :: r, u => match t.get1 s with | some x => t.put1 s (x.put r u) | none => t
/-- the value at a place -/
inductive Ref (H : Hp) : V → List Stp → V → Prop
  | here {v : V} : Ref H v [] v
  | fld {p dx C : Addr} {fvs : List (PySem.Str × V)} {f : PySem.Str} {v x : V} {r : List Stp} : H p = some (.ins C dx fvs) → lookF f fvs = some v → Ref H v r x → Ref H (.ref p) (.fld f :: r) x
  | key {p : Addr} {kvs : List (Key × V)} {k : Key} {v x : V} {r : List Stp} : H p = some (.dK kvs) → lookK k kvs = some v → Ref H v r x → Ref H (.ref p) (.key k :: r) x
  | idx {p : Addr} {vs : List V} {j : Nat} {v x : V} {r : List Stp} : H p = some (.lst vs) → vs[j]? = some v → Ref H v r x → Ref H (.ref p) (.idx j :: r) x
section
variable {K : PySem.W.Frag}
theorem Ref.up {H H' : Hp} (s : Same H H') {v x : V} {r : List Stp} (h : Ref H v r x) : Ref H' v r x := by
  induction h with
  | here => exact .here
  | fld a b _ ih => exact .fld (s _ _ a) b ih
  | key a b _ ih => exact .key (s _ _ a) b ih
  | idx a b _ ih => exact .idx (s _ _ a) b ih
theorem Ref.trans {H : Hp} {v x y : V} {r q : List Stp} (h : Ref H v r x) (g : Ref H x q y) : Ref H v (r ++ q) y := by
  induction h with
  | here => exact g
  | fld a b _ ih => exact .fld a b (ih g)
  | key a b _ ih => exact .key a b (ih g)
  | idx a b _ ih => exact .idx a b (ih g)
theorem OwL.dig {F : Hp} : ∀ {vs : List V} {h : Hp} {ts : List T} {j : Nat} {t : T}, OwL K F vs h ts → ts[j]? = some t → ∃ v h1 r, vs[j]? = some v ∧ OwT K F v h1 t ∧ Dj h1 r ∧ h = jn h1 r ∧
    ∀ F' h1' t', Le F F' → OwT K F' v h1' t' → Dj h1' r → OwL K F' vs (jn h1' r) (ts.set j t')
  | _, _, _, j, _, .nil, e => by simp at e
  | _, _, _, 0, _, .cons (h1 := h1) (h2 := h2) a b d, e => by
    simp at e; subst e
    exact ⟨_, h1, h2, rfl, a, d, rfl, fun F' h1' t' l o q => .cons o (b.le l) q⟩
  | _, _, _, j + 1, _, .cons (h1 := h1) (h2 := h2) a b d, e => by
    obtain ⟨v, g1, r, ev, w, dj, rfl, f⟩ := OwL.dig (j := j) b (by simpa using e)
    refine ⟨v, g1, jn h1 r, by simpa using ev, w, Dj.jn_r d.symm.of_jn_l dj, ?_, fun F' h1' t' l o q => ?_⟩
    · rw [← jn_assoc, jn_comm (d.symm.of_jn_l).symm, jn_assoc]
    · have dq : Dj h1 (jn h1' r) := Dj.jn_r (q.symm.of_jn_l) (d.symm.of_jn_r).symm
      have := OwL.cons (a.le l) (f F' h1' t' l o q.symm.of_jn_r.symm) dq
      rw [← jn_assoc, jn_comm q.symm.of_jn_l, jn_assoc] at this
      simpa using this
theorem OwK.dig {F : Hp} {k : Key} : ∀ {vs : List (Key × V)} {h : Hp} {ts : List (Key × T)} {t : T}, OwK K F vs h ts → lookK k ts = some t → ∃ v h1 r, lookK k vs = some v ∧ OwT K F v h1 t ∧ Dj h1 r ∧ h = jn h1 r ∧
    ∀ F' h1' t', Le F F' → OwT K F' v h1' t' → Dj h1' r → OwK K F' vs (jn h1' r) (putKt k t' ts)
  | _, _, _, _, .nil, e => by simp [lookK] at e
  | _, _, _, _, .cons (k := g) (h1 := h1) (h2 := h2) a b d, e => by
    by_cases hg : g = k
    · simp [lookK, hg] at e; subst e
      exact ⟨_, h1, h2, by simp [lookK, hg], a, d, rfl, fun F' h1' t' l o q => by
        have := OwK.cons (k := g) o (b.le l) q
        simpa [putKt, hg] using this⟩
    · simp [lookK, hg] at e
      obtain ⟨v, g1, r, ev, w, dj, rfl, f⟩ := OwK.dig b e
      refine ⟨v, g1, jn h1 r, by simpa [lookK, hg] using ev, w, Dj.jn_r d.symm.of_jn_l dj, ?_, fun F' h1' t' l o q => ?_⟩
      · rw [← jn_assoc, jn_comm (d.symm.of_jn_l).symm, jn_assoc]
      · have dq : Dj h1 (jn h1' r) := Dj.jn_r (q.symm.of_jn_l) (d.symm.of_jn_r).symm
        have := OwK.cons (k := g) (a.le l) (f F' h1' t' l o q.symm.of_jn_r.symm) dq
        rw [← jn_assoc, jn_comm q.symm.of_jn_l, jn_assoc] at this
        simpa [putKt, hg] using this
theorem OwF.dig {F : Hp} {k : PySem.Str} : ∀ {vs : List (PySem.Str × V)} {h : Hp} {ts : List (PySem.Str × T)} {t : T}, OwF K F vs h ts → lookF k ts = some t → ∃ v h1 r, lookF k vs = some v ∧ OwT K F v h1 t ∧ Dj h1 r ∧ h = jn h1 r ∧
    ∀ F' h1' t', Le F F' → OwT K F' v h1' t' → Dj h1' r → OwF K F' vs (jn h1' r) (putF k t' ts)
  | _, _, _, _, .nil, e => by simp [lookF] at e
  | _, _, _, _, .cons (k := g) (h1 := h1) (h2 := h2) a b d, e => by
    by_cases hg : g = k
    · simp [lookF, hg] at e; subst e
      exact ⟨_, h1, h2, by simp [lookF, hg], a, d, rfl, fun F' h1' t' l o q => by
        have := OwF.cons (k := g) o (b.le l) q
        simpa [putF, hg] using this⟩
    · simp [lookF, hg] at e
      obtain ⟨v, g1, r, ev, w, dj, rfl, f⟩ := OwF.dig b e
      refine ⟨v, g1, jn h1 r, by simpa [lookF, hg] using ev, w, Dj.jn_r d.symm.of_jn_l dj, ?_, fun F' h1' t' l o q => ?_⟩
      · rw [← jn_assoc, jn_comm (d.symm.of_jn_l).symm, jn_assoc]
      · have dq : Dj h1 (jn h1' r) := Dj.jn_r (q.symm.of_jn_l) (d.symm.of_jn_r).symm
        have := OwF.cons (k := g) (a.le l) (f F' h1' t' l o q.symm.of_jn_r.symm) dq
        rw [← jn_assoc, jn_comm q.symm.of_jn_l, jn_assoc] at this
        simpa [putF, hg] using this
theorem OwT.dig1 {F : Hp} {v : V} {h : Hp} {t u : T} {s : Stp} (w : OwT K F v h t) (e : t.get1 s = some u) : ∃ v1 h1 r, Ref h v [s] v1 ∧ OwT K F v1 h1 u ∧ Dj h1 r ∧ h = jn h1 r ∧
    ∀ F' h1' u', Le F F' → OwT K F' v1 h1' u' → Dj h1' r → OwT K F' v (jn h1' r) (t.put1 s u') := by
  cases w with
  | lf r => cases s <;> cases e
  | lst w np =>
    rename_i p vs h0 ts
    cases s with
    | fld f => cases e
    | key k => cases e
    | idx j =>
      obtain ⟨v1, h1, r, ev, w1, dj, rfl, f⟩ := w.dig e
      have n1 := (jn_none.mp np).1
      refine ⟨v1, h1, upd r p (.lst vs), .idx upd_same ev .here, w1, (dj.symm.upd n1).symm, jn_upd_r n1, fun F' h1' u' l o q => ?_⟩
      have n2 : h1' p = none := q.symm.of_upd
      have dq : Dj h1' r := (q.symm.un_upd (jn_none.mp np).2).symm
      rw [← jn_upd_r n2]
      exact .lst (f F' h1' u' l o dq) (jn_none.mpr ⟨n2, (jn_none.mp np).2⟩)
  | dic w np =>
    rename_i p vs h0 ts
    cases s with
    | fld f => cases e
    | idx k => cases e
    | key k =>
      obtain ⟨v1, h1, r, ev, w1, dj, rfl, f⟩ := w.dig e
      have n1 := (jn_none.mp np).1
      refine ⟨v1, h1, upd r p (.dK vs), .key upd_same ev .here, w1, (dj.symm.upd n1).symm, jn_upd_r n1, fun F' h1' u' l o q => ?_⟩
      have n2 : h1' p = none := q.symm.of_upd
      have dq : Dj h1' r := (q.symm.un_upd (jn_none.mp np).2).symm
      rw [← jn_upd_r n2]
      exact .dic (f F' h1' u' l o dq) (jn_none.mpr ⟨n2, (jn_none.mp np).2⟩)
  | obj w np nd ne =>
    rename_i p dx C vs h0 ts
    cases s with
    | key f => cases e
    | idx k => cases e
    | fld f =>
      obtain ⟨v1, h1, r, ev, w1, dj, rfl, g⟩ := w.dig e
      obtain ⟨n1, m1⟩ := jn_none.mp np
      obtain ⟨n2, m2⟩ := jn_none.mp nd
      have d2 : Dj h1 (upd r dx (.own p)) := (dj.symm.upd n2).symm
      refine ⟨v1, h1, upd (upd r dx (.own p)) p (.ins C dx vs), .fld upd_same ev .here, w1, (d2.symm.upd n1).symm, ?_, fun F' h1' u' l o q => ?_⟩
      · rw [jn_upd_r n2, jn_upd_r n1]
      · have k1 : h1' p = none := q.symm.of_upd
        have q2 : Dj h1' (upd r dx (.own p)) := (q.symm.un_upd (by rw [upd_ne ne.symm]; exact m1)).symm
        have k2 : h1' dx = none := q2.symm.of_upd
        have q3 : Dj h1' r := (q2.symm.un_upd m2).symm
        rw [← jn_upd_r k1, ← jn_upd_r k2]
        exact .obj (g F' h1' u' l o q3) (jn_none.mpr ⟨k1, m1⟩) (jn_none.mpr ⟨k2, m2⟩) ne
theorem OwT.dig {F : Hp} : ∀ {π : List Stp} {v : V} {h : Hp} {t u : T}, OwT K F v h t → t.at π = some u → ∃ v1 h1 r, Ref h v π v1 ∧ OwT K F v1 h1 u ∧ Dj h1 r ∧ h = jn h1 r ∧
    ∀ F' h1' u', Le F F' → OwT K F' v1 h1' u' → Dj h1' r → OwT K F' v (jn h1' r) (t.put π u')
  | [], v, h, t, u, w, e => by
    simp [T.at] at e; subst e
    exact ⟨v, h, emp, .here, w, Dj.emp_r, jn_emp.symm, fun F' h1' u' l o q => by rw [jn_emp]; exact o⟩
  | s :: π, v, h, t, u, w, e => by
    simp only [T.at] at e
    cases e1 : t.get1 s with
    | none => rw [e1] at e; cases e
    | some x =>
      rw [e1] at e
      obtain ⟨v1, h1, r, rf, w1, dj, rfl, f⟩ := w.dig1 e1
      obtain ⟨v2, h2, r2, rf2, w2, dj2, rfl, f2⟩ := OwT.dig (π := π) w1 (show x.at π = some u from e)
      refine ⟨v2, h2, jn r2 r, rf.trans (rf2.up Same.jn_l), w2, Dj.jn_r dj2 dj.of_jn_l, jn_assoc, fun F' h1' u' l o q => ?_⟩
      have q2 : Dj h1' r2 := q.symm.of_jn_l.symm
      have q3 : Dj h1' r := q.symm.of_jn_r.symm
      rw [← jn_assoc]
      have := f F' (jn h1' r2) (x.put π u') l (f2 F' h1' u' l o q2) (Dj.jn_l q3 dj.of_jn_r)
      show OwT K F' v (jn (jn h1' r2) r) (match t.get1 s with | some x => t.put1 s (x.put π u') | none => t)
      rw [e1]
      exact this
/-- an owned thing at a place: what it is, and what may be made of it -/
theorem St.dig {G F H : Hp} {ms : List MV} {σ : List (Option V)} {i : Nat} {p : Addr} {t u : T} {π : List Stp} (S : St K G F H ms σ) (e : ms[i]? = some (.ot p t)) (a : t.at π = some u) :
    ∃ v1 h1, Ref H (.ref p) π v1 ∧ OwT K F v1 h1 u ∧ Same h1 H ∧ ∀ q o o' h1' u', h1 q = some o → Same h1' (upd h1 q o') → h1' q = some o' → OwT K F v1 h1' u' → St K G F (upd H q o') (ms.set i (.ot p (t.put π u'))) σ := by
  obtain ⟨h, x, sh, d1, d2⟩ := S.own
  obtain ⟨g1, g2, rfl, dj, w, f, _⟩ := x.focus e
  obtain ⟨v1, h1, r, rf, w1, dj1, rfl, f1⟩ := w.dig a
  have s1 : Same h1 H := Same.jn_l.trans (Same.jn_l.trans sh)
  have s2 : Same r H := (Same.jn_r dj1).trans (Same.jn_l.trans sh)
  have s3 : Same g2 H := (Same.jn_r dj).trans sh
  refine ⟨v1, h1, rf.up (Same.jn_l.trans sh), w1, s1, fun q o o' h1' u' hq hs ho hw => ?_⟩
  have nF : F q = none := d1.of_jn_l.of_jn_l.none hq
  have nG : G q = none := d2.of_jn_l.of_jn_l.none hq
  have n2 : g2 q = none := dj.of_jn_l.none hq
  have nr : r q = none := dj1.none hq
  have up : ∀ {A : Hp}, A q = none → Same A H → Same A (upd H q o') := fun na s b u z => by
    rw [upd_ne (ne_of_none z na)]; exact s _ _ z
  have dd : ∀ {A : Hp}, A q = none → Dj h1 A → Dj h1' A := fun na d b => by
    by_cases hb : b = q
    · subst hb; exact .inr na
    · cases z : h1' b with
      | none => exact .inl rfl
      | some y =>
        have := hs _ _ z
        rw [upd_ne hb] at this
        exact .inr (d.none this)
  refine ⟨up nG S.g, up nF S.f, S.fg, jn (jn h1' r) g2, f F _ _ (Le.of (Same.refl _)) (f1 F h1' u' (Le.of (Same.refl _)) hw (dd nr dj1)) (Dj.jn_l (dd n2 dj.of_jn_l) dj.of_jn_r), Same.jn (Same.jn ?_ (up nr s2)) (up n2 s3),
    Dj.jn_l (Dj.jn_l (dd nF d1.of_jn_l.of_jn_l) d1.of_jn_l.of_jn_r) d1.of_jn_r, Dj.jn_l (Dj.jn_l (dd nG d2.of_jn_l.of_jn_l) d2.of_jn_l.of_jn_r) d2.of_jn_r⟩
  intro b y z
  have := hs _ _ z
  by_cases hb : b = q
  · subst hb; rw [upd_same] at this ⊢; exact this
  · rw [upd_ne hb] at this ⊢; exact s1 _ _ this
end
end M
namespace M
open PySem PySem.Spec PyProof.Rows L2
/-! ### != of equal dicts -/
def rNeK (K : PySem.W.Frag) : R2 := fun x y H Q => ∃ a b ka kb, x = .ref a ∧ y = .ref b ∧ Rd H a (.dK ka) ∧ Rd H b (.dK kb) ∧ ka.length = kb.length ∧
  (∀ p ∈ ka, ∃ u d e, valV kb p.1 = some u ∧ Dp K H p.2 d ∧ Dp K H u e ∧ SeqAt.shaped d = true ∧ SeqAt.shaped e = true ∧ PyData.eqv d e = true) ∧ Q (.bl false) H
def rNeB (K : PySem.W.Frag) : R2 := fun x y H Q => rNeA K x y H Q ∨ rNeK K x y H Q
section
variable {X : Cx} {pins : List (Addr × Obj)} {σ : L2.St} {H : Hp} {s : Shared}
theorem valAt_of {k : Key} : ∀ {kb : List (Key × V)} {vb : List (Key × Value)}, KV kb vb → ∀ {u : V}, valV kb k = some u → ∃ y, valueAt vb k = some y ∧ RelV u y
  | _, _, .nil, u, h => by cases h
  | (k1, v1) :: kb, (k2, y2) :: vb, .cons r t, u, h => by
    obtain ⟨e, rv⟩ := r
    simp only at e; subst e
    by_cases hk : k1 = k
    · have : u = v1 := by simp [valV, List.find?_cons, hk] at h; exact h.symm
      subst this
      exact ⟨y2, by simp [valueAt, List.find?_cons, hk], rv⟩
    · have h' : valV kb k = some u := by simpa [valV, List.find?_cons, hk] using h
      obtain ⟨y, e, r⟩ := valAt_of t h'
      exact ⟨y, by simpa [valueAt, List.find?_cons, hk] using e, r⟩
theorem hits_eq (I : Inv X pins σ H s) {A : Around} (hu : A.units + 64 < cLine) {kb : List (Key × V)} {vb : List (Key × Value)} (rb : KV kb vb) : ∀ {ka : List (Key × V)} {va : List (Key × Value)}, KV ka va →
    (∀ p ∈ ka, ∃ u d e, valV kb p.1 = some u ∧ Dp X.K H p.2 d ∧ Dp X.K H u e ∧ SeqAt.shaped d = true ∧ SeqAt.shaped e = true ∧ PyData.eqv d e = true) → PySem.W.KeqHits A s vb va true
  | _, _, .nil, _ => .nil
  | (k1, v1) :: ka, (k2, y2) :: va, .cons r t, h => by
    obtain ⟨e, rv⟩ := r
    simp only at e; subst e
    obtain ⟨u, d, e, hv, p1, p2, s1, s2, eq⟩ := h _ List.mem_cons_self
    obtain ⟨y, ey, ry⟩ := valAt_of rb hv
    obtain ⟨as, r1⟩ := Dp.reads I d v1 y2 p1 rv
    obtain ⟨bs, r2⟩ := Dp.reads I e u y p2 ry
    have := PySem.W.KeqHits.hit (k := k1) (r := va) ey (SeqAt.eqAt_reads d e A s y2 y as bs r1 r2 (SeqAt.canLay_of_shaped s1) (SeqAt.canLay_of_shaped s2) (SeqAt.room_of_shaped s1 hu)) (hits_eq I hu rb t fun p hp => h p (List.mem_cons_of_mem _ hp))
    rw [eq] at this
    exact this
end
section
variable {X : Cx}
theorem op_neK (hu : X.A.units + 65 < cLine) : OpR X (compareOp .NotEq) (rNeK X.K) := by
  intro pins s σ H x y v u Q I rx ry h
  obtain ⟨a, b, ka, kb, rfl, rfl, ha, hb, hl, hp, q⟩ := h
  cases rx
  cases ry
  obtain ⟨_, ya, va, ra, da⟩ := (show ObjOk X.prog X.w H s.heap a (.dK ka) from ha.ok I.hok)
  obtain ⟨_, yb, vb, rb, db⟩ := (show ObjOk X.prog X.w H s.heap b (.dK kb) from hb.ok I.hok)
  refine PySem.W.keq_ne (r := true) ya yb da db (by omega) (fun _ => hits_eq I (by show X.A.units + 1 + 64 < cLine; omega) rb ra hp) ?_
  have e : va.length = vb.length := by rw [← ra.length, ← rb.length]; exact hl
  refine ⟨.bl false, H, I, ?_, q⟩
  rw [e]; simp; rfl
theorem op_neB (hu : X.A.units + 65 < cLine) : OpR X (compareOp .NotEq) (rNeB X.K) := OpR.or (op_neA (by omega)) (op_neK hu)
end
section
variable {K : PySem.W.Frag} {P : D → Prop}
theorem opD.orl {r1 r2 : R2} {a b : D} (h : opD K r1 a b P) : opD K (fun x y H Q => r1 x y H Q ∨ r2 x y H Q) a b P := fun x y F H Q r1 r2 s k => .inl (h x y F H Q r1 r2 s k)
theorem RpK.length {F : Hp} : ∀ {vs : List (Key × V)} {ds : List (Key × D)}, RpK K F vs ds → vs.length = ds.length
  | _, _, .nil => rfl
  | _, _, .cons _ t => by simp [RpK.length t]
theorem RpK.mem {F : Hp} {p : Key × V} : ∀ {vs : List (Key × V)} {ds : List (Key × D)}, RpK K F vs ds → p ∈ vs → ∃ d, (p.1, d) ∈ ds ∧ Rp K F p.2 d
  | _, _, .nil, h => by cases h
  | _, _, .cons r t, h => by
    cases h with
    | head => exact ⟨_, List.mem_cons_self, r⟩
    | tail _ h =>
      obtain ⟨d, m, q⟩ := RpK.mem t h
      exact ⟨d, List.mem_cons_of_mem _ m, q⟩
/-- two dicts alike: the same keys with the same data -/
def sameK (a b : List (Key × D)) : Prop := a.length = b.length ∧ ∀ q ∈ a, q.2.sh = true ∧ ∃ e, valD b q.1 = some e ∧ e.sh = true ∧ PyData.eqv q.2.py e.py = true
theorem o_neK {a b : List (Key × D)} (hs : sameK a b) (h : P (.bl false)) : opD K (rNeB K) (.dic a) (.dic b) P := by
  intro x y F H Q r1 r2 s k
  cases r1 with
  | dic e1 q1 =>
    cases r2 with
    | dic e2 q2 =>
      refine .inr ⟨_, _, _, _, rfl, rfl, (Le.of s).rdD e1, (Le.of s).rdD e2, by rw [q1.length, q2.length]; exact hs.1, fun p hp => ?_, k _ _ F H h .refl (.bl _)⟩
      obtain ⟨d, m, rd⟩ := q1.mem hp
      obtain ⟨sd, e, ve, se, eq⟩ := hs.2 _ m
      simp only at sd ve eq
      rcases RpK.val (k := p.1) q2 with ⟨_, z⟩ | ⟨u, e', v1, v2, re⟩
      · rw [z] at ve; cases ve
      · rw [ve] at v2; cases v2
        exact ⟨u, d.py, e.py, v1, Dp.up s (rd.dp (D.sh_lay sd)), Dp.up s (re.dp (D.sh_lay se)), sd, se, eq⟩
end
/-! ### min of a list of rows -/
def rMinD (K : PySem.W.Frag) : List V → Hp → VK → Prop := fun xs H Q => ∃ (a : Addr) (vs : List V) (x : PyData) (ds : List PyData), xs = [.ref a] ∧ SqL K H a vs ∧ DpAll K H vs (x :: ds) ∧ PySem.W.AlikeAll (x :: ds) ∧ PyData.depthAll (x :: ds) ≤ 60 ∧
  ∀ (i : Nat) (v : V), vs[i]? = some v → (x :: ds)[i]? = some (PySem.W.minD x ds) → Q v H
section
variable {X : Cx} {pins : List (Addr × Obj)} {σ : L2.St} {H : Hp} {s : Shared}
theorem minD_mem : ∀ (ds : List PyData) (x : PyData), PySem.W.minD x ds ∈ x :: ds
  | [], x => by simp [PySem.W.minD]
  | y :: ds, x => by
    have := minD_mem ds (if PySem.W.dataLt y x then y else x)
    show PySem.W.minD (if PySem.W.dataLt y x then y else x) ds ∈ _
    rcases List.mem_cons.mp this with e | e
    · rw [e]
      split
      · exact .tail _ (.head _)
      · exact .head _
    · exact .tail _ (.tail _ e)
theorem dpAll_at : ∀ {vs : List V} {ds : List PyData}, DpAll X.K H vs ds → ∀ {us : List Value}, Vals vs us → ∀ (i : Nat) (u : Value), us[i]? = some u → ∃ v d, vs[i]? = some v ∧ ds[i]? = some d ∧ RelV v u ∧ Dp X.K H v d
  | _, _, .nil, _, .nil, i, u, h => by simp at h
  | _, _, .cons a b, _, .cons r t, 0, u, h => by simp at h; subst h; exact ⟨_, _, rfl, rfl, r, a⟩
  | _, _, .cons a b, _, .cons r t, i + 1, u, h => by
    obtain ⟨v, d, m, n, q, p⟩ := dpAll_at b t i u (by simpa using h)
    exact ⟨v, d, by simpa using m, by simpa using n, q, p⟩
theorem call_minD {X : Cx} (hc : X.calm = true) (hu : X.A.units + 65 < cLine) : CallR X (.builtin "min") (rMinD X.K) := by
  intro pins s σ H xs us Q I r h
  obtain ⟨a, vs, x, ds, rfl, hs, hd, al, dp, q⟩ := h
  obtain ⟨u, rfl, rx⟩ := vals1 r
  cases rx
  obtain ⟨its, rv, hl, _⟩ := I.list hs
  obtain ⟨as, ra⟩ := Dp.readsAll I _ _ its hd rv
  refine PySem.W.min_list_data (I.ok.hd hc) hl.isList (show ReadsAll s.heap its.toArray.toList (x :: ds) as from ra) al (by omega) fun i v h' tk bs hv hr hk => ?_
  obtain ⟨w, d, mw, md, rw_, pw⟩ := dpAll_at hd rv i v (by simpa using hv)
  obtain ⟨cs, rd⟩ := Dp.reads I d w v pw rw_
  have e := PySem.W.alike_unique _ _ _ _ _ (al.1 d (List.mem_of_getElem? md) _ (minD_mem ds x)) (Reads.keeps hk rd) hr
  exact ⟨w, H, I.kept hk, rw_, q i w mw (by rw [md, e])⟩
end
section
variable {K : PySem.W.Frag} {P : D → Prop}
/-- rows of whole numbers -/
def rowD (r : List Nat) : D := .lst (r.map fun k : Nat => D.int (k : Int))
theorem pys_ints (r : List Nat) : pys (r.map fun k : Nat => D.int ((k : Nat) : Int)) = r.map fun k : Nat => PyData.int (k : Int) := by
  induction r with
  | nil => simp [pys]
  | cons a r ih => simp [pys, D.py, ih]
theorem rowD_py (r : List Nat) : (rowD r).py = .list (r.map fun k : Nat => .int (k : Int)) := by
  unfold rowD; rw [D.py, pys_ints]
theorem pys_rows (rs : List (List Nat)) : pys (rs.map rowD) = rs.map fun r => (rowD r).py := by
  induction rs with
  | nil => simp [pys]
  | cons a r ih => simp [pys, ih]
theorem depth_ints : ∀ r : List Nat, PyData.depthAll (r.map fun k : Nat => PyData.int (k : Int)) ≤ 1
  | [] => by simp [PyData.depthAll]
  | a :: r => by
    have := depth_ints r
    simp only [List.map_cons, PyData.depthAll, PyData.depth]; omega
theorem depth_rows : ∀ rs : List (List Nat), PyData.depthAll (rs.map fun r => (rowD r).py) ≤ 3
  | [] => by simp [PyData.depthAll]
  | a :: r => by
    have := depth_rows r
    have := depth_ints a
    simp only [List.map_cons, PyData.depthAll, rowD_py, PyData.depth]; simp only [rowD_py] at *; omega
theorem alike_ints : ∀ a b : List Nat, PySem.W.alikeAll (a.map fun k : Nat => PyData.int (k : Int)) (b.map fun k : Nat => PyData.int (k : Int)) = true
  | [], _ => by simp [PySem.W.alikeAll]
  | _ :: _, [] => by simp [PySem.W.alikeAll]
  | _ :: a, _ :: b => by simp [PySem.W.alikeAll, PySem.W.alike, alike_ints a b]
theorem lay_ints : ∀ r : List Nat, PyData.canLayAll0 (r.map fun k : Nat => PyData.int (k : Int)) = true
  | [] => by simp [PyData.canLayAll0]
  | a :: r => by simp [PyData.canLayAll0, PyData.canLay0, lay_ints r]
theorem lay_rows : ∀ rs : List (List Nat), PyData.canLayAll0 (rs.map fun r => (rowD r).py) = true
  | [] => by simp [PyData.canLayAll0]
  | a :: r => by simp [PyData.canLayAll0, rowD_py, PyData.canLay0, lay_ints a]; simpa [rowD_py] using lay_rows r
def minRow (x : List Nat) (rs : List (List Nat)) : List Nat := rs.foldl (fun a y => if decide (y.map (fun k : Nat => (k : Int)) < a.map (fun k : Nat => (k : Int))) then y else a) x
theorem minD_rows : ∀ (rs : List (List Nat)) (x : List Nat), PySem.W.minD (rowD x).py (rs.map fun r => (rowD r).py) = (rowD (minRow x rs)).py
  | [], x => rfl
  | y :: rs, x => by
    have e : PySem.W.dataLt (rowD y).py (rowD x).py = decide (y.map (fun k : Nat => (k : Int)) < x.map (fun k : Nat => (k : Int))) := by
      rw [rowD_py, rowD_py, PySem.W.dataLt_list]
      have := PySem.W.dataLt_ints (y.map fun k : Nat => (k : Int)) (x.map fun k : Nat => (k : Int))
      rw [List.map_map, List.map_map] at this
      exact this
    show PySem.W.minD (if PySem.W.dataLt (rowD y).py (rowD x).py then (rowD y).py else (rowD x).py) (rs.map fun r => (rowD r).py) = (rowD (minRow (if decide (y.map (fun k : Nat => (k : Int)) < x.map (fun k : Nat => (k : Int))) then y else x) rs)).py
    rw [e]
    cases decide (y.map (fun k : Nat => (k : Int)) < x.map (fun k : Nat => (k : Int))) with
    | true => exact minD_rows rs y
    | false => exact minD_rows rs x
end
section
variable {K : PySem.W.Frag} {P : D → Prop}
theorem RpL.atV {F : Hp} {i : Nat} {v : V} : ∀ {vs : List V} {ds : List D}, RpL K F vs ds → vs[i]? = some v → ∃ d, ds[i]? = some d ∧ Rp K F v d := by
  induction i with
  | zero =>
    intro vs ds r h
    cases r with
    | nil => simp at h
    | cons a b => simp at h; subst h; exact ⟨_, rfl, a⟩
  | succ i ih =>
    intro vs ds r h
    cases r with
    | nil => simp at h
    | cons a b => simpa using ih b (by simpa using h)
theorem row_inj {a b : List Nat} (h : (rowD a).py = (rowD b).py) : a = b := by
  rw [rowD_py, rowD_py] at h
  injection h with h
  exact List.map_inj_right (fun x y e => by injection e with e; exact Int.ofNat.inj e) |>.mp h
theorem c_minRows {x : List Nat} {rs : List (List Nat)} (h : P (rowD (minRow x rs))) : cbD K (rMinD K) [.lst ((x :: rs).map rowD)] P := by
  intro xs F H Q r s k
  cases r with
  | cons r1 r2 =>
    cases r2
    have la := lay_rows (x :: rs)
    cases r1 with
    | lst e q =>
      rename_i a vs
      have d1 := DpAll.up s (q.dp (by rw [pys_rows]; exact la))
      rw [pys_rows] at d1
      refine ⟨a, vs, _, _, rfl, SqL.of (s _ _ e), d1, ⟨fun a ha b hb => ?_, fun a ha => ?_⟩, Nat.le_trans (depth_rows (x :: rs)) (by decide), fun i v hv hm => ?_⟩
      · obtain ⟨a', _, rfl⟩ := List.mem_map.mp (show a ∈ (x :: rs).map fun r => (rowD r).py from ha)
        obtain ⟨b', _, rfl⟩ := List.mem_map.mp (show b ∈ (x :: rs).map fun r => (rowD r).py from hb)
        simp only [rowD_py, PySem.W.alike]
        exact alike_ints _ _
      · obtain ⟨a', _, rfl⟩ := List.mem_map.mp (show a ∈ (x :: rs).map fun r => (rowD r).py from ha)
        simp [rowD_py]
      · obtain ⟨d, hd, rd⟩ := q.atV hv
        have hm' : ((x :: rs).map fun r => (rowD r).py)[i]? = some (PySem.W.minD (rowD x).py (rs.map fun r => (rowD r).py)) := hm
        rw [minD_rows, List.getElem?_map] at hm'
        rw [List.getElem?_map] at hd
        cases ei : (x :: rs)[i]? with
        | none => rw [ei] at hd; cases hd
        | some r0 =>
          rw [ei] at hd hm'
          simp only [Option.map_some, Option.some.injEq] at hd hm'
          subst hd
          have := row_inj hm'
          subst this
          exact k _ _ F H h .refl rd
end
/-! ### list(range(..)), len(set(..)), {} -/
section
variable {K : PySem.W.Frag} {n : Nat} {ms : List MV} {X : XP}
theorem RpL.rng {F : Hp} (a : Int) : ∀ (l : List Nat), RpL K F (l.map fun i => V.int (a + (i : Nat))) (l.map fun i => D.int (a + (i : Nat)))
  | [] => .nil
  | _ :: l => .cons (.int _) (RpL.rng a l)
/-- list(range(n)) -/
theorem wd_lstRg1 {ta : WX → TE} {P : D → List MV → Prop} (h : wpD K n ta ms (fun d m1 => ∃ k : Int, d = .int k ∧ 0 ≤ k ∧ k ≤ 10000 ∧ P (.lst ((List.range k.toNat).map fun i : Nat => .int (i : Nat))) m1) X) : wpD K n (fun W => tLstRg (tRg1 (ta W))) ms P X := by
  intro W G F H σ gv Q hn S k x
  refine h W G F H σ gv _ hn S (fun d v m1 g1 F1 H1 ho S1 r1 e1 => ?_) x
  obtain ⟨j, rfl, h0, h1, p⟩ := ho
  cases r1
  refine ⟨j, rfl, RgOk.of_le (by omega) (by omega) (by omega) h0, fun q hq => ?_⟩
  have S2 := S1.new (o := .lst (rgV 0 j)) hq
  refine k _ _ m1 g1 _ _ p S2 (.lst upd_same ?_) (e1.trans (same_new (S1.f.free hq)))
  have := RpL.rng (K := K) (F := upd F1 q (.lst (rgV 0 j))) 0 (List.range j.toNat)
  generalize upd F1 q (.lst (rgV 0 j)) = F9 at this ⊢
  unfold rgV
  simpa using this
theorem wd_lenSet {ta : WX → TE} {P : D → List MV → Prop} (h : wpD K n ta ms (fun d m1 => ∃ xs : List PySem.Str, d = .lst (xs.map .str) ∧ xs.length ≤ 1000 ∧ P (.int (ddN [] xs : Nat)) m1) X) : wpD K n (fun W => tLenSetS K (ta W)) ms P X := by
  intro W G F H σ gv Q hn S k x
  refine h W G F H σ gv _ hn S (fun d v m1 g1 F1 H1 ho S1 r1 e1 => ?_) x
  obtain ⟨xs, rfl, hl, p⟩ := ho
  cases r1 with
  | lst e q =>
    have : ∀ {vs : List V} {xs : List PySem.Str}, RpL K F1 vs (xs.map .str) → vs = xs.map V.str := by
      intro vs
      induction vs with
      | nil =>
        intro xs q
        cases xs with
        | nil => rfl
        | cons => cases q
      | cons v vs ih =>
        intro xs q
        cases xs with
        | nil => cases q
        | cons x xs =>
          cases q with
          | cons a b =>
            cases a
            rw [ih b]; rfl
    have ev := this q
    subst ev
    exact ⟨_, xs, rfl, SqL.of (S1.f _ _ e), hl, k _ _ m1 g1 F1 H1 p S1 (.int _) e1⟩
theorem wn_dic0 {P : Addr → T → List MV → Prop} (h : ∀ p, P p (.dic []) ms) : wpN K n (fun _ => tDNewK) ms P X := by
  intro W G F H σ gv Q hn S k x p hp
  exact k _ _ ms gv F _ (h p) (S.newOwn hp (.dic .nil rfl)) (Same.refl _)
theorem wd_dic0 {P : D → List MV → Prop} (h : P (.dic []) ms) : wpD K n (fun _ => tDNewK) ms P X := by
  intro W G F H σ gv Q hn S k x p hp
  exact k _ _ ms gv _ _ h (S.new hp) (.dic (.inl upd_same) .nil) (same_new (S.f.free hp))
/-- {k: v} -/
theorem wd_disp1 {tk tv : WX → TE} {P : D → List MV → Prop} (h : wpD K n tk ms (fun a m1 => ∃ k, keyD a = some k ∧ wpD K n tv m1 (fun d m2 => P (.dic [(k, d)]) m2) X) X) : wpD K n (fun W => tDisp [(tk W, tv W)]) ms P X := by
  intro W G F H σ gv Q hn S kk x p hp
  have S0 : St K (upd G p (.dK [])) F (upd H p (.dK [])) ms (σ ++ gv) := by
    obtain ⟨h0, w, sh, d1, d2⟩ := S.own
    refine ⟨fun b u e => ?_, S.f.trans (same_new hp), (S.fg.symm.upd (S.f.free hp)).symm, h0, w, sh.trans (same_new hp), d1, (d2.symm.upd (sh.free hp)).symm⟩
    by_cases hb : b = p
    · subst hb; rw [upd_same] at e ⊢; exact e
    · rw [upd_ne hb] at e ⊢; exact S.g _ _ e
  have back : ∀ {F' H' : Hp} {m : List MV} {g : List (Option V)}, St K (upd G p (.dK [])) F' H' m (σ ++ g) → St K G F' H' m (σ ++ g) := fun S' => by
    have hG : G p = none := S.g.free hp
    obtain ⟨h0, w, sh, d1, d2⟩ := S'.own
    exact ⟨(same_new hG).trans S'.g, S'.f, (S'.fg.symm.un_upd hG).symm, h0, w, sh, d1, (d2.symm.un_upd hG).symm⟩
  refine h W _ F _ σ gv _ hn S0 (fun a v1 m1 g1 F1 H1 ho S1 r1 e1 => ?_) (fun c m g F' H' q S' e => x c m g F' H' q (back S') e)
  obtain ⟨k, ek, ho⟩ := ho
  refine ho W _ F1 H1 σ g1 _ hn S1 (fun d v2 m2 g2 F2 H2 ho S2 r2 e2 => ?_) (fun c m g F' H' q S' e => x c m g F' H' q (back S') (e1.trans e))
  have hp2 : H2 p = some (.dK []) := S2.g _ _ upd_same
  refine ⟨hp2, [(k, v2)], ?_, (by decide : 1 ≤ 15), ?_⟩
  · rw [(r1.key ek)]; rfl
  · have hF : F2 p = none := S2.fg.symm.none upd_same
    have hG : G p = none := S.g.free hp
    have em : mergeK [] [(k, v2)] = [(k, v2)] := rfl
    rw [em]
    have S3 : St K G (upd F2 p (.dK [(k, v2)])) (upd H2 p (.dK [(k, v2)])) m2 (σ ++ g2) := by
      obtain ⟨h0, w, sh, d1, d2⟩ := S2.own
      have hh : h0 p = none := d2.symm.none upd_same
      have up : ∀ {A : Hp}, A p = none → Same A H2 → Same A (upd H2 p (.dK [(k, v2)])) := fun na s b u z => by
        rw [upd_ne (ne_of_none z na)]; exact s _ _ z
      refine ⟨up hG ((same_new hG).trans S2.g), fun b u e => ?_, Dj.upd (S2.fg.symm.un_upd hG).symm hG, h0, w.up (same_new hF), up hh sh, (d1.symm.upd hh).symm, (d2.symm.un_upd hG).symm⟩
      by_cases hb : b = p
      · subst hb; rw [upd_same] at e ⊢; exact e
      · rw [upd_ne hb] at e ⊢; exact S2.f _ _ e
    refine kk _ _ m2 g2 _ _ ho S3 (.dic (.inl upd_same) (.cons (r2.up (same_new hF)) .nil)) ((e1.trans e2).trans (same_new hF))
/-! ### d[k] = v, an owned dict -/
def putM {α : Type} (k : Key) (y : α) (l : List (Key × α)) : List (Key × α) :=
  if (l.any fun kv => decide (kv.1 = k)) = true then l.map (fun kv => if kv.1 = k then (kv.1, y) else kv) else l ++ [(k, y)]
theorem OwK.len {F : Hp} : ∀ {vs : List (Key × V)} {h : Hp} {ts : List (Key × T)}, OwK K F vs h ts → vs.length = ts.length
  | _, _, _, .nil => rfl
  | _, _, _, .cons _ t _ => by simp [OwK.len t]
theorem OwK.any {F : Hp} {k : Key} : ∀ {vs : List (Key × V)} {h : Hp} {ts : List (Key × T)}, OwK K F vs h ts → (vs.any fun kv => decide (kv.1 = k)) = ts.any fun kv => decide (kv.1 = k)
  | _, _, _, .nil => rfl
  | _, _, _, .cons _ t _ => by simp [OwK.any (k := k) t]
theorem OwK.setAll {F : Hp} {k : Key} {v : V} {d : D} (r : Rp K F v d) : ∀ {vs : List (Key × V)} {h : Hp} {ts : List (Key × T)}, OwK K F vs h ts → ∃ h', OwK K F (vs.map fun kv => if kv.1 = k then (kv.1, v) else kv) h' (ts.map fun kv => if kv.1 = k then (kv.1, .lf d) else kv) ∧ Same h' h
  | _, _, _, .nil => ⟨emp, .nil, Same.refl _⟩
  | _, _, _, .cons (k := g) (h1 := g1) a b dj => by
    obtain ⟨h', w, s⟩ := OwK.setAll (k := k) r b
    by_cases hg : g = k
    · refine ⟨jn emp h', ?_, ?_⟩
      · have := OwK.cons (k := g) (OwT.lf r) w Dj.emp_l
        simpa [hg] using this
      · rw [emp_jn]; exact s.trans (Same.jn_r dj)
    · refine ⟨jn g1 h', ?_, ?_⟩
      · have := OwK.cons (k := g) a w (dj.symm.sub s).symm
        simpa [hg] using this
      · exact Same.jn Same.jn_l (s.trans (Same.jn_r dj))
theorem OwK.snoc {F : Hp} {k : Key} {v : V} {d : D} (r : Rp K F v d) : ∀ {vs : List (Key × V)} {h : Hp} {ts : List (Key × T)}, OwK K F vs h ts → OwK K F (vs ++ [(k, v)]) h (ts ++ [(k, .lf d)])
  | _, _, _, .nil => by
    have z := OwK.cons (k := k) (OwT.lf r) OwK.nil Dj.emp_l
    rw [emp_jn] at z
    exact z
  | _, _, _, .cons a b d => .cons a (OwK.snoc r b) d
theorem OwK.put {F : Hp} {k : Key} {v : V} {d : D} (r : Rp K F v d) {vs : List (Key × V)} {h : Hp} {ts : List (Key × T)} (w : OwK K F vs h ts) : ∃ h', OwK K F (putK vs k v) h' (putM k (.lf d) ts) ∧ Same h' h := by
  unfold putK putM
  rw [w.any]
  split
  · exact w.setAll r
  · exact ⟨h, w.snoc r, Same.refl _⟩
/-- what an owned dict holds, and what becomes of it -/
theorem St.dic {G F H : Hp} {σ : List (Option V)} {i : Nat} {p : Addr} {ts : List (Key × T)} (S : St K G F H ms σ) (e : ms[i]? = some (.ot p (.dic ts))) : ∃ vs h, H p = some (.dK vs) ∧ OwK K F vs h ts ∧
    ∀ vs' ts', (∃ h', OwK K F vs' h' ts' ∧ Same h' h) → St K G F (upd H p (.dK vs')) (ms.set i (.ot p (.dic ts'))) σ := by
  obtain ⟨v1, h1, rf, w, s1, f⟩ := S.dig (π := []) e rfl
  cases rf
  cases w with
  | dic w0 np =>
    rename_i vs h0
    refine ⟨vs, h0, s1 _ _ upd_same, w0, fun vs' ts' ⟨h', w', s'⟩ => ?_⟩
    refine f p _ (.dK vs') (upd h' p (.dK vs')) (.dic ts') upd_same (fun b u z => ?_) upd_same (.dic w' (s'.free np))
    by_cases hb : b = p
    · subst hb; rw [upd_same] at z ⊢; exact z
    · rw [upd_ne hb] at z ⊢; rw [upd_ne hb]; exact s' _ _ z
variable {N : List MV → Prop} {R : MV → List MV → Prop}
/-- the expression names an owned thing -/
theorem ws_dput {td ty tv : WX → TE} (h : wpD K n tv ms (fun d m1 => wpD K n td m1 (fun x m2 => ∃ p, x = .raw (.ref p) ∧ wpD K n ty m2 (fun kd m3 => ∃ k i ts, keyD kd = some k ∧ m3[i]? = some (.ot p (.dic ts)) ∧ ts.length < 1000000 ∧ N (m3.set i (.ot p (.dic (putM k (.lf d) ts))))) X) X) X) :
    wpS K n (fun W => sDPut (td W) (ty W) (tv W)) ms N R X := by
  intro W G F H σ gv E hn S k r x
  refine h W G F H σ gv _ hn S (fun d v m1 g1 F1 H1 ho S1 r1 e1 => ?_) (fun c m g F' H' p S' e => x c m σ g F' H' p hn S' e)
  refine ho W G F1 H1 σ g1 _ hn S1 (fun d2 v2 m2 g2 F2 H2 ho S2 r2 e2 => ?_) (fun c m g F' H' p S' e => x c m σ g F' H' p hn S' (e1.trans e))
  obtain ⟨p, rfl, ho⟩ := ho
  cases r2
  refine ho W G F2 H2 σ g2 _ hn S2 (fun d3 v3 m3 g3 F3 H3 ho S3 r3 e3 => ?_) (fun c m g F' H' p S' e => x c m σ g F' H' p hn S' ((e1.trans e2).trans e))
  obtain ⟨k3, i, ts, ek, ei, hl, hN⟩ := ho
  have := r3.key ek
  subst this
  obtain ⟨vs, h0, hp, w, f⟩ := S3.dic ei
  refine ⟨p, _, rfl, .inl ⟨vs, k3, hp, rfl, ?_, rfl⟩, ?_⟩
  · rw [w.len, sizeLine_eq]; omega
  · exact k _ σ g3 F3 _ hN hn (f _ _ (w.put (r1.up (e2.trans e3)))) ((e1.trans e2).trans e3)
end
end M
namespace M
open PySem PySem.Spec PyProof.Rows L2
/-! ### list(xs): a copy; a def that calls itself -/
def rListO (K : PySem.W.Frag) : List V → Hp → VK → Prop := fun xs H Q => ∃ p ys, xs = [.ref p] ∧ (SqL K H p ys ∨ SqT K H p ys) ∧ ∀ l, H l = none → Q (.ref l) (upd H l (.lst ys))
theorem call_listO {X : Cx} : CallR X (.type "list") (rListO X.K) := call_list_of
section
variable {K : PySem.W.Frag} {P : D → Prop}
theorem c_listO {ds : List D} {d : D} (hd : d = .lst ds ∨ d = .sq ds ∨ d = .tup ds) (h : P (.lst ds)) : cbD K (rListO K) [d] P := by
  intro xs F H Q r s k
  cases r with
  | cons r1 r2 =>
    cases r2
    rcases hd with rfl | rfl | rfl
    · cases r1 with
      | lst e q =>
        refine ⟨_, _, rfl, .inl (SqL.of (s _ _ e)), fun l hl => k _ _ _ _ h (.new .refl hl) (.lst upd_same (q.up (same_new (s.free hl))))⟩
    · cases r1 with
      | sq e q =>
        refine ⟨_, _, rfl, .inl ((Le.of s).sqL e), fun l hl => k _ _ _ _ h (.new .refl hl) (.lst upd_same (q.up (same_new (s.free hl))))⟩
    · cases r1 with
      | tup e q =>
        refine ⟨_, _, rfl, .inr ((Le.of s).sqT e), fun l hl => k _ _ _ _ h (.new .refl hl) (.lst upd_same (q.up (same_new (s.free hl))))⟩
end
theorem ite_t {b : Bool} {A B : Prop} (h : b = true) (x : A) : if b = true then A else B := by rw [if_pos h]; exact x
theorem ite_f {b : Bool} {A B : Prop} (h : b = false) (x : B) : if b = true then A else B := by rw [h, if_neg Bool.false_ne_true]; exact x
theorem ite_b {b : Bool} {A B : Prop} (x : b = true → A) (y : b = false → B) : if b = true then A else B := by
  cases b with
  | true => exact ite_t rfl (x rfl)
  | false => exact ite_f rfl (y rfl)
/-- a <= e <= b -/
theorem wt_rng {K : PySem.W.Frag} {n : Nat} {ms : List MV} {X : XP} {a b : Int} {tx : WX → TE} {P : Bool → List MV → Prop} (h : wpD K n tx ms (fun d m1 => ∃ v : Int, d = .int v ∧ P (decide (a ≤ v) && decide (v ≤ b)) m1) X) :
    wpT K n (fun W => tTest (tChain (rI0 fun i j => .bl (decide (i ≤ j))) (rI0 fun i j => .bl (decide (i ≤ j))) (tC (.int a)) (tx W) (tC (.int b)))) ms P X := by
  refine wt_test (wd_chain (wd_int (h.mono (fun d m1 ⟨v, e, p⟩ => ?_) fun _ _ z => z)))
  subst e
  refine o_I0b ⟨_, rfl, ?_⟩
  cases h1 : decide (a ≤ v) with
  | true =>
    rw [if_pos rfl]
    refine wd_int (o_I0b ⟨_, rfl, ?_⟩)
    rw [h1, Bool.true_and] at p
    exact p
  | false =>
    rw [if_neg Bool.false_ne_true]
    rw [h1, Bool.false_and] at p
    exact ⟨_, rfl, p⟩
theorem ok_none {P : Program} {w : World} {K : PySem.W.Frag} {mg : PySem.Str → Option Value} {base : Heap} {x : PySem.Str} {st : Stmt} {ps : List PySem.Str} {k : Nat} {fs : FS} (Dd : Df K mg x st ps) (h0 : ∀ ms P X, ¬ fs ms P X) : Ok P w K mg base x ps k (SpM K fs) := by
  obtain ⟨f, fd, F, hm, hb⟩ := Dd.ex
  refine ⟨f, fd, ⟨fun vs H Q E h => ?_, fun A outer s H args us vs Q E hr he hb hv h => ?_⟩, hm, F.kp, hb⟩
  · obtain ⟨_, _, ms, P, X, _, h, _⟩ := h
    exact (h0 _ _ _ h).elim
  · obtain ⟨_, _, ms, P, X, _, h, _⟩ := h
    exact (h0 _ _ _ h).elim
end M
namespace M
open PySem PySem.Spec PyProof.Rows L2
/-! ### what is never reached -/
def tNever : TS := fun _ _ _ => False
theorem pss_never {X : Cx} {ss : List Stmt} : PSs X ss tNever := ⟨fun _ _ _ _ _ _ h => h.elim⟩
/-! ### {k: v, ..}, d[k] of data -/
section
variable {K : PySem.W.Frag} {n : Nat} {ms : List MV} {X : XP}
def wpPs (K : PySem.W.Frag) (n : Nat) (t : WX → List (TE × TE)) (ms : List MV) (P : List (Key × D) → List MV → Prop) (X : XP) : Prop :=
  ∀ (W : WX) (G F H : Hp) (σ gv : List (Option V)) (Q : List (V × V) → Hp → Prop), σ.length = n → St K G F H ms (σ ++ gv) →
    (∀ kds kvs ms' gv' F' H', P kds ms' → St K G F' H' ms' (σ ++ gv') → RpK K F' kvs kds → Same F F' → Q (kvs.map fun kv => (kV kv.1, kv.2)) H') →
    (∀ c ms' gv' F' H', X c ms' → St K G F' H' ms' (σ ++ gv') → Same F F' → W c none σ H') → tPairs (t W) σ H Q
theorem wps_nil {P : List (Key × D) → List MV → Prop} (h : P [] ms) : wpPs K n (fun _ => []) ms P X := by
  intro W G F H σ gv Q hn S k x
  exact k [] [] ms gv F H h S .nil (Same.refl _)
theorem wps_cons {ta tb : WX → TE} {tr : WX → List (TE × TE)} {P : List (Key × D) → List MV → Prop} (h : wpD K n ta ms (fun a m1 => ∃ k, keyD a = some k ∧ wpD K n tb m1 (fun d m2 => wpPs K n tr m2 (fun r m3 => P ((k, d) :: r) m3) X) X) X) : wpPs K n (fun W => (ta W, tb W) :: tr W) ms P X := by
  intro W G F H σ gv Q hn S k x
  refine h W G F H σ gv _ hn S (fun a v1 m1 g1 F1 H1 ho S1 r1 e1 => ?_) x
  obtain ⟨key, ek, ho⟩ := ho
  have := r1.key ek
  subst this
  refine ho W G F1 H1 σ g1 _ hn S1 (fun d v2 m2 g2 F2 H2 ho S2 r2 e2 => ?_) (fun c m g F' H' p S' e => x c m g F' H' p S' (e1.trans e))
  refine ho W G F2 H2 σ g2 _ hn S2 (fun kds kvs m3 g3 F3 H3 p S3 r3 e3 => ?_) (fun c m g F' H' p S' e => x c m g F' H' p S' ((e1.trans e2).trans e))
  exact k _ ((key, v2) :: kvs) m3 g3 F3 H3 p S3 (.cons (r2.up e3) r3) ((e1.trans e2).trans e3)
theorem RpK.keys {F : Hp} : ∀ {kvs : List (Key × V)} {kds : List (Key × D)}, RpK K F kvs kds → kvs.map (·.1) = kds.map (·.1)
  | _, _, .nil => rfl
  | _, _, .cons _ t => by simp [RpK.keys t]
theorem merge_new : ∀ (more acc : List (Key × V)), (∀ k ∈ more.map (·.1), k ∉ acc.map (·.1)) → (more.map (·.1)).Nodup → mergeK acc more = acc ++ more
  | [], acc, _, _ => by simp [mergeK]
  | (k, v) :: more, acc, h, nd => by
    obtain ⟨h1, h2⟩ := List.nodup_cons.mp nd
    have e : putK acc k v = acc ++ [(k, v)] := by
      unfold putK
      rw [if_neg]
      intro z
      rw [List.any_eq_true] at z
      obtain ⟨q, hq, e⟩ := z
      exact h k (by simp) (List.mem_map.mpr ⟨q, hq, of_decide_eq_true e⟩)
    show mergeK (putK acc k v) more = _
    rw [e, merge_new more (acc ++ [(k, v)]) (fun k' hk' z => ?_) h2]
    · simp
    · rw [List.map_append, List.mem_append] at z
      rcases z with z | z
      · exact h k' (List.mem_cons_of_mem _ hk') z
      · simp at z; subst z; exact h1 hk'
theorem ghost {G F H : Hp} {σ gv : List (Option V)} {p : Addr} {o : HO} (S : St K G F H ms (σ ++ gv)) (hp : H p = none) : St K (upd G p o) F (upd H p o) ms (σ ++ gv) := by
  obtain ⟨h0, w, sh, d1, d2⟩ := S.own
  refine ⟨fun b u e => ?_, S.f.trans (same_new hp), (S.fg.symm.upd (S.f.free hp)).symm, h0, w, sh.trans (same_new hp), d1, (d2.symm.upd (sh.free hp)).symm⟩
  by_cases hb : b = p
  · subst hb; rw [upd_same] at e ⊢; exact e
  · rw [upd_ne hb] at e ⊢; exact S.g _ _ e
theorem unghost {G F H : Hp} {σ : List (Option V)} {p : Addr} {o : HO} (hG : G p = none) (S : St K (upd G p o) F H ms σ) : St K G F H ms σ := by
  obtain ⟨h0, w, sh, d1, d2⟩ := S.own
  exact ⟨(same_new hG).trans S.g, S.f, (S.fg.symm.un_upd hG).symm, h0, w, sh, d1, (d2.symm.un_upd hG).symm⟩
/-- a thing that was laid ahead gets its content, and is data from here on -/
theorem ghost_fz {G F H : Hp} {σ : List (Option V)} {p : Addr} {o o' : HO} (hG : G p = none) (S : St K (upd G p o) F H ms σ) : F p = none ∧ St K G (upd F p o') (upd H p o') ms σ := by
  have hF : F p = none := S.fg.symm.none upd_same
  obtain ⟨h0, w, sh, d1, d2⟩ := S.own
  have hh : h0 p = none := d2.symm.none upd_same
  have up : ∀ {A : Hp}, A p = none → Same A H → Same A (upd H p o') := fun na s b u z => by
    rw [upd_ne (ne_of_none z na)]; exact s _ _ z
  refine ⟨hF, up hG ((same_new hG).trans S.g), fun b u e => ?_, Dj.upd (S.fg.symm.un_upd hG).symm hG, h0, w.up (same_new hF), up hh sh, (d1.symm.upd hh).symm, (d2.symm.un_upd hG).symm⟩
  by_cases hb : b = p
  · subst hb; rw [upd_same] at e ⊢; exact e
  · rw [upd_ne hb] at e ⊢; exact S.f _ _ e
theorem wd_disp {t : WX → List (TE × TE)} {P : D → List MV → Prop} (h : wpPs K n t ms (fun kds m1 => kds.length ≤ 15 ∧ (kds.map (·.1)).Nodup ∧ P (.dic kds) m1) X) : wpD K n (fun W => tDisp (t W)) ms P X := by
  intro W G F H σ gv Q hn S kk x p hp
  have hG : G p = none := S.g.free hp
  refine h W _ F _ σ gv _ hn (ghost S hp) (fun kds kvs m1 g1 F1 H1 ho S1 r1 e1 => ?_) (fun c m g F' H' q S' e => x c m g F' H' q (unghost hG S') e)
  obtain ⟨hl, nd, hP⟩ := ho
  refine ⟨S1.g _ _ upd_same, kvs, rfl, by rw [r1.length]; exact hl, ?_⟩
  have em : mergeK [] kvs = kvs := by
    have := merge_new kvs [] (by simp) (by rw [r1.keys]; exact nd)
    simpa using this
  rw [em]
  obtain ⟨hF, S2⟩ := ghost_fz (o' := .dK kvs) hG S1
  exact kk _ _ m1 g1 _ _ hP S2 (.dic (.inl upd_same) (r1.up (same_new hF))) (e1.trans (same_new hF))
/-- d[k], data -/
theorem wd_dget {td ty : WX → TE} {P : D → List MV → Prop} (h : wpD K n td ms (fun a m1 => ∃ kds, a = .dic kds ∧ wpD K n ty m1 (fun b m2 => ∃ k d, keyD b = some k ∧ valD kds k = some d ∧ P d m2) X) X) : wpD K n (fun W => tDGet (td W) (ty W)) ms P X := by
  intro W G F H σ gv Q hn S kk x
  refine h W G F H σ gv _ hn S (fun a v m1 g1 F1 H1 ho S1 r1 e1 => ?_) x
  obtain ⟨kds, rfl, ho⟩ := ho
  cases r1 with
  | dic hd r =>
    rename_i ad kvs
    refine ho W G F1 H1 σ g1 _ hn S1 (fun b v2 m2 g2 F2 H2 ho S2 r2 e2 => ?_) (fun c m g F' H' p S' e => x c m g F' H' p S' (e1.trans e))
    obtain ⟨k, d, ek, ev, hP⟩ := ho
    have := r2.key ek
    subst this
    rcases RpK.val (k := k) r with ⟨_, b⟩ | ⟨v3, d3, a, b, c⟩
    · rw [b] at ev; cases ev
    · rw [b] at ev; cases ev
      exact ⟨ad, v3, rfl, .inl ⟨kvs, k, (Le.of (e2.trans S2.f)).rdD hd, rfl, a.symm⟩, kk _ _ m2 g2 F2 H2 hP S2 (c.up e2) (e1.trans e2)⟩
end
end M
namespace M
open PySem PySem.Spec PyProof.Rows L2
/-! ### the law's draws -/
def FsOk (K : PySem.W.Frag) (np nn : Nat) (fs : FS) (t : WX → TS) : Prop :=
  ∀ ms P X, fs ms P X → ms.length = np ∧ wpS K nn t (ms ++ List.replicate (nn - np) .un) (fun me => ∃ ms', Back ms me ms' ∧ P (.fz .non) ms') (fun m me => ∃ ms', Back ms me ms' ∧ P m ms') (fun c me => ∃ ms', Back ms me ms' ∧ X c ms')
abbrev scr (sc : List Int) : MV := .fz (.sq (sc.map .int))
def zeros (n : Nat) : T := .lst ((List.replicate n (.int 0)).map .lf)
def fs__law_cell (K : PySem.W.Frag) : FS := fun ms P X => ∃ sc k, ms = [scr sc, .fz (.int k)] ∧ sc.length ≤ 63 ∧ ∀ z, P (.fz (.int z)) ms
/-- _law_cell: slots 0 script, 1 k -/
def t__law_cell (K : PySem.W.Frag) : WX → TS := fun W => (tSeq (tIfS (tTru K (tVar 0)) (tRet (tOp (rIxA K) (tVar 0) (tOp (rI (fun _ j => 0 < j) fun i j => .int (i % j)) (tVar 1) (tCB (rLenA K) (tCons (tVar 0) tNil))))) tNext) (tRet (tC (.int 0))))
theorem atI_mod {α : Type} (xs : List α) (k : Int) (h : xs ≠ []) : ∃ x, L2.atI xs (k % (xs.length : Int)) = some x := by
  have hl : 0 < xs.length := List.length_pos_iff.mpr h
  have h1 : 0 ≤ k % (xs.length : Int) := Int.emod_nonneg _ (by omega)
  have h2 : k % (xs.length : Int) < xs.length := Int.emod_lt_of_pos _ (by omega)
  unfold L2.atI ixN
  rw [if_pos h1, if_pos h2]
  have h3 : (k % (xs.length : Int)).toNat < xs.length := by omega
  exact ⟨xs[(k % (xs.length : Int)).toNat], by simp [h3]⟩
theorem h__law_cell {K : PySem.W.Frag} : FsOk K 2 2 (fs__law_cell K) (t__law_cell K) := by
  intro ms P X hf
  obtain ⟨sc, k, rfl, hl, hP⟩ := hf
  refine ⟨rfl, ?_⟩
  unfold t__law_cell
  refine ws_seq (ws_if (wt_tru (wd_var rfl (by decide) ⟨_, rfl, ?_⟩)))
  have bk : Back [scr sc, .fz (.int k)] [scr sc, .fz (.int k)] [scr sc, .fz (.int k)] := .fz (.fz .nil)
  cases sc with
  | nil => exact ws_next (ws_ret (wd_int ⟨_, bk, hP 0⟩))
  | cons a r =>
    refine ws_ret (wd_op (wd_var rfl (by decide) (wd_op (wd_var rfl (by decide) (wd_cb (wa_cons (wd_var rfl (by decide) (wa_nil (c_len rfl (by simp at hl ⊢; omega) ?_)))))))))
    refine o_Ii (by simp) ?_
    obtain ⟨x, hx⟩ := atI_mod ((a :: r).map D.int) k (by simp)
    have hx' := hx
    obtain ⟨z, rfl⟩ : ∃ z, x = D.int z := by
      unfold L2.atI at hx
      cases q : ixN ((a :: r).map D.int).length (k % (((a :: r).map D.int).length : Int)) with
      | none => rw [q] at hx; cases hx
      | some j =>
        rw [q] at hx
        obtain ⟨y, _, e⟩ := List.mem_map.mp (List.mem_of_getElem? hx)
        exact ⟨y, e.symm⟩
    exact o_ixQ hx' ⟨_, bk, hP z⟩
def fs__law_mix (K : PySem.W.Frag) : FS := fun ms P X => ∃ sc k, ms = [scr sc, .fz (.int k)] ∧ sc.length ≤ 63 ∧ ∀ z, P (.fz (.int z)) ms
/-- _law_mix: slots 0 script, 1 k, 2 number -/
def t__law_mix (K : PySem.W.Frag) : WX → TS := fun W => (tSeq (tAsg (tOp (rI (fun _ j => 0 < j) fun i j => .int (i % j)) (tOp (rAddA K) (tCallS (SpM K (fs__law_cell K)) (WE W) (tCons (tVar 0) (tCons (tVar 1) tNil))) (tOp rMulA (tC (.int 104729)) (tOp (rAddA K) (tVar 1) (tC (.int 1))))) (tC (.int 4294967291))) (gName 2)) (tSeq (tAsg (tOp (rI (fun _ j => 0 < j) fun i j => .int (i % j)) (tOp (rI CPow fun i j => .int (i ^ j.toNat)) (tVar 2) (tC (.int 5))) (tC (.int 4294967279))) (gName 2)) (tRet (tOp (rI (fun _ j => 0 < j) fun i j => .int (i % j)) (tOp (rAddA K) (tOp rMulA (tOp (rI CDiv fun i j => .int (i / j)) (tVar 2) (tC (.int 64))) (tC (.int 69621))) (tVar 2)) (tC (.int 4294967231))))))
theorem cell_mono {K : PySem.W.Frag} (a : List MV) (Q Q' : MV → List MV → Prop) (Y Y' : XP) (h : ∀ m b, Q m b → Q' m b) (_ : ∀ c b, Y c b → Y' c b) (f : fs__law_cell K a Q Y) : fs__law_cell K a Q' Y' := by
  obtain ⟨sc, k, rfl, hl, hP⟩ := f
  exact ⟨sc, k, rfl, hl, fun z => h _ _ (hP z)⟩
theorem h__law_mix {K : PySem.W.Frag} : FsOk K 2 3 (fs__law_mix K) (t__law_mix K) := by
  intro ms P X hf
  obtain ⟨sc, k, rfl, hl, hP⟩ := hf
  refine ⟨rfl, ?_⟩
  unfold t__law_mix
  refine ws_seq (ws_set (by decide) (wd_op (wd_op (wd_call0 (wa_cons (wd_var rfl (by decide) (wa_cons (wd_var rfl (by decide) (wa_nil ⟨sc, k, rfl, hl, fun z => ⟨_, rfl, ?_⟩⟩))))) cell_mono))))
  refine wd_op (wd_int (wd_op (wd_var rfl (by decide) (wd_int (o_addI (o_mulI (.inl ⟨by decide, by decide⟩) (o_addI (wd_int (o_Ii (by decide) ?_)))))))))
  refine ws_seq (ws_set (by decide) (wd_op (wd_op (wd_var rfl (by decide) (wd_int (o_Ii ?_ (wd_int (o_Ii (by decide) ?_))))))))
  · refine ⟨by decide, by decide, ?_⟩
    have h1 := Int.emod_nonneg (z + 104729 * (k + 1)) (show (4294967291 : Int) ≠ 0 by decide)
    have h2 := Int.emod_lt_of_pos (z + 104729 * (k + 1)) (show (0 : Int) < 4294967291 by decide)
    omega
  generalize hn : ((z + 104729 * (k + 1)) % 4294967291) ^ (5 : Int).toNat % 4294967279 = n2
  have h1 : 0 ≤ n2 := by rw [← hn]; exact Int.emod_nonneg _ (by decide)
  have h2 : n2 < 4294967279 := by rw [← hn]; exact Int.emod_lt_of_pos _ (by decide)
  refine ws_ret (wd_op (wd_op (wd_op (wd_op (wd_var rfl (by decide) (wd_int (o_Ii ⟨by decide, by decide⟩ (wd_int (o_mulI (.inr ⟨by decide, by decide⟩) (wd_var rfl (by decide) (o_addI (wd_int (o_Ii (by decide) ?_)))))))))))))
  exact ⟨_, .fz (.fz .nil), hP _⟩
/-- the next draw: something below many; the town grows -/
def fs__law_draw (K : PySem.W.Frag) : FS := fun ms P X => ∃ sc t n m, ms = [scr sc, .ot t (zeros n), .fz (.int m)] ∧ sc.length ≤ 63 ∧ n < 90000 ∧ 0 < m ∧ ∀ z, 0 ≤ z → z < m → P (.fz (.int z)) [scr sc, .ot t (zeros (n + 1)), .fz (.int m)]
/-- _law_draw: slots 0 script, 1 town, 2 many -/
def t__law_draw (K : PySem.W.Frag) : WX → TS := fun W => (tSeq (tDrop (tBM K "list" rAppend (tVar 1) (tCons (tC (.int 0)) tNil))) (tRet (tOp (rI (fun _ j => 0 < j) fun i j => .int (i % j)) (tOp (rI CDiv fun i j => .int (i / j)) (tCallS (SpM K (fs__law_mix K)) (WE W) (tCons (tVar 0) (tCons (tCB (rLenA K) (tCons (tVar 1) tNil)) tNil))) (tC (.int 8))) (tVar 2))))
theorem zeros_succ (n : Nat) : T.lst ((List.replicate n (D.int 0)).map .lf ++ [.lf (.int 0)]) = zeros (n + 1) := by
  unfold zeros
  rw [List.replicate_succ', List.map_append]
  rfl
theorem mix_mono {K : PySem.W.Frag} (a : List MV) (Q Q' : MV → List MV → Prop) (Y Y' : XP) (h : ∀ m b, Q m b → Q' m b) (_ : ∀ c b, Y c b → Y' c b) (f : fs__law_mix K a Q Y) : fs__law_mix K a Q' Y' := by
  obtain ⟨sc, k, rfl, hl, hP⟩ := f
  exact ⟨sc, k, rfl, hl, fun z => h _ _ (hP z)⟩
theorem h__law_draw {K : PySem.W.Frag} : FsOk K 3 3 (fs__law_draw K) (t__law_draw K) := by
  intro ms P X hf
  obtain ⟨sc, t, n, m, rfl, hl, hn, hm, hP⟩ := hf
  refine ⟨rfl, ?_⟩
  unfold t__law_draw
  refine ws_seq (ws_append (by decide) rfl (wd_int ⟨_, rfl, by simp; omega, ?_⟩))
  rw [zeros_succ]
  refine ws_ret (wd_op (wd_op (wd_call0 (wa_cons (wd_var rfl (by decide) (wa_cons (wd_view (wd_cb (wa_cons (wd_var rfl (by decide) (wa_nil (c_len (m := n + 1) ?_ (by omega) ⟨rfl, ?_⟩)))))) ))) mix_mono)))
  · show lenD (T.toD (zeros (n + 1))) = _
    unfold zeros
    rw [toD_lst]
    simp [lenD]
  refine wa_nil ⟨sc, _, rfl, hl, fun z => ⟨_, rfl, ?_⟩⟩
  refine wd_int (o_Ii ⟨by decide, by decide⟩ (wd_var rfl (by decide) (o_Ii hm ?_)))
  exact ⟨_, .fz (.ot (.fz .nil)), hP _ (Int.emod_nonneg _ (by omega)) (Int.emod_lt_of_pos _ hm)⟩
/-- one of some -/
def fs__law_pick (K : PySem.W.Frag) : FS := fun ms P X => ∃ sc t n ds, ms = [scr sc, .ot t (zeros n), .fz (.lst ds)] ∧ sc.length ≤ 63 ∧ n < 90000 ∧ 0 < ds.length ∧ ds.length ≤ 1000 ∧ ∀ d, d ∈ ds → P (.fz d) [scr sc, .ot t (zeros (n + 1)), .fz (.lst ds)]
/-- _law_pick: slots 0 script, 1 town, 2 some -/
def t__law_pick (K : PySem.W.Frag) : WX → TS := fun W => (tRet (tOp (rIxA K) (tVar 2) (tCallS (SpM K (fs__law_draw K)) (WE W) (tCons (tVar 0) (tCons (tVar 1) (tCons (tCB (rLenA K) (tCons (tVar 2) tNil)) tNil))))))
theorem h__law_pick {K : PySem.W.Frag} : FsOk K 3 3 (fs__law_pick K) (t__law_pick K) := by
  intro ms P X hf
  obtain ⟨sc, t, n, ds, rfl, hl, hn, hm, hm2, hP⟩ := hf
  refine ⟨rfl, ?_⟩
  unfold t__law_pick
  refine ws_ret (wd_op (wd_var rfl (by decide) (wd_call [(1, 1)] (wa_cons (wd_var rfl (by decide) (wa_cons (wd_varO rfl (by decide) (wa_cons (wd_cb (wa_cons (wd_var rfl (by decide) (wa_nil (c_len rfl (by omega) ?_)))))))))))))
  refine wa_nil ⟨_, _, .cons rfl rfl .nil, sc, t, n, _, rfl, hl, hn, by omega, fun z h0 h1 => ⟨_, _, .cons rfl rfl .nil, _, rfl, ?_⟩⟩
  have hz : z.toNat < ds.length := by omega
  refine o_ixL (d := ds[z.toNat]) ?_ ⟨_, .fz (.ot (.fz .nil)), hP _ (List.getElem_mem hz)⟩
  unfold L2.atI ixN
  rw [if_pos h0, if_pos h1]
  simp [hz]
end M
namespace M
open PySem PySem.Spec PyProof.Rows L2
/-! ### texts as lists of signs -/
def isW (c : Nat) : Bool := (97 ≤ c && c ≤ 122) || (48 ≤ c && c ≤ 57)
/-- a sign that may stand in a text -/
def okc (c : Nat) : Bool := 32 ≤ c && c < 127 && c != 37
def S (l : List Nat) : PySem.Str := ⟨l.toArray⟩
theorem S_cps (x : PySem.Str) : S x.cps.toList = x := by cases x; simp [S]
/-- what is a text -/
def isTextB (x : PySem.Str) : Bool := decide (x.length ≤ 60) && x.cps.toList.all okc
/-- look_text: refuses what is no text -/
def fs_look_text (K : PySem.W.Frag) : FS := fun ms P X => ∃ x, ms = [.fz (.str x)] ∧ x.length ≤ 1000 ∧ (isTextB x = true → P (.fz .non) ms) ∧ (isTextB x = false → X (.ref (He.ga K "BadText")) ms)
/-- look_text: slots 0 text, 1 sign -/
def t_look_text (K : PySem.W.Frag) : WX → TS := fun W => (tIfS (tOr (tTest (tOp (rI0 fun i j => .bl (decide (j < i))) (tCB (rLenA K) (tCons (tVar 0) tNil)) (tC (.int 60)))) (tNot (tB (tCB (rAll K) (tCons (tLcW (iStr (tVar 0)) (gName 1) (fun W => tYes) (fun W => (tAndV (tChain (rI0 fun i j => .bl (decide (i ≤ j))) (rI0 fun i j => .bl (decide (i < j))) (tC (.int 32)) (tCB rOrd (tCons (tVar 1) tNil)) (tC (.int 127))) (tOp (rNeA K) (tCB rOrd (tCons (tVar 1) tNil)) (tC (.int 37))))) [1]) tNil))))) (fun _ σ H => W (.ref (He.ga K "BadText")) none σ H) tNext)
theorem h_look_text {K : PySem.W.Frag} : FsOk K 1 2 (fs_look_text K) (t_look_text K) := by
  intro ms P X hf
  obtain ⟨x, rfl, hl, hP, hX⟩ := hf
  refine ⟨rfl, ?_⟩
  unfold t_look_text
  refine ws_if (wt_or (wt_test (wd_op (wd_cb (wa_cons (wd_var rfl (by decide) (wa_nil (c_len rfl (by omega) (wd_int (o_I0b ⟨_, rfl, ?_⟩)))))))))) 
  by_cases h60 : x.length ≤ 60
  · rw [if_neg (by simp; omega)]
    refine wt_not (wt_B (wd_cb (wa_cons (wd_lc (by simp) (gok_name (by simp)) (wi_str (wd_var rfl (by decide) ⟨x, rfl, ?_⟩))))))
    refine ⟨by simp [sgnD]; unfold Str.length at hl; omega, fun i acc m => acc = ((x.cps.toList.take i).map fun c => D.bl (okc c)) ∧ m = [.fz (.str x), .un], ⟨rfl, rfl⟩, ?_, ?_⟩
    · rintro i d acc m hd ⟨rfl, rfl⟩
      obtain ⟨c, hc, rfl⟩ : ∃ c, x.cps.toList[i]? = some c ∧ d = .str ⟨#[c]⟩ := by
        unfold sgnD at hd
        rw [List.getElem?_map] at hd
        cases q : x.cps.toList[i]? with
        | none => rw [q] at hd; cases hd
        | some c => rw [q] at hd; exact ⟨c, rfl, (Option.some.inj hd).symm⟩
      refine wg_name (by decide) ?_
      refine wt_yes ?_
      rw [if_pos rfl]
      have hnext : ((x.cps.toList.take (i + 1)).map fun c => D.bl (okc c)) = ((x.cps.toList.take i).map fun c => D.bl (okc c)) ++ [D.bl (okc c)] := by
        rw [List.take_add_one, hc]
        simp
      refine wd_andV (wd_chain (wd_int (wd_cb (wa_cons (wd_var rfl (by decide) (wa_nil (c_ord (o_I0b ⟨_, rfl, ?_⟩))))))))
      by_cases h1 : 32 ≤ c
      · rw [if_pos (by simp; omega)]
        refine wd_int (o_I0b ⟨_, rfl, ?_⟩)
        by_cases h2 : c < 127
        · rw [if_pos (by simp; omega)]
          refine wd_op (wd_cb (wa_cons (wd_var rfl (by decide) (wa_nil (c_ord (wd_int (o_neI ⟨?_, rfl⟩)))))))
          rw [hnext]
          congr 3
          unfold okc
          by_cases h3 : c = 37
          · subst h3; decide
          · have : ¬ ((c : Int) = 37) := by omega
            simp [h1, h2, h3, this]
        · rw [if_neg (by simp; omega)]
          refine ⟨?_, rfl⟩
          rw [hnext]
          congr 3
          unfold okc
          simp [h2]
      · rw [if_neg (by simp; omega)]
        refine ⟨_, rfl, ?_⟩
        rw [if_neg (by simp)]
        refine ⟨?_, rfl⟩
        rw [hnext]
        congr 3
        unfold okc
        simp [h1]
    · rintro acc m ⟨rfl, rfl⟩
      have e : ((x.cps.toList.take (sgnD x).length).map fun c => D.bl (okc c)) = (x.cps.toList.map okc).map .bl := by
        rw [List.take_of_length_le (by simp [sgnD]), List.map_map]
        rfl
      rw [e]
      refine wa_nil (c_all ⟨_, rfl, ?_⟩)
      have e2 : (x.cps.toList.map okc).all id = x.cps.toList.all okc := by simp [List.all_map]
      rw [e2]
      cases q : x.cps.toList.all okc with
      | true =>
        rw [if_neg (by simp)]
        exact ws_next ⟨_, .fz .nil, hP (by simp [isTextB, h60, q])⟩
      | false =>
        rw [if_pos (by simp)]
        exact ws_raise ⟨_, .fz .nil, hX (by simp [isTextB, q])⟩
  · rw [if_pos (by simp; omega), if_pos rfl]
    exact ws_raise ⟨_, .fz .nil, hX (by simp [isTextB, h60])⟩
end M
namespace M
open PySem PySem.Spec PyProof.Rows L2
/-! ### the words of a text -/
def wstep (s : List (List Nat) × List Nat) (c : Nat) : List (List Nat) × List Nat := if isW c = true then (s.1, s.2 ++ [c]) else if s.2 = [] then s else (s.1 ++ [s.2], [])
def wstate (l : List Nat) : List (List Nat) × List Nat := l.foldl wstep ([], [])
def wordsL (l : List Nat) : List (List Nat) := ((wstate l).1 ++ [(wstate l).2]).filter fun w => decide (w ≠ [])
def lowL (x : PySem.Str) : List Nat := x.cps.toList.map lo1
def wordsOf (x : PySem.Str) : List PySem.Str := (wordsL (lowL x)).map S
def strsD (l : List PySem.Str) : D := .lst (l.map .str)
theorem letters_in : ∀ c : Fin 128, (!(Builtin.Str.occurrences (PySem.Str.ofString "abcdefghijklmnopqrstuvwxyz0123456789") ⟨#[c.val]⟩ 0 (PySem.Str.ofString "abcdefghijklmnopqrstuvwxyz0123456789").length 1).isEmpty) = isW c.val := by decide +kernel
theorem wstate_snoc (l : List Nat) (c : Nat) : wstate (l ++ [c]) = wstep (wstate l) c := by simp [wstate, List.foldl_append]
theorem S_append (a b : List Nat) : S a ++ S b = S (a ++ b) := by
  show Str.append _ _ = _
  simp [S, Str.append]
theorem S_len (a : List Nat) : (S a).length = a.length := by simp [S, Str.length]
theorem S_inj {a b : List Nat} (h : S a = S b) : a = b := by
  have := congrArg (fun x : PySem.Str => x.cps.toList) h
  simpa [S] using this
theorem wfold_len : ∀ (l : List Nat) (s : List (List Nat) × List Nat), (l.foldl wstep s).1.length ≤ s.1.length + l.length ∧ (l.foldl wstep s).2.length ≤ s.2.length + l.length
  | [], s => ⟨Nat.le_refl _, Nat.le_refl _⟩
  | c :: l, s => by
    have ih := wfold_len l (wstep s c)
    have h : (wstep s c).1.length ≤ s.1.length + 1 ∧ (wstep s c).2.length ≤ s.2.length + 1 := by
      unfold wstep
      split
      · simp
      · split
        · omega
        · simp
    simp only [List.foldl_cons, List.length_cons]
    omega
theorem wstate_len (l : List Nat) : (wstate l).1.length ≤ l.length ∧ (wstate l).2.length ≤ l.length := by
  have := wfold_len l ([], [])
  simpa [wstate] using this
theorem lo1_lt {c : Nat} (h : okc c = true) : lo1 c < 128 := by
  unfold okc at h
  simp at h
  unfold lo1
  split <;> omega
def fs_words_of (K : PySem.W.Frag) : FS := fun ms P X => ∃ x, ms = [.fz (.str x)] ∧ x.length ≤ 1000 ∧ (isTextB x = true → P (.fz (strsD (wordsOf x))) ms) ∧ (isTextB x = false → X (.ref (He.ga K "BadText")) ms)
/-- words_of: slots 0 text, 1 found, 2 sign, 3 word -/
def t_words_of (K : PySem.W.Frag) : WX → TS := fun W => (tSeq (tDrop (tCallS (SpM K (fs_look_text K)) (WE W) (tCons (tVar 0) tNil))) (tSeq (tAsg (tLst (tCons (tC (.str "")) tNil)) (gName 1)) (tSeq (tFor (iStr (tM0 rLower (tVar 0))) (gName 2) (tIfS (tTest (tOp (rInA K) (tVar 2) (tC (.str "abcdefghijklmnopqrstuvwxyz0123456789")))) (tAsg (tOp (rAddA K) (tOp (rIxA K) (tVar 1) (tUn (rU fun i => .int (-i)) (tC (.int 1)))) (tVar 2)) (gSub (tVar 1) (tUn (rU fun i => .int (-i)) (tC (.int 1))) rSetL)) (tIfS (tTest (tOp (rNeA K) (tOp (rIxA K) (tVar 1) (tUn (rU fun i => .int (-i)) (tC (.int 1)))) (tC (.str "")))) (tDrop (tBM K "list" rAppend (tVar 1) (tCons (tC (.str "")) tNil))) tNext))) (tRet (tLcW (iList K (tVar 1)) (gName 3) (fun W => (tTest (tOp (rNeA K) (tVar 3) (tC (.str ""))))) (fun W => (tVar 3)) [3])))))
abbrev foundT (p : Addr) (s : List (List Nat) × List Nat) : MV := .ot p (.lst (((s.1 ++ [s.2]).map fun w => D.str (S w)).map .lf))
theorem atI_last {α : Type} (l : List α) (x : α) : L2.atI (l ++ [x]) (-1) = some x := by
  unfold L2.atI ixN
  rw [if_neg (by decide), if_pos (by simp; omega)]
  have : (-1 + ((l ++ [x]).length : Int)).toNat = l.length := by simp; omega
  rw [this]
  simp
theorem ixN_last {n : Nat} (h : 0 < n) : ixN n (-1) = some (n - 1) := by
  unfold ixN
  rw [if_neg (by decide), if_pos (by omega)]
  congr 1
  omega
theorem h_words_of {K : PySem.W.Frag} : FsOk K 1 4 (fs_words_of K) (t_words_of K) := by
  intro ms P X hf
  obtain ⟨x, rfl, hl, hP, hX⟩ := hf
  refine ⟨rfl, ?_⟩
  unfold t_words_of
  refine ws_seq (ws_drop (wd_call [] (wa_cons (wd_var rfl (by decide) (wa_nil ⟨_, _, .nil, x, rfl, hl, fun ht => ⟨_, _, .nil, _, rfl, ?_⟩, fun ht => ⟨_, _, .nil, _, .fz .nil, hX ht⟩⟩)))))
  have ht2 : x.length ≤ 60 ∧ ∀ c ∈ x.cps.toList, okc c = true := by
    unfold isTextB at ht
    rw [Bool.and_eq_true, decide_eq_true_eq, List.all_eq_true] at ht
    exact ht
  have hlow : Txt.lower x = S (lowL x) := by
    rw [lower_ascii fun c hc => by have := ht2.2 c hc; unfold okc at this; simp at this; omega]
    unfold lowL S
    congr 1
    apply Array.ext'
    simp
  refine ws_seq (ws_setN (by decide) (wn_lst (wa_cons (wd_str (wa_nil ⟨by decide, fun p => ?_⟩)))))
  refine ws_seq (ws_for (wi_str (wd_m0 (wd_var rfl (by decide) ⟨x, rfl, b_lower (by omega) ⟨_, rfl, ?_⟩⟩))))
  rw [hlow]
  have e1 : sgnD (S (lowL x)) = (lowL x).map fun c => D.str (S [c]) := by simp [sgnD, S]
  rw [e1]
  refine ⟨fun i m => ∃ z, m = [.fz (.str x), foundT p (wstate ((lowL x).take i)), z, .un], ⟨.un, rfl⟩, ?_, ?_⟩
  · rintro i d m hd ⟨z, rfl⟩
    obtain ⟨c, hc, rfl⟩ : ∃ c, (lowL x)[i]? = some c ∧ d = .str (S [c]) := by
      rw [List.getElem?_map] at hd
      cases q : (lowL x)[i]? with
      | none => rw [q] at hd; cases hd
      | some c => rw [q] at hd; exact ⟨c, rfl, (Option.some.inj hd).symm⟩
    have hc128 : c < 128 := by
      obtain ⟨c0, h0, rfl⟩ := List.mem_map.mp (List.mem_of_getElem? hc)
      exact lo1_lt (ht2.2 c0 h0)
    have hst : wstate ((lowL x).take (i + 1)) = wstep (wstate ((lowL x).take i)) c := by
      rw [List.take_add_one, hc]
      exact wstate_snoc _ _
    have hlen := wstate_len ((lowL x).take i)
    have hll : ((lowL x).take i).length ≤ 60 := by
      have : (lowL x).length ≤ 60 := by simpa [lowL, Str.length] using ht2.1
      rw [List.length_take]; omega
    generalize wstate ((lowL x).take i) = s at *
    obtain ⟨s1, s2⟩ := s
    dsimp only at hlen
    have hat : L2.atI ((s1 ++ [s2]).map fun w => D.str (S w)) (-1) = some (.str (S s2)) := by
      rw [List.map_append]
      exact atI_last _ _
    refine wg_name (by decide) ?_
    refine ws_if (wt_test (wd_op (wd_var rfl (by decide) (wd_str (o_inS ⟨_, rfl, ?_⟩)))))
    have hin : (!(Builtin.Str.occurrences (PySem.Str.ofString "abcdefghijklmnopqrstuvwxyz0123456789") (S [c]) 0 (PySem.Str.ofString "abcdefghijklmnopqrstuvwxyz0123456789").length 1).isEmpty) = isW c := letters_in ⟨c, hc128⟩
    rw [hin]
    cases hw : isW c with
    | true =>
      rw [if_pos rfl]
      refine ws_setL (p := p) (by decide) (wd_op (wd_view (wd_op (wd_var rfl (by decide) (wd_un (wd_int ?_))))))
      refine un_negI ?_
      rw [toD_lst]
      refine o_ixL hat ⟨rfl, wd_var rfl (by decide) (o_addS (by rw [S_len, S_len]; simp; omega) ⟨⟨_, rfl⟩, wd_un (wd_int (un_negI ⟨_, _, _, rfl, rfl, ixN_last (by simp), ?_⟩))⟩)⟩
      refine ⟨.fz (.str (S [c])), ?_⟩
      rw [hst]
      simp only [wstep, hw, if_true]
      simp only [foundT, S_append]
      congr 2
      simp
    | false =>
      rw [if_neg (by simp)]
      refine ws_if (wt_view (wt_test (wd_op (wd_op (wd_var rfl (by decide) (wd_un (wd_int (un_negI ?_)))) ))))
      rw [toD_lst]
      refine o_ixL hat (wd_str (o_neS ⟨_, rfl, ?_⟩))
      have hemp : (decide (S s2 = PySem.Str.ofString "")) = decide (s2 = []) := by
        apply decide_eq_decide.mpr
        constructor
        · intro h; exact S_inj (b := []) h
        · intro h; rw [h]; rfl
      rw [hemp]
      by_cases h2 : s2 = []
      · rw [if_neg (by simp [h2])]
        refine ws_next ⟨.fz (.str (S [c])), ?_⟩
        rw [hst]
        simp [wstep, hw, h2]
      · rw [if_pos (by simp [h2])]
        refine ws_append (by decide) rfl (wd_str ⟨_, rfl, by simp; omega, .fz (.str (S [c])), ?_⟩)
        rw [hst]
        simp only [wstep, hw, h2, if_false]
        simp [foundT, S]
        rfl
  · rintro m ⟨z, rfl⟩
    have e2 : (lowL x).take ((lowL x).map fun c => D.str (S [c])).length = lowL x := by simp
    rw [e2]
    refine ws_freeze 1 rfl (ws_ret (wd_lcMap (by decide) (gok_name (by decide)) (wi_list (wd_var rfl (by decide) ⟨_, toD_lst _, ?_⟩))))
    have hl60 : (lowL x).length ≤ 60 := by simpa [lowL, Str.length] using ht2.1
    have hlen := wstate_len (lowL x)
    refine ⟨by simp; omega, fun d => match d with | .str y => decide (y ≠ S []) | _ => false, id, fun d hd => ?_, ?_⟩
    · obtain ⟨w, _, rfl⟩ := List.mem_map.mp hd
      refine wg_name (by decide) (wt_test (wd_op (wd_var rfl (by decide) (wd_str (o_neS ⟨_, rfl, ?_⟩)))))
      refine ⟨?_, rfl, fun _ => wd_var rfl (by decide) ⟨rfl, rfl⟩⟩
      simp only [decide_not]
      rfl
    · refine ⟨_, .fz .nil, ?_⟩
      have e3 : (List.map id (List.filter (fun d : D => match d with | .str y => decide (y ≠ S []) | _ => false) (((wstate (lowL x)).1 ++ [(wstate (lowL x)).2]).map fun w => D.str (S w)))) = (wordsOf x).map .str := by
        unfold wordsOf wordsL
        rw [List.map_id, List.filter_map, List.map_map]
        congr 1
        apply List.filter_congr
        intro w _
        show decide (S w ≠ S []) = decide (w ≠ [])
        apply decide_eq_decide.mpr
        constructor
        · intro h q; exact h (by rw [q])
        · intro h q; exact h (S_inj q)
      rw [e3]
      exact hP ht
end M
namespace M
open PySem PySem.Spec PyProof.Rows L2
/-! ### words turned -/
def turnsL : List (PySem.Str × PySem.Str) := [("i", "you"), ("me", "you"), ("my", "your"), ("mine", "yours"), ("am", "are"), ("you", "i"), ("your", "my"), ("yours", "mine")]
def turnW (w : PySem.Str) : PySem.Str := ((turnsL.find? fun q => decide (q.1 = w)).map (·.2)).getD w
def fs_turned (K : PySem.W.Frag) : FS := fun ms P X => ∃ ws : List PySem.Str, ms = [.fz (strsD ws)] ∧ ws.length ≤ 1000 ∧ P (.fz (strsD (ws.map turnW))) ms
/-- turned: slots 0 words, 1 table, 2 word -/
def t_turned (K : PySem.W.Frag) : WX → TS := fun W => (tSeq (tAsg (tCB (rDictT K) (tCons (tC (.ref (He.ga K "TURNS"))) tNil)) (gName 1)) (tRet (tLcW (iList K (tVar 0)) (gName 2) (fun W => tYes) (fun W => (tDGet2 (tVar 1) (tVar 2) (tVar 2))) [2])))
theorem turns_merge : mergeK [] (turnsL.map fun q => (Sum.inr q.1, V.str q.2)) = turnsL.map fun q => (Sum.inr q.1, V.str q.2) := by decide +kernel
theorem valD_turns (w : PySem.Str) : ∀ l : List (PySem.Str × PySem.Str), (valD (l.map fun q => (Sum.inr q.1, D.str q.2)) (Sum.inr w)).getD (.str w) = .str (((l.find? fun q => decide (q.1 = w)).map (·.2)).getD w)
  | [] => rfl
  | q :: l => by
    by_cases h : q.1 = w
    · simp [valD, List.find?_cons, h]
    · have h' : ¬ ((Sum.inr q.1 : Key) = Sum.inr w) := fun z => h (Sum.inr.inj z)
      have ih := valD_turns w l
      simpa [valD, List.find?_cons, h, h'] using ih
theorem h_turned {K : PySem.W.Frag} (kp : KPairs K (He.ga K "TURNS") turnsL) : FsOk K 1 3 (fs_turned K) (t_turned K) := by
  intro ms P X hf
  obtain ⟨ws, rfl, hl, hP⟩ := hf
  refine ⟨rfl, ?_⟩
  unfold t_turned
  refine ws_seq (ws_set (by decide) (wd_cb (wa_cons (wd_c (fun _ => .raw _) (wa_nil (c_dictT kp turns_merge ?_))))))
  refine ws_ret (wd_lcMap (by decide) (gok_name (by decide)) (wi_list (wd_var rfl (by decide) ⟨_, rfl, ?_⟩)))
  refine ⟨by simp; omega, fun _ => true, fun d => match d with | .str w => .str (turnW w) | d => d, fun d hd => ?_, ?_⟩
  · obtain ⟨w, _, rfl⟩ := List.mem_map.mp hd
    refine wg_name (by decide) (wt_yes ⟨rfl, rfl, fun _ => wd_dget2 (wd_var rfl (by decide) ⟨_, rfl, wd_var rfl (by decide) ⟨_, rfl, wd_var rfl (by decide) ⟨?_, rfl⟩⟩⟩)⟩)
    exact valD_turns w turnsL
  · refine ⟨_, .fz .nil, ?_⟩
    have e : (List.map (fun d : D => match d with | .str w => D.str (turnW w) | d => d) (List.filter (fun _ => true) (ws.map .str))) = (ws.map turnW).map .str := by
      rw [List.filter_eq_self.mpr (by simp), List.map_map, List.map_map]
      rfl
    rw [e]
    exact hP
theorem atI_zero {α : Type} (x : α) (l : List α) : L2.atI (x :: l) 0 = some x := by
  unfold L2.atI ixN
  rw [if_pos (by decide), if_pos (by simp)]
  rfl
/-- the law's own turning -/
def fs__law_turned (K : PySem.W.Frag) : FS := fs_turned K
/-- _law_turned: slots 0 words, 1 pairs, 2 found, 3 word, 4 spots, 5 k -/
def t__law_turned (K : PySem.W.Frag) : WX → TS := fun W => (tSeq (tAsg (tM1 rSplit (tC (.str "i you me you my your mine yours am are you i your my yours mine")) (tC (.str " "))) (gName 1)) (tSeq (tAsg (tLst tNil) (gName 2)) (tSeq (tFor (iList K (tVar 0)) (gName 3) (tSeq (tAsg (tLcW (iRng3 (tCons (tC (.int 0)) (tCons (tCB (rLenA K) (tCons (tVar 1) tNil)) (tCons (tC (.int 2)) tNil)))) (gName 5) (fun W => (tTest (tOp (rEqA K) (tOp (rIxA K) (tVar 1) (tVar 5)) (tVar 3)))) (fun W => (tVar 5)) [5]) (gName 4)) (tDrop (tBM K "list" rAppend (tVar 2) (tCons (tIf (tTest (tOp (rNeA K) (tVar 4) (tLst tNil))) (tOp (rIxA K) (tVar 1) (tOp (rAddA K) (tOp (rIxA K) (tVar 4) (tC (.int 0))) (tC (.int 1)))) (tVar 3)) tNil))))) (tRet (tVar 2)))))
def pairsL : List PySem.Str := ["i", "you", "me", "you", "my", "your", "mine", "yours", "am", "are", "you", "i", "your", "my", "yours", "mine"]
theorem pairs_split : Txt.split "i you me you my your mine yours am are you i your my yours mine" " " = pairsL := by decide +kernel
/-- the places of a word among the firsts -/
def spotsOf (w : PySem.Str) : List Nat := (List.range 8).filter fun k => decide ((pairsL.getD (2 * k) "") = w)
theorem spots_turn (w : PySem.Str) : turnW w = match spotsOf w with | [] => w | k :: _ => pairsL.getD (2 * k + 1) "" := by
  unfold turnW spotsOf turnsL
  show _ = match (List.filter (fun k => decide (pairsL.getD (2 * k) "" = w)) [0, 1, 2, 3, 4, 5, 6, 7]) with | [] => w | k :: _ => pairsL.getD (2 * k + 1) ""
  simp only [List.find?_cons, List.filter_cons]
  have g0 : pairsL.getD (2 * 0) "" = "i" := rfl
  have g1 : pairsL.getD (2 * 1) "" = "me" := rfl
  have g2 : pairsL.getD (2 * 2) "" = "my" := rfl
  have g3 : pairsL.getD (2 * 3) "" = "mine" := rfl
  have g4 : pairsL.getD (2 * 4) "" = "am" := rfl
  have g5 : pairsL.getD (2 * 5) "" = "you" := rfl
  have g6 : pairsL.getD (2 * 6) "" = "your" := rfl
  have g7 : pairsL.getD (2 * 7) "" = "yours" := rfl
  rw [g0, g1, g2, g3, g4, g5, g6, g7]
  by_cases h0 : PySem.Str.ofString "i" = w
  · simp [h0]; rfl
  by_cases h1 : PySem.Str.ofString "me" = w
  · simp [h0, h1]; rfl
  by_cases h2 : PySem.Str.ofString "my" = w
  · simp [h0, h1, h2]; rfl
  by_cases h3 : PySem.Str.ofString "mine" = w
  · simp [h0, h1, h2, h3]; rfl
  by_cases h4 : PySem.Str.ofString "am" = w
  · simp [h0, h1, h2, h3, h4]; rfl
  by_cases h5 : PySem.Str.ofString "you" = w
  · simp [h0, h1, h2, h3, h4, h5]; rfl
  by_cases h6 : PySem.Str.ofString "your" = w
  · simp [h0, h1, h2, h3, h4, h5, h6]; rfl
  by_cases h7 : PySem.Str.ofString "yours" = w
  · simp [h0, h1, h2, h3, h4, h5, h6, h7]; rfl
  simp [h0, h1, h2, h3, h4, h5, h6, h7]
theorem rgc16 : RgC 0 16 2 8 := ⟨by decide, by decide, by decide +kernel, by decide +kernel⟩
theorem eqv_nil (ds : List D) : PyData.eqv (D.lst ds).py (D.lst []).py = ds.isEmpty := by
  cases ds <;> simp [D.py, pys, PyData.eqv, PyData.eqvAll]
theorem intsD_sh (l : List Int) : (D.lst (l.map .int)).sh = true := by
  have h1 : ∀ l : List Int, PyData.canLayAll0 (pys (l.map .int)) = true := by
    intro l
    induction l with
    | nil => simp [pys, PyData.canLayAll0]
    | cons a l ih => simp [pys, D.py, PyData.canLayAll0, PyData.canLay0, ih]
  have h2 : ∀ l : List Int, PyData.depthAll (pys (l.map .int)) = 0 := by
    intro l
    induction l with
    | nil => simp [pys, PyData.depthAll]
    | cons a l ih => simp [pys, D.py, PyData.depthAll, PyData.depth, ih]
  unfold D.sh SeqAt.shaped
  simp [D.py, PyData.canLay0, PyData.depth, h1, h2]
theorem h__law_turned {K : PySem.W.Frag} : FsOk K 1 6 (fs__law_turned K) (t__law_turned K) := by
  intro ms P X hf
  obtain ⟨ws, rfl, hl, hP⟩ := hf
  refine ⟨rfl, ?_⟩
  unfold t__law_turned
  refine ws_seq (ws_set (by decide) (wd_m1 (wd_str ⟨_, rfl, wd_str (b_split (by decide +kernel) (by decide +kernel) ?_)⟩)))
  rw [pairs_split]
  refine ws_seq (ws_setN (by decide) (wn_lst (wa_nil ⟨by decide, fun p => ?_⟩)))
  refine ws_seq (ws_for (wi_list (wd_var rfl (by decide) ⟨_, rfl, ?_⟩)))
  refine ⟨fun i m => ∃ z z2, m = [.fz (strsD ws), .fz (strsD pairsL), .ot p (.lst ((((ws.take i).map turnW).map D.str).map .lf)), z, z2, .un], ⟨.un, .un, rfl⟩, ?_, ?_⟩
  · rintro i d m hd ⟨z, z2, rfl⟩
    obtain ⟨w, hw, rfl⟩ : ∃ w, ws[i]? = some w ∧ d = .str w := by
      rw [List.getElem?_map] at hd
      cases q : ws[i]? with
      | none => rw [q] at hd; cases hd
      | some c => rw [q] at hd; exact ⟨c, rfl, (Option.some.inj hd).symm⟩
    refine wg_name (by decide) (ws_seq (ws_set (by decide) (wd_lcMap (by decide) (gok_name (by decide)) (wi_rng3 (wa_cons (wd_int (wa_cons (wd_cb (wa_cons (wd_var rfl (by decide) (wa_nil (c_len rfl (by decide) (wa_cons (wd_int (wa_nil ⟨0, 16, 2, 8, rfl, rgc16, ?_⟩)))))))))))))))
    refine ⟨by decide, fun d => match d with | .int k => decide (pairsL.getD k.toNat "" = w) | _ => false, id, fun d hd => ?_, ?_⟩
    · obtain ⟨k, hk, rfl⟩ := List.mem_map.mp hd
      have hk8 : k < 8 := List.mem_range.mp hk
      refine wg_name (by decide) (wt_test (wd_op (wd_op (wd_var rfl (by decide) (wd_var rfl (by decide) (o_ixL (d := .str (pairsL.getD (0 + (k : Int) * 2).toNat "")) ?_ (wd_var rfl (by decide) (o_eqS ⟨_, rfl, rfl, rfl, fun _ => wd_var rfl (by decide) ⟨rfl, rfl⟩⟩))))))))
      have : ∀ k : Fin 8, L2.atI (pairsL.map D.str) (0 + (k.val : Int) * 2) = some (.str (pairsL.getD (0 + (k.val : Int) * 2).toNat "")) := by
        intro k
        match k with
        | ⟨0, _⟩ => rfl
        | ⟨1, _⟩ => rfl
        | ⟨2, _⟩ => rfl
        | ⟨3, _⟩ => rfl
        | ⟨4, _⟩ => rfl
        | ⟨5, _⟩ => rfl
        | ⟨6, _⟩ => rfl
        | ⟨7, _⟩ => rfl
      exact this ⟨k, hk8⟩
    · have e : (List.map id (List.filter (fun d : D => match d with | .int k => decide (pairsL.getD k.toNat "" = w) | _ => false) (rngC 0 2 8))) = (((spotsOf w).map fun k : Nat => (0 + (k : Int) * 2))).map .int := by
        unfold rngC spotsOf
        rw [List.map_id, List.filter_map, List.map_map]
        congr 1
      rw [e]
      refine ws_append (by decide) rfl (wd_if (wt_test (wd_op (wd_var rfl (by decide) (wd_lst (wa_nil ⟨by decide, o_neD (intsD_sh _) (intsD_sh []) ⟨_, rfl, ?_⟩⟩))))))
      rw [eqv_nil]
      have fin : ∀ y, y = turnW w → ∃ ts1, ([MV.fz (strsD ws), .fz (strsD pairsL), .ot p (.lst ((((ws.take i).map turnW).map D.str).map .lf)), .fz (.str w), .fz (.lst (((spotsOf w).map fun k : Nat => (0 + (k : Int) * 2)).map .int)), .un])[2]? = some (.ot p (.lst ts1)) ∧ ts1.length < 1000000 ∧
          ∃ z z2, ([MV.fz (strsD ws), .fz (strsD pairsL), .ot p (.lst ((((ws.take i).map turnW).map D.str).map .lf)), .fz (.str w), .fz (.lst (((spotsOf w).map fun k : Nat => (0 + (k : Int) * 2)).map .int)), .un]).set 2 (.ot p (.lst (ts1 ++ [.lf (.str y)]))) = [.fz (strsD ws), .fz (strsD pairsL), .ot p (.lst ((((ws.take (i + 1)).map turnW).map D.str).map .lf)), z, z2, .un] := by
        rintro y rfl
        refine ⟨_, rfl, by simp; omega, .fz (.str w), .fz (.lst (((spotsOf w).map fun k : Nat => (0 + (k : Int) * 2)).map .int)), ?_⟩
        have : (ws.take (i + 1)) = ws.take i ++ [w] := by rw [List.take_add_one, hw]; rfl
        rw [this]
        simp
      cases hs : spotsOf w with
      | nil =>
        rw [if_neg (by simp)]
        refine wd_var rfl (by decide) ?_
        rw [hs] at fin
        exact fin w (by rw [spots_turn, hs])
      | cons k r =>
        rw [if_pos (by simp)]
        have hk8 : k < 8 := by
          have : k ∈ spotsOf w := by rw [hs]; exact List.mem_cons_self
          exact List.mem_range.mp (List.mem_filter.mp this).1
        refine wd_op (wd_var rfl (by decide) (wd_op (wd_op (wd_var rfl (by decide) (wd_int (o_ixL (d := .int (0 + (k : Int) * 2)) (atI_zero _ _) (wd_int (o_addI (o_ixL (d := .str (pairsL.getD (2 * k + 1) "")) ?_ ?_)))))))))
        · have : ∀ k : Fin 8, L2.atI (pairsL.map D.str) (0 + (k.val : Int) * 2 + 1) = some (.str (pairsL.getD (2 * k.val + 1) "")) := by
            intro k
            match k with
            | ⟨0, _⟩ => rfl
            | ⟨1, _⟩ => rfl
            | ⟨2, _⟩ => rfl
            | ⟨3, _⟩ => rfl
            | ⟨4, _⟩ => rfl
            | ⟨5, _⟩ => rfl
            | ⟨6, _⟩ => rfl
            | ⟨7, _⟩ => rfl
          exact this ⟨k, hk8⟩
        · rw [hs] at fin
          exact fin _ (by rw [spots_turn, hs])
  · rintro m ⟨z, z2, rfl⟩
    refine ws_freeze 2 rfl (ws_ret (wd_var rfl (by decide) ⟨_, .fz .nil, ?_⟩))
    rw [toD_lst]
    simpa [strsD] using hP
end M
namespace M
open PySem PySem.Spec PyProof.Rows L2
/-! ### a text split at one sign -/
def splitL (c : Nat) : List Nat → List (List Nat)
  | [] => [[]]
  | x :: xs => if x = c then [] :: splitL c xs else match splitL c xs with | [] => [[x]] | w :: ws => (x :: w) :: ws
def cutsL (c : Nat) (l : List Nat) : List Nat := (List.range l.length).filter fun i => decide (l[i]? = some c)
def partsL (l : List Nat) (cuts : List Nat) : List (List Nat) := ((0 :: cuts.map (· + 1)).zip (cuts ++ [l.length])).map fun q => (l.take q.2).drop q.1
theorem cutsL_cons (c x : Nat) (l : List Nat) : cutsL c (x :: l) = (if x = c then [0] else []) ++ (cutsL c l).map (· + 1) := by
  unfold cutsL
  rw [List.length_cons, List.range_succ_eq_map, List.filter_cons, List.filter_map]
  have e : (List.filter ((fun i => decide ((x :: l)[i]? = some c)) ∘ Nat.succ) (List.range l.length)) = List.filter (fun i => decide (l[i]? = some c)) (List.range l.length) := by
    apply List.filter_congr
    intro i _
    simp
  rw [e]
  by_cases h : x = c
  · simp [h]
  · simp [h]
theorem splitL_ne (c : Nat) (l : List Nat) : splitL c l ≠ [] := by
  cases l with
  | nil => simp [splitL]
  | cons x l =>
    unfold splitL
    split
    · simp
    · split <;> simp
theorem shift_parts (x : Nat) (l : List Nat) : ∀ (as bs : List Nat), ((as.map (· + 1)).zip (bs.map (· + 1))).map (fun q => ((x :: l).take q.2).drop q.1) = (as.zip bs).map fun q => (l.take q.2).drop q.1
  | [], _ => by simp
  | _ :: _, [] => by simp
  | a :: as, b :: bs => by
    simp only [List.map_cons, List.zip_cons_cons, List.take_succ_cons, List.drop_succ_cons]
    rw [shift_parts x l as bs]
theorem partsL_split (c : Nat) : ∀ l : List Nat, partsL l (cutsL c l) = splitL c l
  | [] => by simp [partsL, cutsL, splitL]
  | x :: l => by
    have ih := partsL_split c l
    rw [cutsL_cons]
    unfold partsL at ih ⊢
    by_cases h : x = c
    · have e1 : (0 :: (([0] : List Nat) ++ (cutsL c l).map (· + 1)).map (· + 1)) = 0 :: ((0 :: (cutsL c l).map (· + 1)).map (· + 1)) := by simp
      have e2 : ((([0] : List Nat) ++ (cutsL c l).map (· + 1)) ++ [(x :: l).length]) = 0 :: ((cutsL c l ++ [l.length]).map (· + 1)) := by simp
      rw [if_pos h, e1, e2, List.zip_cons_cons, List.map_cons, shift_parts, ih]
      simp [splitL, h]
    · rw [if_neg h, List.nil_append]
      have e2 : ((cutsL c l).map (· + 1) ++ [(x :: l).length]) = (cutsL c l ++ [l.length]).map (· + 1) := by simp
      rw [e2]
      have e3 : splitL c (x :: l) = match splitL c l with | [] => [[x]] | w :: ws => (x :: w) :: ws := by simp [splitL, h]
      rw [e3, ← ih]
      cases q : cutsL c l with
      | nil => simp
      | cons a r =>
        simp only [List.map_cons, List.cons_append, List.zip_cons_cons]
        have e4 := shift_parts x l ((a :: r).map (· + 1)) (r ++ [l.length])
        simp only [List.map_cons] at e4
        simp only [List.take_succ_cons, List.drop_zero, List.cons.injEq, true_and]
        exact e4
theorem subAt_one (l : List Nat) (c i : Nat) : Builtin.Str.subAt (S l) (S [c]) i = decide (l[i]? = some c) := by
  unfold Builtin.Str.subAt
  have e : ((S l).cps.extract i (i + (S [c]).length) == (S [c]).cps) = ((l.drop i).take 1 == [c]) := by
    have h1 : (S l).cps.extract i (i + (S [c]).length) = ((l.drop i).take 1).toArray := by
      simp [S, Str.length, List.extract_toArray, List.extract_eq_take_drop]
    rw [h1]
    show (((l.drop i).take 1).toArray == [c].toArray) = _
    simp
  rw [e]
  cases q : l.drop i with
  | nil =>
    have hi : l.length ≤ i := List.drop_eq_nil_iff.mp q
    have : l[i]? = none := List.getElem?_eq_none hi
    simp [this]
  | cons a r =>
    have : l[i]? = some a := by
      have h2 : (l.drop i)[0]? = some a := by rw [q]; rfl
      rw [List.getElem?_drop] at h2
      simpa using h2
    rw [this]
    by_cases h : a = c <;> simp [h]
theorem occ_loop (l : List Nat) (c : Nat) : ∀ (m i : Nat) (st : Array Nat × Nat), i + m = l.length + 1 → st.1.size ≤ i → st.2 ≤ i →
    (forIn (List.range' i m) st (StrLaws.occBody (S l) (S [c]) l.length (l.length + 1))).run.fst.toList = st.1.toList ++ (List.range' i m).filter fun k => decide (l[k]? = some c)
  | 0, i, st, _, _, _ => by simp
  | m + 1, i, st, h, hs, hf => by
    rw [List.range'_succ, List.forIn_cons]
    unfold StrLaws.occBody
    rw [subAt_one]
    have hl1 : (S [c]).length = 1 := rfl
    by_cases hc : l[i]? = some c
    · have hi : i < l.length := (List.getElem?_eq_some_iff.mp hc).1
      rw [if_pos ⟨⟨⟨by omega, hf⟩, by rw [hl1]; omega⟩, by simp [hc]⟩]
      have ih := occ_loop l c m (i + 1) (st.1.push i, i + (S [c]).length) (by omega) (by simp; omega) (by rw [hl1]; exact Nat.le_refl _)
      refine Eq.trans ih ?_
      simp [hc]
    · rw [if_neg (fun z => by simp [hc] at z)]
      have ih := occ_loop l c m (i + 1) (st.1, st.2) (by omega) (by simp; omega) (by simp; omega)
      refine Eq.trans ih ?_
      simp [hc]
theorem occ_one (l : List Nat) (c : Nat) : Builtin.Str.occurrences (S l) (S [c]) 0 (S l).length ((S l).length + 1) = cutsL c l := by
  have e : (S l).length = l.length := S_len l
  rw [e, StrLaws.occ_eq]
  have := occ_loop l c (l.length + 1) 0 (#[], 0) (by omega) (by simp) (by simp)
  rw [show l.length + 1 - 0 = l.length + 1 from rfl, this]
  unfold cutsL
  rw [← List.range_eq_range', List.range_succ, List.filter_append]
  simp
theorem split_one (l : List Nat) (c : Nat) (hc : c < 256) : Txt.split (S l) (S [c]) = (splitL c l).map S := by
  unfold Txt.split
  rw [occ_one]
  have hk : Builtin.Str.strKind (S [c]) = 1 := by simp [Builtin.Str.strKind, S, hc]
  have hk2 : ¬ (Builtin.Str.strKind (S l) < 1) := by unfold Builtin.Str.strKind; split <;> (try split) <;> omega
  have hp : Builtin.Str.partsBetween (S l) (cutsL c l) (S [c]).length = (partsL l (cutsL c l)).map S := by
    unfold Builtin.Str.partsBetween partsL
    rw [List.map_map]
    have : (S [c]).length = 1 := rfl
    rw [this, S_len]
    apply List.map_congr_left
    intro q _
    obtain ⟨i, j⟩ := q
    simp [Builtin.Str.strSub, S, List.extract_toArray, List.extract_eq_take_drop, List.drop_take]
  by_cases h0 : l = []
  · subst h0
    rw [if_pos (by simp [S, Str.length])]
    simp [splitL]
  · have hl : ¬ ((S l).length < (S [c]).length) := by
      rw [S_len, S_len]
      have := List.length_pos_iff.mpr h0
      simp; omega
    rw [if_neg (by rw [hk]; simp [hl, hk2])]
    by_cases he : (cutsL c l).isEmpty = true
    · rw [if_pos he]
      have : cutsL c l = [] := by simpa using he
      have h2 := partsL_split c l
      rw [this] at h2
      rw [← h2]
      simp [partsL]
    · rw [if_neg he, hp, partsL_split]
end M
namespace M
open PySem PySem.Spec PyProof.Rows L2
/-! ### the law's own words -/
def blanked (l : List Nat) : List Nat := l.map fun c => if isW c = true then c else 32
theorem words_split (l : List Nat) : ∀ (d : List (List Nat)) (cur : List Nat), (∀ w ∈ d, w ≠ []) →
    (((l.foldl wstep (d, cur)).1 ++ [(l.foldl wstep (d, cur)).2]).filter fun w => decide (w ≠ [])) = d ++ ((match splitL 32 (blanked l) with | [] => [cur] | w :: ws => (cur ++ w) :: ws).filter fun w => decide (w ≠ [])) := by
  induction l with
  | nil =>
    intro d cur hd
    simp only [List.foldl_nil, blanked, List.map_nil, splitL, List.append_nil]
    rw [List.filter_append, List.filter_eq_self.mpr (fun w hw => by simp [hd w hw])]
  | cons c l ih =>
    intro d cur hd
    simp only [List.foldl_cons]
    by_cases h : isW c = true
    · have h32 : c ≠ 32 := by intro q; subst q; simp [isW] at h
      have e1 : wstep (d, cur) c = (d, cur ++ [c]) := by simp [wstep, h]
      have e2 : blanked (c :: l) = c :: blanked l := by simp [blanked, h]
      rw [e1, ih d (cur ++ [c]) hd, e2]
      cases q : splitL 32 (blanked l) with
      | nil => exact absurd q (splitL_ne _ _)
      | cons w ws =>
        have e3 : splitL 32 (c :: blanked l) = (c :: w) :: ws := by simp [splitL, h32, q]
        rw [e3]
        simp
    · have e2 : blanked (c :: l) = 32 :: blanked l := by simp [blanked, h]
      have e3 : splitL 32 (32 :: blanked l) = [] :: splitL 32 (blanked l) := by simp [splitL]
      rw [e2, e3]
      have hx : ∀ d', (d' ++ ((match splitL 32 (blanked l) with | [] => [[]] | w :: ws => ([] ++ w) :: ws).filter fun w => decide (w ≠ []))) = d' ++ ((splitL 32 (blanked l)).filter fun w => decide (w ≠ [])) := by
        intro d'
        cases q : splitL 32 (blanked l) with
        | nil => exact absurd q (splitL_ne _ _)
        | cons w ws => simp
      by_cases hc : cur = []
      · subst hc
        have e1 : wstep (d, []) c = (d, []) := by simp [wstep, h]
        rw [e1, ih d [] hd, hx]
        simp
      · have e1 : wstep (d, cur) c = (d ++ [cur], []) := by simp [wstep, h, hc]
        rw [e1, ih (d ++ [cur]) [] (by intro w hw; rcases List.mem_append.mp hw with z | z; exact hd w z; simp at z; subst z; exact hc), hx]
        simp [hc]
theorem words_blank (l : List Nat) : wordsL l = (splitL 32 (blanked l)).filter fun w => decide (w ≠ []) := by
  have h := words_split l [] [] (by simp)
  unfold wordsL wstate
  rw [h]
  cases q : splitL 32 (blanked l) with
  | nil => exact absurd q (splitL_ne _ _)
  | cons w ws => simp
theorem alnum_c : ∀ c : Fin 128, Txt.isalnum ⟨#[c.val]⟩ = isW (lo1 c.val) := by decide +kernel
def fs__law_words (K : PySem.W.Frag) : FS := fun ms P X => ∃ x, ms = [.fz (.str x)] ∧ isTextB x = true ∧ P (.fz (strsD (wordsOf x))) ms
/-- _law_words: slots 0 text, 1 found, 2 sign, 3 word -/
def t__law_words (K : PySem.W.Frag) : WX → TS := fun W => (tSeq (tAsg (tC (.str "")) (gName 1)) (tSeq (tFor (iStr (tVar 0)) (gName 2) (tAsg (tOp (rAddA K) (tVar 1) (tIf (tB (tM0 rIsalnum (tVar 2))) (tM0 rLower (tVar 2)) (tC (.str " ")))) (gName 1))) (tRet (tLcW (iList K (tM1 rSplit (tVar 1) (tC (.str " ")))) (gName 3) (fun W => (tTest (tOp (rNeA K) (tVar 3) (tC (.str ""))))) (fun W => (tVar 3)) [3]))))
theorem isTextB_iff {x : PySem.Str} : isTextB x = true ↔ x.length ≤ 60 ∧ ∀ c ∈ x.cps.toList, okc c = true := by
  unfold isTextB
  rw [Bool.and_eq_true, decide_eq_true_eq, List.all_eq_true]
theorem okc_lt {c : Nat} (h : okc c = true) : c < 127 := by unfold okc at h; simp at h; omega
theorem lower_one {c : Nat} (h : c < 128) : Txt.lower (S [c]) = S [lo1 c] := by
  rw [lower_ascii (fun d hd => by simp [S] at hd; omega)]
  simp [S]
theorem filter_strs (l : List (List Nat)) : (List.map id (List.filter (fun d : D => match d with | .str y => decide (y ≠ S []) | _ => false) (l.map fun w => D.str (S w)))) = ((l.filter fun w => decide (w ≠ [])).map S).map .str := by
  rw [List.map_id, List.filter_map, List.map_map]
  congr 1
  apply List.filter_congr
  intro w _
  show decide (S w ≠ S []) = decide (w ≠ [])
  apply decide_eq_decide.mpr
  constructor
  · intro h q; exact h (by rw [q])
  · intro h q; exact h (S_inj q)
theorem splitL_len (c : Nat) : ∀ l : List Nat, (splitL c l).length ≤ l.length + 1
  | [] => by simp [splitL]
  | x :: l => by
    have ih := splitL_len c l
    unfold splitL
    split
    · simp; omega
    · split
      · simp
      · rename_i w ws e
        rw [e] at ih
        simp at ih ⊢; omega
theorem h__law_words {K : PySem.W.Frag} : FsOk K 1 4 (fs__law_words K) (t__law_words K) := by
  intro ms P X hf
  obtain ⟨x, rfl, ht, hP⟩ := hf
  refine ⟨rfl, ?_⟩
  unfold t__law_words
  obtain ⟨h60, hok⟩ := isTextB_iff.mp ht
  have hl : (lowL x).length ≤ 60 := by simpa [lowL, Str.length] using h60
  refine ws_seq (ws_set (by decide) (wd_str ?_))
  refine ws_seq (ws_for (wi_str (wd_var rfl (by decide) ⟨x, rfl, ?_⟩)))
  refine ⟨fun i m => ∃ z, m = [.fz (.str x), .fz (.str (S (blanked ((lowL x).take i)))), z, .un], ⟨.un, rfl⟩, ?_, ?_⟩
  · rintro i d m hd ⟨z, rfl⟩
    obtain ⟨c, hc, rfl⟩ : ∃ c, x.cps.toList[i]? = some c ∧ d = .str (S [c]) := by
      unfold sgnD at hd
      rw [List.getElem?_map] at hd
      cases q : x.cps.toList[i]? with
      | none => rw [q] at hd; cases hd
      | some c => rw [q] at hd; exact ⟨c, rfl, (Option.some.inj hd).symm⟩
    have hc127 := okc_lt (hok c (List.mem_of_getElem? hc))
    have nx : (lowL x).take (i + 1) = (lowL x).take i ++ [lo1 c] := by
      have : (lowL x)[i]? = some (lo1 c) := by unfold lowL; rw [List.getElem?_map, hc]; rfl
      rw [List.take_add_one, this]; rfl
    have bl : blanked ((lowL x).take (i + 1)) = blanked ((lowL x).take i) ++ [if isW (lo1 c) = true then lo1 c else 32] := by
      rw [nx]; simp [blanked]
    have hbl : (blanked ((lowL x).take i)).length ≤ 60 := by simp [blanked]; omega
    refine wg_name (by decide) (ws_set (by decide) (wd_op (wd_var rfl (by decide) (wd_if (wt_B (wd_m0 (wd_var rfl (by decide) ⟨_, rfl, b_isalnum ⟨_, rfl, ?_⟩⟩)))))))
    have ha : Txt.isalnum (S [c]) = isW (lo1 c) := alnum_c ⟨c, by omega⟩
    rw [ha]
    cases hw : isW (lo1 c) with
    | true =>
      rw [if_pos rfl]
      refine wd_m0 (wd_var rfl (by decide) ⟨_, rfl, b_lower (by rw [S_len]; simp) (o_addS ?_ ?_)⟩)
      · rw [lower_one (by omega), S_len, S_len]; simp; omega
      · refine ⟨.fz (.str (S [c])), ?_⟩
        rw [lower_one (by omega), S_append, bl, hw]
        rfl
    | false =>
      rw [if_neg (by simp)]
      refine wd_str (o_addS (by rw [S_len]; have : (PySem.Str.ofString " ").length = 1 := by decide +kernel
                                omega) ⟨.fz (.str (S [c])), ?_⟩)
      rw [show PySem.Str.ofString " " = S [32] from by decide +kernel, S_append, bl, hw]
      rfl
  · rintro m ⟨z, rfl⟩
    have e0 : (lowL x).take (sgnD x).length = lowL x := by
      apply List.take_of_length_le
      simp [sgnD, lowL]
    rw [e0]
    have hb : (blanked (lowL x)).length ≤ 60 := by simp [blanked]; omega
    refine ws_ret (wd_lcMap (by decide) (gok_name (by decide)) (wi_list (wd_m1 (wd_var rfl (by decide) ⟨_, rfl, wd_str (b_split (by decide +kernel) (by rw [S_len]; omega) ⟨_, rfl, ?_⟩)⟩))))
    rw [show PySem.Str.ofString " " = S [32] from by decide +kernel, split_one _ _ (by decide), List.map_map]
    have hsl := splitL_len 32 (blanked (lowL x))
    refine ⟨by simp; omega, fun d => match d with | .str y => decide (y ≠ S []) | _ => false, id, fun d hd => ?_, ?_⟩
    · obtain ⟨w, _, rfl⟩ := List.mem_map.mp hd
      refine wg_name (by decide) (wt_test (wd_op (wd_var rfl (by decide) (wd_str (o_neS ⟨_, rfl, ?_⟩)))))
      refine ⟨?_, rfl, fun _ => wd_var rfl (by decide) ⟨rfl, rfl⟩⟩
      simp only [decide_not]
      rfl
    · refine ⟨_, .fz .nil, ?_⟩
      have e3 := filter_strs (splitL 32 (blanked (lowL x)))
      rw [← words_blank] at e3
      have e4 : (List.map (D.str ∘ S) (splitL 32 (blanked (lowL x)))) = (splitL 32 (blanked (lowL x))).map fun w => D.str (S w) := rfl
      rw [e4, e3]
      exact hP
end M
namespace M
open PySem PySem.Spec PyProof.Rows L2
/-! ### refusals told -/
def xN : List PySem.Str := ["BadText", "BadPattern", "BadAnswer", "BadRule", "BadTalk"]
def kN : List PySem.Str := ["text", "pattern", "answer", "rule", "talk"]
/-- the classes of errors, as the head tells them -/
structure XF (K : PySem.W.Frag) : Prop where
  c : ∀ a ∈ xN, ExcC K (He.ga K a)
  k : ∀ a ∈ xN, ∀ b ∈ xN, PySem.W.kitOne K (.ref (He.ga K a)) (.ref (He.ga K b)) = some (decide (a = b))
  v : ∀ a ∈ xN, PySem.W.kitOne K (.ref (He.ga K a)) (.type "ValueError") = some true
  h : ∀ a ∈ xN, PySem.W.exmOne K (.ref (He.ga K a)) (.ref (He.ga K "HallError")) = some true
  s : ∀ a ∈ xN, PySem.W.exmOne K (.ref (He.ga K a)) (.ref (He.ga K a)) = some true
def refD (k : PySem.Str) : D := .tup [.str "refused", .str k]
def fs__law_refusal (K : PySem.W.Frag) : FS := fun ms P X => ∃ j : Fin 5, ms = [.fz (.exc (.ref (He.ga K (xN.getD j.val ""))))] ∧ P (.fz (refD (kN.getD j.val ""))) ms
/-- _law_refusal: slots 0 held, 1 kinds -/
def t__law_refusal (K : PySem.W.Frag) : WX → TS := fun W => (tSeq (tIfS (tTest (tOp rIsN (tVar 0) (tC .non))) (tRet (tTup (tCons (tC (.str "ok")) tNil))) tNext) (tSeq (tAsg (tLst (tCons (tCB (rIsiA K) (tCons (tVar 0) (tCons (tC (.ref (He.ga K "BadText"))) tNil))) (tCons (tCB (rIsiA K) (tCons (tVar 0) (tCons (tC (.ref (He.ga K "BadPattern"))) tNil))) (tCons (tCB (rIsiA K) (tCons (tVar 0) (tCons (tC (.ref (He.ga K "BadAnswer"))) tNil))) tNil)))) (gName 1)) (tSeq (tAsg (tOp (rAddA K) (tVar 1) (tLst (tCons (tCB (rIsiA K) (tCons (tVar 0) (tCons (tC (.ref (He.ga K "BadRule"))) tNil))) (tCons (tCB (rIsiA K) (tCons (tVar 0) (tCons (tC (.ref (He.ga K "BadTalk"))) tNil))) tNil)))) (gName 1)) (tSeq (tIfS (tOr (tTest (tOp (rNeA K) (tBM K "list" (rCountA K) (tVar 1) (tCons (tC (.bl true)) tNil)) (tC (.int 1)))) (tNot (tB (tCB (rIsiA K) (tCons (tVar 0) (tCons (tC (.ty "ValueError")) tNil)))))) (tRet (tTup (tCons (tC (.str "wrong")) tNil))) tNext) (tRet (tTup (tCons (tC (.str "refused")) (tCons (tOp (rIxA K) (tLst (tCons (tC (.str "text")) (tCons (tC (.str "pattern")) (tCons (tC (.str "answer")) (tCons (tC (.str "rule")) (tCons (tC (.str "talk")) tNil)))))) (tBM K "list" (rIndexD K) (tVar 1) (tCons (tC (.bl true)) tNil))) tNil))))))))
theorem hot_sh : ∀ j : Fin 5, (D.lst [.bl (decide (j.val = 0)), .bl (decide (j.val = 1)), .bl (decide (j.val = 2)), .bl (decide (j.val = 3)), .bl (decide (j.val = 4))]).sh = true := by
  intro j
  simp [D.sh, SeqAt.shaped, D.py, pys, PyData.canLay0, PyData.canLayAll0, PyData.depth, PyData.depthAll]
theorem h__law_refusal {K : PySem.W.Frag} (xf : XF K) : FsOk K 1 2 (fs__law_refusal K) (t__law_refusal K) := by
  intro ms P X hf
  obtain ⟨j, rfl, hP⟩ := hf
  refine ⟨rfl, ?_⟩
  unfold t__law_refusal
  have hm : xN.getD j.val "" ∈ xN := by
    have : ∀ j : Fin 5, xN.getD j.val "" ∈ xN := by decide +kernel
    exact this j
  have hc := xf.c _ hm
  have k0 : PySem.W.kitOne K (.ref (He.ga K (xN.getD j.val ""))) (.ref (He.ga K "BadText")) = some (decide (j.val = 0)) := by
    rw [xf.k _ hm "BadText" (by decide +kernel)]
    congr 1
    have : ∀ j : Fin 5, decide (xN.getD j.val "" = "BadText") = decide (j.val = 0) := by decide +kernel
    exact this j
  have k1 : PySem.W.kitOne K (.ref (He.ga K (xN.getD j.val ""))) (.ref (He.ga K "BadPattern")) = some (decide (j.val = 1)) := by
    rw [xf.k _ hm "BadPattern" (by decide +kernel)]
    congr 1
    have : ∀ j : Fin 5, decide (xN.getD j.val "" = "BadPattern") = decide (j.val = 1) := by decide +kernel
    exact this j
  have k2 : PySem.W.kitOne K (.ref (He.ga K (xN.getD j.val ""))) (.ref (He.ga K "BadAnswer")) = some (decide (j.val = 2)) := by
    rw [xf.k _ hm "BadAnswer" (by decide +kernel)]
    congr 1
    have : ∀ j : Fin 5, decide (xN.getD j.val "" = "BadAnswer") = decide (j.val = 2) := by decide +kernel
    exact this j
  have k3 : PySem.W.kitOne K (.ref (He.ga K (xN.getD j.val ""))) (.ref (He.ga K "BadRule")) = some (decide (j.val = 3)) := by
    rw [xf.k _ hm "BadRule" (by decide +kernel)]
    congr 1
    have : ∀ j : Fin 5, decide (xN.getD j.val "" = "BadRule") = decide (j.val = 3) := by decide +kernel
    exact this j
  have k4 : PySem.W.kitOne K (.ref (He.ga K (xN.getD j.val ""))) (.ref (He.ga K "BadTalk")) = some (decide (j.val = 4)) := by
    rw [xf.k _ hm "BadTalk" (by decide +kernel)]
    congr 1
    have : ∀ j : Fin 5, decide (xN.getD j.val "" = "BadTalk") = decide (j.val = 4) := by decide +kernel
    exact this j
  refine ws_seq (ws_if (wt_test (wd_op (wd_var rfl (by decide) (wd_non (o_isN rfl ⟨_, rfl, ?_⟩))))))
  rw [if_neg (by simp)]
  refine ws_next ?_
  have one : ∀ {C : Addr} {b : Bool} {m : List MV} {P : D → List MV → Prop} {X : XP}, m[0]? = some (.fz (.exc (.ref (He.ga K (xN.getD j.val ""))))) → PySem.W.kitOne K (.ref (He.ga K (xN.getD j.val ""))) (.ref C) = some b → P (.bl b) m → wpD K 2 (fun _ => tCB (rIsiA K) (tCons (tVar 0) (tCons (tC (.ref C)) tNil))) m P X :=
    fun e k h => wd_cb (wa_cons (wd_var e (by decide) (wa_cons (wd_c (fun _ => .raw _) (wa_nil (c_isX hc k h))))))
  refine ws_seq (ws_set (by decide) (wd_lst (wa_cons (one rfl k0 (wa_cons (one rfl k1 (wa_cons (one rfl k2 (wa_nil ⟨by simp, ?_⟩)))))))))
  refine ws_seq (ws_set (by decide) (wd_op (wd_var rfl (by decide) (wd_lst (wa_cons (one rfl k3 (wa_cons (one rfl k4 (wa_nil ⟨by simp, o_addL (by simp) ?_ ⟩)))))))))
  refine ws_seq (ws_if (wt_or (wt_test (wd_op (wd_bm (wd_var rfl (by decide) ⟨fun F H v => ty_lst, wa_cons (wd_bl (wa_nil (b_count rfl rfl (wd_int (o_neI ⟨_, rfl, ?_⟩)))))⟩))))))
  have hcount : ∀ j : Fin 5, (!decide ((((([D.bl (decide (j.val = 0)), .bl (decide (j.val = 1)), .bl (decide (j.val = 2))] ++ [D.bl (decide (j.val = 3)), .bl (decide (j.val = 4))]).countP fun z => eqD z (.bl true)) : Nat) : Int) = 1)) = false := by
    intro j
    match j with
    | ⟨0, _⟩ => rfl
    | ⟨1, _⟩ => rfl
    | ⟨2, _⟩ => rfl
    | ⟨3, _⟩ => rfl
    | ⟨4, _⟩ => rfl
  rw [hcount j, if_neg (by simp)]
  refine wt_not (wt_B (wd_cb (wa_cons (wd_var rfl (by decide) (wa_cons (wd_c (fun _ => .raw _) (wa_nil (c_isXt hc (xf.v _ hm) ⟨_, rfl, ?_⟩))))))))
  rw [if_neg (by simp)]
  refine ws_next (ws_ret (wd_tup (wa_cons (wd_str (wa_cons (wd_op (wd_lst (wa_cons (wd_str (wa_cons (wd_str (wa_cons (wd_str (wa_cons (wd_str (wa_cons (wd_str (wa_nil ⟨by decide, wd_bm (wd_var rfl (by decide) ⟨fun F H v => ty_lst, wa_cons (wd_bl (wa_nil (b_index (j := j.val) (z := .bl true) (hot_sh j) rfl ?_ rfl ?_ ?_ )))⟩)⟩))))))))))))))))))
  · match j with
    | ⟨0, _⟩ => rfl
    | ⟨1, _⟩ => rfl
    | ⟨2, _⟩ => rfl
    | ⟨3, _⟩ => rfl
    | ⟨4, _⟩ => rfl
  · intro m d hmj hd
    have hm5 : m < 5 := by omega
    have e : d = .bl (decide (j.val = m)) := by
      match m, hm5 with
      | 0, _ => exact (Option.some.inj hd).symm
      | 1, _ => exact (Option.some.inj hd).symm
      | 2, _ => exact (Option.some.inj hd).symm
      | 3, _ => exact (Option.some.inj hd).symm
      | 4, _ => exact (Option.some.inj hd).symm
    have : decide (j.val = m) = false := by simp; omega
    rw [e, this]
    simp [D.py, PyData.eqv]
  · refine o_ixL (d := .str (kN.getD j.val "")) ?_ (wa_nil ⟨by simp, _, .fz .nil, hP⟩)
    match j with
    | ⟨0, _⟩ => rfl
    | ⟨1, _⟩ => rfl
    | ⟨2, _⟩ => rfl
    | ⟨3, _⟩ => rfl
    | ⟨4, _⟩ => rfl
end M
namespace M
open PySem PySem.Spec PyProof.Rows L2
/-! ### texts that the law draws -/
def menuL : List PySem.Str := ["i", "you", "my", "am", "cat", "dog", "7", "42", "yes", "no"]
def fs__law_menu (K : PySem.W.Frag) : FS := fun ms P X => ms = [] ∧ P (.fz (strsD menuL)) []
/-- _law_menu: slots  -/
def t__law_menu (K : PySem.W.Frag) : WX → TS := fun W => (tRet (tLst (tCons (tC (.str "i")) (tCons (tC (.str "you")) (tCons (tC (.str "my")) (tCons (tC (.str "am")) (tCons (tC (.str "cat")) (tCons (tC (.str "dog")) (tCons (tC (.str "7")) (tCons (tC (.str "42")) (tCons (tC (.str "yes")) (tCons (tC (.str "no")) tNil))))))))))))
theorem h__law_menu {K : PySem.W.Frag} : FsOk K 0 0 (fs__law_menu K) (t__law_menu K) := by
  intro ms P X hf
  obtain ⟨rfl, hP⟩ := hf
  refine ⟨rfl, ?_⟩
  unfold t__law_menu
  refine ws_ret (wd_lst (wa_cons (wd_str (wa_cons (wd_str (wa_cons (wd_str (wa_cons (wd_str (wa_cons (wd_str (wa_cons (wd_str (wa_cons (wd_str (wa_cons (wd_str (wa_cons (wd_str (wa_cons (wd_str (wa_nil ⟨by decide, _, .nil, hP ⟩))))))))))))))))))))))
def okS (x : PySem.Str) : Bool := x.cps.toList.all okc
theorem okS_app {x y : PySem.Str} (hx : okS x = true) (hy : okS y = true) : okS (x ++ y) = true := by
  unfold okS at *
  show ((x.cps ++ y.cps).toList).all okc = true
  rw [Array.toList_append, List.all_append, hx, hy]
  rfl
theorem len_app (x y : PySem.Str) : (x ++ y).length = x.length + y.length := by
  show (x.cps ++ y.cps).size = _
  rw [Array.size_append]
  rfl
theorem okS_take {x : PySem.Str} (hx : okS x = true) : isTextB (cutS x none (some 60)) = true := by
  unfold okS at hx
  rw [List.all_eq_true] at hx
  rw [isTextB_iff]
  constructor
  · have h0 : HT.sIx x.length 0 none = 0 := by simp [HT.sIx]
    have h1 : HT.sIx x.length x.length (some 60) ≤ 60 := by
      rw [show (some 60 : Option Int) = some ((60 : Nat) : Int) from rfl, HT.sIx_nat]
      omega
    unfold cutS
    unfold Str.length at *
    rw [List.size_toArray, List.length_take]
    omega
  · intro c hc
    unfold cutS at hc
    exact hx c (List.mem_of_mem_drop (List.mem_of_mem_take (by simpa using hc)))
theorem menu_ok : ∀ w ∈ menuL, okS w = true ∧ w.length ≤ 3 := by decide +kernel
theorem menu_up : ∀ w ∈ menuL, okS (Txt.upper w) = true ∧ (Txt.upper w).length ≤ 3 := by decide +kernel
def lead4 : List PySem.Str := ["", "", " ", "..."]
def gaps4 : List PySem.Str := [" ", " ", ", ", "! "]
theorem lead_ok : ∀ w ∈ lead4, okS w = true ∧ w.length ≤ 3 := by decide +kernel
theorem gaps_ok : ∀ w ∈ gaps4, okS w = true ∧ w.length ≤ 2 := by decide +kernel
/-- a text is said: something that is a text -/
def fs__law_said (K : PySem.W.Frag) : FS := fun ms P X => ∃ sc t n m, ms = [scr sc, .ot t (zeros n), .fz (.int m)] ∧ sc.length ≤ 63 ∧ n < 80000 ∧ 0 ≤ m ∧ m ≤ 10 ∧
  ∀ x n', isTextB x = true → n' ≤ n + 40 → P (.fz (.str x)) [scr sc, .ot t (zeros n'), .fz (.int m)]
/-- _law_said: slots 0 script, 1 town, 2 most, 3 found, 4 k, 5 word -/
def t__law_said (K : PySem.W.Frag) : WX → TS := fun W => (tSeq (tAsg (tCallS (SpM K (fs__law_pick K)) (WE W) (tCons (tVar 0) (tCons (tVar 1) (tCons (tLst (tCons (tC (.str "")) (tCons (tC (.str "")) (tCons (tC (.str " ")) (tCons (tC (.str "...")) tNil))))) tNil)))) (gName 3)) (tSeq (tFor (iRng1 (tCons (tCallS (SpM K (fs__law_draw K)) (WE W) (tCons (tVar 0) (tCons (tVar 1) (tCons (tOp (rAddA K) (tVar 2) (tC (.int 1))) tNil)))) tNil)) (gName 4) (tSeq (tAsg (tCallS (SpM K (fs__law_pick K)) (WE W) (tCons (tVar 0) (tCons (tVar 1) (tCons (tCall (SpM K (fs__law_menu K)) [] E0 tNil) tNil)))) (gName 5)) (tSeq (tAsg (tOp (rAddA K) (tVar 3) (tIf (tTest (tOp (rEqA K) (tCallS (SpM K (fs__law_draw K)) (WE W) (tCons (tVar 0) (tCons (tVar 1) (tCons (tC (.int 5)) tNil)))) (tC (.int 0)))) (tM0 rUpper (tVar 5)) (tVar 5))) (gName 3)) (tAsg (tOp (rAddA K) (tVar 3) (tCallS (SpM K (fs__law_pick K)) (WE W) (tCons (tVar 0) (tCons (tVar 1) (tCons (tLst (tCons (tC (.str " ")) (tCons (tC (.str " ")) (tCons (tC (.str ", ")) (tCons (tC (.str "! ")) tNil))))) tNil))))) (gName 3))))) (tRet (L2.tSl (rSlA' K) (tVar 3) tNoPart (tPart (tC (.int 60)))))))
theorem h__law_said {K : PySem.W.Frag} : FsOk K 3 6 (fs__law_said K) (t__law_said K) := by
  intro ms P X hf
  obtain ⟨sc, t, n, m, rfl, hl, hn, h0, h1, hP⟩ := hf
  refine ⟨rfl, ?_⟩
  unfold t__law_said
  refine ws_seq (ws_set (by decide) (wd_call [(1, 1)] (wa_cons (wd_var rfl (by decide) (wa_cons (wd_varO rfl (by decide) (wa_cons (wd_lst (wa_cons (wd_str (wa_cons (wd_str (wa_cons (wd_str (wa_cons (wd_str (wa_nil ⟨by decide, wa_nil ?_ ⟩)))))))))))))))))
  refine ⟨_, _, .cons rfl rfl .nil, sc, t, n, _, rfl, hl, by omega, by decide, by decide, fun d hd => ⟨_, _, .cons rfl rfl .nil, d, rfl, ?_⟩⟩
  obtain ⟨x0, hx0, rfl⟩ : ∃ x0, x0 ∈ lead4 ∧ d = .str x0 := by
    obtain ⟨x0, h, e⟩ := List.mem_map.mp (show d ∈ lead4.map D.str from hd)
    exact ⟨x0, h, e.symm⟩
  refine ws_seq (ws_for (wi_rng1 (wa_cons (wd_call [(1, 1)] (wa_cons (wd_var rfl (by decide) (wa_cons (wd_varO rfl (by decide) (wa_cons (wd_op (wd_var rfl (by decide) (wd_int (o_addI (wa_nil ?_ ))))))))))))))
  refine ⟨_, _, .cons rfl rfl .nil, sc, t, n + 1, m + 1, rfl, hl, by omega, by omega, fun z hz0 hz1 => ⟨_, _, .cons rfl rfl .nil, _, rfl, wa_nil ⟨z, rfl, by omega, by omega, ?_⟩⟩⟩
  refine ⟨fun i ms => ∃ x k z1 z2, ms = [scr sc, .ot t (zeros k), .fz (.int m), .fz (.str x), z1, z2] ∧ okS x = true ∧ x.length ≤ 3 + 5 * i ∧ k = n + 2 + 3 * i, ⟨x0, _, .un, .un, rfl, (lead_ok x0 hx0).1, by have := (lead_ok x0 hx0).2; omega, by omega⟩, ?_, ?_⟩
  · rintro i d ms hd ⟨x, k, z1, z2, rfl, hx, hxl, rfl⟩
    obtain ⟨hi, rfl⟩ := rngD_at hd
    have hi10 : i < 11 := by omega
    refine wg_name (by decide) (ws_seq (ws_set (by decide) (wd_call [(1, 1)] (wa_cons (wd_var rfl (by decide) (wa_cons (wd_varO rfl (by decide) (wa_cons (wd_callZ ⟨rfl, _, rfl, wa_nil ?_ ⟩)))))))))
    refine ⟨_, _, .cons rfl rfl .nil, sc, t, n + 2 + 3 * i, _, rfl, hl, by omega, by decide, by decide, fun d hd => ⟨_, _, .cons rfl rfl .nil, d, rfl, ?_⟩⟩
    obtain ⟨w, hw, rfl⟩ : ∃ w, w ∈ menuL ∧ d = .str w := by
      obtain ⟨w, h, e⟩ := List.mem_map.mp hd
      exact ⟨w, h, e.symm⟩
    refine ws_seq (ws_set (by decide) (wd_op (wd_var rfl (by decide) (wd_if (wt_test (wd_op (wd_call [(1, 1)] (wa_cons (wd_var rfl (by decide) (wa_cons (wd_varO rfl (by decide) (wa_cons (wd_int (wa_nil ?_ ))))))))))))))
    refine ⟨_, _, .cons rfl rfl .nil, sc, t, _, 5, rfl, hl, by omega, by decide, fun y hy0 hy1 => ⟨_, _, .cons rfl rfl .nil, _, rfl, wd_int (o_eqI ⟨_, rfl, ?_⟩)⟩⟩
    have tail : ∀ u : PySem.Str, okS u = true → u.length ≤ 3 → wpS K 6 (fun W => tAsg (tOp (rAddA K) (tVar 3) (tCallS (SpM K (fs__law_pick K)) (WE W) (tCons (tVar 0) (tCons (tVar 1) (tCons (tLst (tCons (tC (.str " ")) (tCons (tC (.str " ")) (tCons (tC (.str ", ")) (tCons (tC (.str "! ")) tNil))))) tNil))))) (gName 3))
        [scr sc, .ot t (zeros (n + 2 + 3 * i + 1 + 1)), .fz (.int m), .fz (.str (x ++ u)), .fz (.int (0 + (i : Int))), .fz (.str w)] (fun ms => ∃ x k z1 z2, ms = [scr sc, .ot t (zeros k), .fz (.int m), .fz (.str x), z1, z2] ∧ okS x = true ∧ x.length ≤ 3 + 5 * (i + 1) ∧ k = n + 2 + 3 * (i + 1))
        (fun m_1 me => ∃ ms', Back [scr sc, .ot t (zeros n), .fz (.int m)] me ms' ∧ P m_1 ms') (fun c me => ∃ ms', Back [scr sc, .ot t (zeros n), .fz (.int m)] me ms' ∧ X c ms') := by
      intro u hu hul
      refine ws_set (by decide) (wd_op (wd_var rfl (by decide) (wd_call [(1, 1)] (wa_cons (wd_var rfl (by decide) (wa_cons (wd_varO rfl (by decide) (wa_cons (wd_lst (wa_cons (wd_str (wa_cons (wd_str (wa_cons (wd_str (wa_cons (wd_str (wa_nil ⟨by decide, wa_nil ?_ ⟩))))))))))))))))))
      refine ⟨_, _, .cons rfl rfl .nil, sc, t, _, _, rfl, hl, by omega, by decide, by decide, fun d hd => ⟨_, _, .cons rfl rfl .nil, d, rfl, ?_⟩⟩
      obtain ⟨g, hg, rfl⟩ : ∃ g, g ∈ gaps4 ∧ d = .str g := by
        obtain ⟨w, h, e⟩ := List.mem_map.mp (show d ∈ gaps4.map D.str from hd)
        exact ⟨w, h, e.symm⟩
      have hg1 := gaps_ok g hg
      have l1 := len_app x u
      have l2 := len_app (x ++ u) g
      refine o_addS (by omega) ⟨_, _, _, _, rfl, okS_app (okS_app hx hu) hg1.1, by omega, by omega⟩
    have hmw := menu_ok w hw
    have hmu := menu_up w hw
    by_cases hy : y = 0
    · rw [if_pos (by simp [hy])]
      refine wd_m0 (wd_var rfl (by decide) ⟨_, rfl, b_upper (by omega) (o_addS (by omega) (tail _ hmu.1 hmu.2))⟩)
    · rw [if_neg (by simp [hy])]
      exact wd_var rfl (by decide) (o_addS (by omega) (tail _ hmw.1 hmw.2))
  · rintro ms ⟨x, k, z1, z2, rfl, hx, hxl, rfl⟩
    rw [rngD_len] at hxl
    have hz : z.toNat ≤ 11 := by omega
    refine ws_ret (wd_sl (wd_var rfl (by decide) (wo_none (wo_some (wd_int ⟨_, rfl, s_str (by omega) ?_ ⟩)))))
    refine ⟨_, .fz (.ot (.fz .nil)), hP _ _ (okS_take hx) ?_⟩
    rw [rngD_len]
    omega
end M
namespace M
open PySem PySem.Spec PyProof.Rows L2
/-! ### texts -/
theorem str_sh_aux : ∀ l : List PySem.Str, (∀ x ∈ l, okS x = true) → PyData.canLayAll0 (pys (l.map .str)) = true ∧ PyData.depthAll (pys (l.map .str)) = 0
  | [], _ => by simp [pys, PyData.canLayAll0, PyData.depthAll]
  | x :: l, h => by
    have ih := str_sh_aux l fun y hy => h y (List.mem_cons_of_mem _ hy)
    have hx := h x List.mem_cons_self
    have hs : PyData.strOk x = true := by
      unfold okS at hx
      rw [List.all_eq_true] at hx
      unfold PyData.strOk
      rw [Array.all_eq_true']
      intro c hc
      have := okc_lt (hx c (by simpa using hc))
      simp
      omega
    simp [pys, D.py, PyData.canLayAll0, PyData.canLay0, PyData.depthAll, PyData.depth, ih, hs]
theorem strsD_sh {l : List PySem.Str} (h : ∀ x ∈ l, okS x = true) : (strsD l).sh = true := by
  have := str_sh_aux l h
  unfold D.sh SeqAt.shaped strsD
  simp [D.py, PyData.canLay0, PyData.depth, this]
theorem isW_ok {c : Nat} (h : isW c = true) : okc c = true := by
  unfold isW at h
  unfold okc
  simp at h ⊢
  omega
theorem wfold_ok : ∀ (l : List Nat) (s : List (List Nat) × List Nat), (∀ w ∈ s.1, ∀ c ∈ w, isW c = true) → (∀ c ∈ s.2, isW c = true) → (∀ w ∈ (l.foldl wstep s).1, ∀ c ∈ w, isW c = true) ∧ ∀ c ∈ (l.foldl wstep s).2, isW c = true
  | [], s, h1, h2 => ⟨h1, h2⟩
  | c :: l, s, h1, h2 => by
    refine wfold_ok l (wstep s c) ?_ ?_
    · unfold wstep
      split
      · exact h1
      · split
        · exact h1
        · intro w hw
          rcases List.mem_append.mp hw with z | z
          · exact h1 w z
          · simp at z; subst z; exact h2
    · unfold wstep
      split
      · rename_i hw
        intro d hd
        rcases List.mem_append.mp hd with z | z
        · exact h2 d z
        · simp at z; subst z; exact hw
      · split
        · exact h2
        · intro d hd; cases hd
/-- a word: letters and figures, at least one -/
def isWordS (x : PySem.Str) : Bool := decide (x.cps.toList ≠ []) && x.cps.toList.all isW
theorem words_word (x : PySem.Str) : ∀ w ∈ wordsOf x, isWordS w = true := by
  intro w hw
  unfold wordsOf at hw
  obtain ⟨v, hv, rfl⟩ := List.mem_map.mp hw
  unfold wordsL at hv
  obtain ⟨h1, h2⟩ := List.mem_filter.mp hv
  have h := wfold_ok (lowL x) ([], []) (by simp) (by simp)
  unfold isWordS
  rw [Bool.and_eq_true]
  refine ⟨by simp at h2; simp [S, h2], ?_⟩
  rw [List.all_eq_true]
  intro c hc
  have hc' : c ∈ v := by simpa [S] using hc
  rcases List.mem_append.mp h1 with z | z
  · exact h.1 v z c hc'
  · simp at z; subst z; exact h.2 c hc'
theorem word_ok {x : PySem.Str} (h : isWordS x = true) : okS x = true := by
  unfold isWordS at h
  rw [Bool.and_eq_true, List.all_eq_true] at h
  unfold okS
  rw [List.all_eq_true]
  exact fun c hc => isW_ok (h.2 c hc)
theorem turn_ok {x : PySem.Str} (h : okS x = true) : okS (turnW x) = true := by
  unfold turnW
  cases q : (turnsL.find? fun q => decide (q.1 = x)) with
  | none => exact h
  | some r =>
    have hm : r ∈ turnsL := List.mem_of_find?_eq_some q
    have : ∀ r ∈ turnsL, okS r.2 = true := by decide +kernel
    exact this r hm
theorem words_len (x : PySem.Str) : (wordsOf x).length ≤ x.length + 1 := by
  unfold wordsOf wordsL
  rw [List.length_map]
  refine Nat.le_trans (List.length_filter_le _ _) ?_
  have := (wstate_len (lowL x)).1
  simp [lowL, Str.length] at this ⊢
  omega
theorem sh_of (l : List PySem.Str) (h : (l.all okS) = true) : (strsD l).sh = true := strsD_sh (List.all_eq_true.mp h)
theorem join_S (l : List Nat) : Txt.join "" (l.map fun c => S [c]) = S l := by
  have e : ∀ (l acc : List Nat), ((l.map fun c => S [c]).foldl (fun (a : Array Nat) p => a ++ (PySem.Str.ofString "").cps ++ p.cps) acc.toArray) = (acc ++ l).toArray := by
    intro l
    induction l with
    | nil => intro acc; simp
    | cons c l ih =>
      intro acc
      have h0 : (PySem.Str.ofString "").cps = #[] := by decide +kernel
      simp only [List.map_cons, List.foldl_cons]
      have : acc.toArray ++ (PySem.Str.ofString "").cps ++ (S [c]).cps = (acc ++ [c]).toArray := by simp [h0, S]
      rw [this, ih]
      simp
  unfold Txt.join Builtin.Str.glued
  cases l with
  | nil => rfl
  | cons c l =>
    simp only [List.map_cons, List.drop_succ_cons, List.drop_zero, List.headD_cons]
    have := e l [c]
    have h1 : (S [c]).cps = [c].toArray := rfl
    rw [h1, this]
    rfl
theorem join_ok (l : List Nat) (hl : ∀ c ∈ l, okc c = true) (hn : l.length ≤ 60) : isTextB (Txt.join "" (l.map fun c => S [c])) = true := by
  rw [join_S, isTextB_iff]
  exact ⟨by rw [S_len]; exact hn, fun c hc => hl c (by simpa [S] using hc)⟩
end M
namespace M
open PySem PySem.Spec PyProof.Rows L2
/-! ### the head: facts by names, and one Bool more -/
def hookM (n : Nat) (fa : List He.Fa) (fn : List He.DefD) (ex : PySem.W.Frag → Bool) : PySem.W.Hook where
  α := He.AlD × Bool
  obs := fun s => (He.obsDG n fa fn s.heap.get?, ex (He.frG s.heap.get? (He.asD s.heap.get? n)))
  val := fun _ => (He.valD fn, true)
  says := fun _ h => ∃ K : PySem.W.Frag, K.In h ∧ He.SaysD fa fn K ∧ ex K = true
  of := fun _ _ e => ⟨_, He.frG_in, (Prod.mk.inj e).1, (Prod.mk.inj e).2⟩
  keeps := fun _ _ _ ⟨K, hK, c⟩ k => ⟨K, PySem.W.Frag.In.keeps hK k, c⟩
def obM (n : Nat) (fa : List He.Fa) (fn : List He.DefD) (ex : PySem.W.Frag → Bool) (g : Addr → Option Obj) : He.AlD × Bool := (He.obsDG n fa fn g, ex (He.frG g (He.asD g n)))
theorem obM_eq {n : Nat} {fa : List He.Fa} {fn : List He.DefD} {ex : PySem.W.Frag → Bool} {g : Addr → Option Obj} {s : Shared} (h : ∀ a, g a = s.heap.get? a) : obM n fa fn ex g = (hookM n fa fn ex).obs s := by
  have e : g = s.heap.get? := funext h
  unfold obM hookM
  rw [e]
def excB (K : PySem.W.Frag) (D : Addr) : Bool :=
  He.eqO (PySem.W.findIn K (.ref D) "__getattribute__") (some (some (.builtin "BaseException.__getattribute__"))) && (He.eqO (PySem.W.findIn K (.ref D) "__getattr__") (some none) && (decide (PySem.W.subIn K (.ref D) (.type "BaseException") = some true) && (PySem.W.hasDictIn K D &&
  (He.eqO (PySem.W.findIn K (.ref D) "__class__") (some (some (.builtin "object.__class__"))) && (He.eqO (PySem.W.specialIn K (.builtin "object.__class__") "__get__") (some (some (.builtin "getset_descriptor.__get__"))) && (decide (PySem.W.takesIn K (.builtin "object.__class__") = some true) && decide (PySem.W.mroIn K D (.type "object") = some true)))))))
theorem excB_ok {K : PySem.W.Frag} {D : Addr} (h : excB K D = true) : ExcC K D := by
  obtain ⟨h1, h⟩ := He.ba h
  obtain ⟨h2, h⟩ := He.ba h
  obtain ⟨h3, h⟩ := He.ba h
  obtain ⟨h4, h⟩ := He.ba h
  obtain ⟨h5, h⟩ := He.ba h
  obtain ⟨h6, h⟩ := He.ba h
  obtain ⟨h7, h8⟩ := He.ba h
  exact ⟨He.eqO_ok h1, He.eqO_ok h2, of_decide_eq_true h3, h4, He.eqO_ok h5, He.eqO_ok h6, of_decide_eq_true h7, of_decide_eq_true h8⟩
def xfB (K : PySem.W.Frag) : Bool := xN.all fun a => excB K (He.ga K a) && ((xN.all fun b => decide (PySem.W.kitOne K (.ref (He.ga K a)) (.ref (He.ga K b)) = some (decide (a = b)))) &&
  (decide (PySem.W.kitOne K (.ref (He.ga K a)) (.type "ValueError") = some true) && (decide (PySem.W.exmOne K (.ref (He.ga K a)) (.ref (He.ga K "HallError")) = some true) && decide (PySem.W.exmOne K (.ref (He.ga K a)) (.ref (He.ga K a)) = some true))))
theorem xfB_ok {K : PySem.W.Frag} (h : xfB K = true) : XF K := by
  have h' := List.all_eq_true.mp h
  refine ⟨fun a ha => excB_ok (He.ba (h' a ha)).1, fun a ha b hb => ?_, fun a ha => ?_, fun a ha => ?_, fun a ha => ?_⟩
  · exact of_decide_eq_true (List.all_eq_true.mp (He.ba (He.ba (h' a ha)).2).1 b hb)
  · exact of_decide_eq_true (He.ba (He.ba (He.ba (h' a ha)).2).2).1
  · exact of_decide_eq_true (He.ba (He.ba (He.ba (He.ba (h' a ha)).2).2).2).1
  · exact of_decide_eq_true (He.ba (He.ba (He.ba (He.ba (h' a ha)).2).2).2).2
def pairB (K : PySem.W.Frag) (p : Addr) (q : PySem.Str × PySem.Str) : Bool := match K.lookup p with
  | some ⟨.type c, _, .seq ⟨[.str a _, .str b _]⟩ _, _⟩ => decide (c = "tuple") && (decide (a = q.1) && decide (b = q.2))
  | _ => false
theorem pairB_ok {K : PySem.W.Frag} {p : Addr} {q : PySem.Str × PySem.Str} (h : pairB K p q = true) : ∃ (t u : Tok) (d : Option Addr) (m : Nat) (s2 : Array (Option Value)), K.lookup p = some ⟨.type "tuple", d, .seq #[.str q.1 t, .str q.2 u] m, s2⟩ := by
  unfold pairB at h
  split at h
  · rename_i c d a t b u m s e
    obtain ⟨h1, h⟩ := He.ba h
    obtain ⟨h2, h3⟩ := He.ba h
    have e1 := of_decide_eq_true h1
    have e2 := of_decide_eq_true h2
    have e3 := of_decide_eq_true h3
    subst e1 e2 e3
    exact ⟨t, u, d, m, s, e⟩
  · cases h
def refAt (its : Array Value) (j : Nat) : Addr := match its[j]? with | some (.ref p) => p | _ => 0
def pairsB (K : PySem.W.Frag) (a : Addr) (kvs : List (PySem.Str × PySem.Str)) : Bool := match K.lookup a with
  | some ⟨.type c, none, .seq its _, _⟩ => decide (c = "tuple") && (decide (its.size = kvs.length) && (decide (kvs.length ≤ 100) && (List.range kvs.length).all fun j => decide (its[j]? = some (.ref (refAt its j))) && pairB K (refAt its j) (kvs.getD j ("", ""))))
  | _ => false
theorem pairsB_ok {K : PySem.W.Frag} {a : Addr} {kvs : List (PySem.Str × PySem.Str)} (h : pairsB K a kvs = true) : KPairs K a kvs := by
  unfold pairsB at h
  split at h
  · rename_i c its m s e
    obtain ⟨h1, h⟩ := He.ba h
    obtain ⟨h2, h⟩ := He.ba h
    obtain ⟨h3, h4⟩ := He.ba h
    have e1 := of_decide_eq_true h1
    subst e1
    refine ⟨its, m, s, refAt its, e, of_decide_eq_true h2, of_decide_eq_true h3, fun j q hj => ?_⟩
    have hlt : j < kvs.length := (List.getElem?_eq_some_iff.mp hj).1
    have h5 := List.all_eq_true.mp h4 j (List.mem_range.mpr hlt)
    obtain ⟨h6, h7⟩ := He.ba h5
    have e2 : kvs.getD j ("", "") = q := by rw [List.getD_eq_getElem?_getD, hj]; rfl
    rw [e2] at h7
    exact ⟨of_decide_eq_true h6, pairB_ok h7⟩
  · cases h
theorem df_of {K : PySem.W.Frag} {mg : PySem.Str → Option Value} {x : PySem.Str} {st : Stmt} {ps : List PySem.Str} {h : Heap} (X : K.In h) (G : h.Ns mainGlobals mg) (c : (He.Fa.glo x).ok K = true) (F : ∃ fd, FunD K x x (defArgs st) (defBody st) (defScope st) [] [] (He.fAd K (x, none)) fd)
    (hb : ∀ (kV doc pm : Value) (an : Option Addr) (cdv ct : Value) (us : List Value), us.length = ps.length → bindArgs (PySem.W.fnOf x x (defArgs st) (defBody st) (defScope st) .none kV doc pm an cdv ct) ⟨us, []⟩ = pure (ps.zip us)) : Df K mg x st ps := by
  obtain ⟨fd, F⟩ := F
  exact ⟨_, fd, F, He.glo_ok X G c, F.bindsN hb⟩
/-- the end: the law's promise, from its model -/
theorem law_start {K : PySem.W.Frag} {fs : FS} (hfs : ∀ (sc : List Int) P X, sc.length ≤ 63 → P (.fz (.bl true)) [.fz (.sq (sc.map .int))] → fs [.fz (.sq (sc.map .int))] P X) (H : Hp) (a : Addr) (ns : List Int) (hl : ns.length ≤ 63) (hS : SqL K H a (ns.map V.int)) :
    SpM K fs [.ref a] H (fun v _ => v = .bl true) fun _ _ _ => False := by
  refine ⟨emp, H, [.fz (.sq (ns.map .int))], fun m _ => m = .fz (.bl true), fun _ _ => False, ⟨Same.emp, Same.refl _, Dj.emp_r, emp, .fz (.sq hS (RpL.ofInts ns)) .nil, Same.emp, Dj.emp_l, Dj.emp_l⟩, hfs ns _ _ hl rfl, fun m v ms' F' H' p S' e => ?_, fun c ms' F' H' p S' e => p⟩
  subst p
  cases S'.headF
  rfl
theorem _root_.L2.Room.units1 {k : Nat} {A : Around} (hr : L2.Room k A) : A.units + 65 < cLine := by
  have := hr.un
  omega
/-- no exception leaves it -/
theorem fnok_nox {P : Program} {w : World} {K : PySem.W.Frag} {mg : PySem.Str → Option Value} {base : Heap} {k : Nat} {f : Addr} {fd : FuncData} {ps : List PySem.Str} {sp : Sp} (F : FnOk P w K mg base (L2.CX P w) k f fd ps sp) :
    FnOk P w K mg base L2.CX0 k f fd ps (fun vs H Q _ => sp vs H Q fun _ _ _ => False) := by
  refine ⟨fun vs H Q _ h => F.len vs H Q _ h, fun A outer s H args us vs Q E hr he hb hv h => codeAny_mono (F.run A outer s H args us vs Q _ hr he hb hv h) fun r s' q => ?_⟩
  cases r with
  | ok f => cases f <;> exact q
  | error e =>
    obtain ⟨_, _, _, _, _, _, _, _, _, _, _, _, hE⟩ := q
    exact hE.elim
structure DfF (K : PySem.W.Frag) (mg : PySem.Str → Option Value) (x : PySem.Str) (st : Stmt) (ps : List PySem.Str) (f : Addr) (fd : FuncData) : Prop where
  fn : FunD K x x (defArgs st) (defBody st) (defScope st) [] [] f fd
theorem ok_mkF {P : Program} {w : World} {K : PySem.W.Frag} {mg : PySem.Str → Option Value} {base : Heap} {x : PySem.Str} {st : Stmt} {Nn ps : List PySem.Str} {k : Nat} {fs : FS} {t : WX → TS} {f : Addr} {fd : FuncData}
    (Dd : DfF K mg x st ps f fd) (S : FnScope Nn ps (defScope st)) (hnp : ps.length ≤ Nn.length)
    (hw : FsOk K ps.length Nn.length fs t)
    (der : ∀ (f : Addr) (cdv : Value) (A : Around) (outer : List Env) (s : Shared) (H : Hp) (E : XK), Room k (cxOf (L2.CX P w) P w K mg base Nn x (defScope st) f cdv A outer s H E).A →
      Takes (cxOf (L2.CX P w) P w K mg base Nn x (defScope st) f cdv A outer s H E) (fun c d _ H => E c d H) →
      PassesOwn (model P w) (cxOf (L2.CX P w) P w K mg base Nn x (defScope st) f cdv A outer s H E).A (cxOf (L2.CX P w) P w K mg base Nn x (defScope st) f cdv A outer s H E).env (cxOf (L2.CX P w) P w K mg base Nn x (defScope st) f cdv A outer s H E).xe →
      PSs (cxOf (L2.CX P w) P w K mg base Nn x (defScope st) f cdv A outer s H E) (defBody st) (t (fun c d _ H => E c d H))) :
    FnOk P w K mg base (L2.CX P w) (k + 1) f fd ps (SpM K fs) := by
  refine Dd.fn.ok S (fun vs H Q E h => (fs_run (t := t) hnp hw vs H Q E h).1) (fun cdv A outer s H vs Q E hr h => ?_)
  exact ⟨_, der f cdv A outer s H E hr (takes_of rfl rfl rfl rfl) (passes_of rfl), (fs_run hnp hw vs H Q E h).2⟩
end M
namespace M
open PySem PySem.Spec PyProof.Rows L2
/-! ### patterns -/
/-- a sign of the first hundred and twenty-eight; not too long -/
def ascS (x : PySem.Str) : Bool := decide (x.length ≤ 1000) && x.cps.toList.all fun c => decide (c < 128)
theorem ascS_iff {x : PySem.Str} : ascS x = true ↔ x.length ≤ 1000 ∧ ∀ c ∈ x.cps.toList, c < 128 := by
  unfold ascS
  simp only [Bool.and_eq_true, decide_eq_true_eq, List.all_eq_true]
def fs_is_word (K : PySem.W.Frag) : FS := fun ms P X => ∃ x, ms = [.fz (.str x)] ∧ ascS x = true ∧ P (.fz (.bl (isWordS x))) ms
/-- is_word: slots 0 text, 1 sign -/
def t_is_word (K : PySem.W.Frag) : WX → TS := fun W => (tRet (tAndV (tOp (rNeA K) (tVar 0) (tC (.str ""))) (tCB (rAll K) (tCons (tLcW (iStr (tVar 0)) (gName 1) (fun W => tYes) (fun W => (tOp (rInA K) (tVar 1) (tC (.str "abcdefghijklmnopqrstuvwxyz0123456789")))) [1]) tNil))))
theorem filt_true {α β : Type} (f : α → β) (l : List α) : (l.filter fun _ => true).map f = l.map f := by
  rw [List.filter_eq_self.mpr (fun _ _ => rfl)]
theorem h_is_word {K : PySem.W.Frag} : FsOk K 1 2 (fs_is_word K) (t_is_word K) := by
  intro ms P X hf
  obtain ⟨x, rfl, ha, hP⟩ := hf
  obtain ⟨hl, hc⟩ := ascS_iff.mp ha
  refine ⟨rfl, ?_⟩
  unfold t_is_word
  (repeat (first | refine wd_var rfl (by decide) ?_ | with_reducible refine wd_int ?_ | with_reducible refine wd_str ?_ | with_reducible refine wd_bl ?_ | with_reducible refine wd_non ?_ | with_reducible refine wd_op ?_ | with_reducible refine wd_cb ?_ | with_reducible refine wa_cons ?_ | with_reducible refine wa_nil ?_ | with_reducible refine ws_seq ?_ | refine ws_set (by decide) ?_ | with_reducible refine ws_ret ?_ | with_reducible refine ws_if ?_ | with_reducible refine ws_next ?_ | with_reducible refine wt_rng ?_ | with_reducible refine wt_test ?_ | with_reducible refine wt_B ?_ | with_reducible refine wt_and ?_ | with_reducible refine wt_or ?_ | with_reducible refine wt_not ?_ | with_reducible refine wt_tru ?_ | with_reducible refine wd_if ?_ | with_reducible refine wd_andV ?_ | with_reducible refine wd_orV ?_ | with_reducible refine wd_notV ?_ | with_reducible refine wd_chain ?_ | with_reducible refine wd_tup ?_ | with_reducible refine wd_lst ?_ | with_reducible refine wd_un ?_ | with_reducible refine wd_bm ?_ | with_reducible refine wd_sl ?_ | with_reducible refine wo_none ?_ | with_reducible refine wo_some ?_ | with_reducible refine ws_asg ?_ | refine wg_tup rfl ?_ | with_reducible refine wgs_cons ?_ | with_reducible refine wgs_nil ?_ | refine wg_name (by decide) ?_ | with_reducible refine o_eqS ?_ | with_reducible refine o_neS ?_ | with_reducible refine o_eqI ?_ | with_reducible refine o_neI ?_ | refine o_isN rfl ?_ | refine o_notN rfl ?_ | refine o_ixT rfl ?_ | with_reducible refine o_addI ?_ | with_reducible refine o_I0b ?_ | with_reducible refine o_I0i ?_ | with_reducible refine un_negI ?_ | with_reducible refine s_lst ?_ | with_reducible refine wt_yes ?_ | refine c_len rfl (by first | omega | (simp <;> omega)) ?_ | refine o_addL (by first | omega | (simp <;> omega)) ?_ | refine ite_t rfl ?_ | refine ite_f rfl ?_ | refine ite_t (by decide +kernel) ?_ | refine ite_f (by decide +kernel) ?_ | refine o_inT rfl rfl ?_ | refine o_notInT rfl rfl ?_ | refine ⟨_, rfl, ?_⟩ | refine ⟨Nat.le_of_ble_eq_true rfl, ?_⟩ | refine ⟨fun _ _ _ => ty_lst, ?_⟩))
  by_cases h0 : x = ""
  · subst h0
    simp only [decide_true, Bool.not_true, Bool.false_eq_true, if_false]
    exact ⟨_, .fz .nil, hP⟩
  · have e0 : x.cps.toList ≠ [] := fun z => h0 (by rw [← S_cps x, z]; rfl)
    simp only [h0, decide_false, Bool.not_false, if_true]
    (repeat (first | refine wd_var rfl (by decide) ?_ | with_reducible refine wd_int ?_ | with_reducible refine wd_str ?_ | with_reducible refine wd_bl ?_ | with_reducible refine wd_non ?_ | with_reducible refine wd_op ?_ | with_reducible refine wd_cb ?_ | with_reducible refine wa_cons ?_ | with_reducible refine wa_nil ?_ | with_reducible refine ws_seq ?_ | refine ws_set (by decide) ?_ | with_reducible refine ws_ret ?_ | with_reducible refine ws_if ?_ | with_reducible refine ws_next ?_ | with_reducible refine wt_rng ?_ | with_reducible refine wt_test ?_ | with_reducible refine wt_B ?_ | with_reducible refine wt_and ?_ | with_reducible refine wt_or ?_ | with_reducible refine wt_not ?_ | with_reducible refine wt_tru ?_ | with_reducible refine wd_if ?_ | with_reducible refine wd_andV ?_ | with_reducible refine wd_orV ?_ | with_reducible refine wd_notV ?_ | with_reducible refine wd_chain ?_ | with_reducible refine wd_tup ?_ | with_reducible refine wd_lst ?_ | with_reducible refine wd_un ?_ | with_reducible refine wd_bm ?_ | with_reducible refine wd_sl ?_ | with_reducible refine wo_none ?_ | with_reducible refine wo_some ?_ | with_reducible refine ws_asg ?_ | refine wg_tup rfl ?_ | with_reducible refine wgs_cons ?_ | with_reducible refine wgs_nil ?_ | refine wg_name (by decide) ?_ | with_reducible refine o_eqS ?_ | with_reducible refine o_neS ?_ | with_reducible refine o_eqI ?_ | with_reducible refine o_neI ?_ | refine o_isN rfl ?_ | refine o_notN rfl ?_ | refine o_ixT rfl ?_ | with_reducible refine o_addI ?_ | with_reducible refine o_I0b ?_ | with_reducible refine o_I0i ?_ | with_reducible refine un_negI ?_ | with_reducible refine s_lst ?_ | with_reducible refine wt_yes ?_ | refine c_len rfl (by first | omega | (simp <;> omega)) ?_ | refine o_addL (by first | omega | (simp <;> omega)) ?_ | refine ite_t rfl ?_ | refine ite_f rfl ?_ | refine ite_t (by decide +kernel) ?_ | refine ite_f (by decide +kernel) ?_ | refine o_inT rfl rfl ?_ | refine o_notInT rfl rfl ?_ | refine ⟨_, rfl, ?_⟩ | refine ⟨Nat.le_of_ble_eq_true rfl, ?_⟩ | refine ⟨fun _ _ _ => ty_lst, ?_⟩))
    refine wd_lcMap (by simp) (gok_name (by simp)) (wi_str (wd_var rfl (by decide) ⟨x, rfl, ?_⟩))
    refine ⟨by simp [sgnD]; unfold Str.length at hl; omega, fun _ => true, fun d => match d with | .str y => .bl (y.cps.toList.all isW) | _ => .non, fun d hd => ?_, ?_⟩
    · obtain ⟨c, hcc, rfl⟩ := List.mem_map.mp hd
      refine wg_name (by decide) (wt_yes ⟨rfl, rfl, fun _ => ?_⟩)
      refine wd_op (wd_var rfl (by decide) (wd_str (o_inS ⟨?_, rfl⟩)))
      have := letters_in ⟨c, hc c hcc⟩
      simp only at this
      rw [this]
      simp
    · rw [filt_true]
      have e : (sgnD x).map (fun d => match d with | .str y => D.bl (y.cps.toList.all isW) | _ => .non) = (x.cps.toList.map isW).map .bl := by
        unfold sgnD
        rw [List.map_map, List.map_map]
        apply List.map_congr_left
        intro c _
        simp
      rw [e]
      refine wa_nil (c_all ⟨_, .fz .nil, ?_⟩)
      have e2 : (x.cps.toList.map isW).all id = isWordS x := by
        unfold isWordS
        simp [List.all_map, e0]
      rw [e2]
      exact hP
/-- a part, as it may be handed in -/
inductive RP where
  | of (ws : List PySem.Str)
  | ot (k s : PySem.Str) (ex : List PySem.Str)
def RP.kind : RP → PySem.Str
  | .of _ => "of"
  | .ot k _ _ => k
def RP.arg : RP → D
  | .of ws => strsD ws
  | .ot _ s _ => .str s
def RP.rest : RP → List D
  | .of _ => []
  | .ot _ _ ex => ex.map .str
def rpD (r : RP) : D := .tup (.str r.kind :: r.arg :: r.rest)
/-- its form can be looked at -/
def RP.ok : RP → Prop
  | .of ws => ws.length ≤ 100 ∧ ∀ w ∈ ws, ascS w = true
  | .ot k s ex => k ≠ "of" ∧ ascS s = true ∧ ex.length ≤ 100
def RP.isN (r : RP) : Bool := decide (r.kind = "one") || decide (r.kind = "any")
def goodPart : RP → Bool
  | .of ws => decide (1 ≤ ws.length) && decide (ws.length ≤ 4) && ws.all isWordS
  | .ot k s ex => decide (ex = []) && (decide (k = "word") || (decide (k = "one") || decide (k = "any"))) && isWordS s
def RP.name : RP → List PySem.Str
  | .of _ => []
  | .ot k s _ => if decide (k = "one") || decide (k = "any") then [s] else []
def namesP (rs : List RP) : List PySem.Str := rs.flatMap RP.name
def goodP (rs : List RP) : Bool := decide (1 ≤ rs.length) && decide (rs.length ≤ 6) && rs.all goodPart && decide (ddN [] (namesP rs) = (namesP rs).length)
def patD (rs : List RP) : D := .lst (rs.map rpD)
def fs_look_pattern (K : PySem.W.Frag) : FS := fun ms P X => ∃ rs, ms = [.fz (patD rs)] ∧ rs.length ≤ 1000 ∧ (∀ r ∈ rs, r.ok) ∧ (goodP rs = true → P (.fz .non) ms) ∧ (goodP rs = false → X (.ref (He.ga K "BadPattern")) ms)
/-- look_pattern: slots 0 pattern, 1 names, 2 part, 3 words, 4 word -/
def t_look_pattern (K : PySem.W.Frag) : WX → TS := fun W => (tSeq (tIfS (tNot (tTest (tChain (rI0 fun i j => .bl (decide (i ≤ j))) (rI0 fun i j => .bl (decide (i ≤ j))) (tC (.int 1)) (tCB (rLenA K) (tCons (tVar 0) tNil)) (tC (.int 6))))) (fun _ σ H => W (.ref (He.ga K "BadPattern")) none σ H) tNext) (tSeq (tAsg (tLst tNil) (gName 1)) (tSeq (tFor (iList K (tVar 0)) (gName 2) (tSeq (tIfS (tOr (tTest (tOp (rNeA K) (tCB (rLenA K) (tCons (tVar 2) tNil)) (tC (.int 2)))) (tTest (tOp (rNotInA K) (tOp (rIxA K) (tVar 2) (tC (.int 0))) (tTup (tCons (tC (.str "word")) (tCons (tC (.str "of")) (tCons (tC (.str "one")) (tCons (tC (.str "any")) tNil)))))))) (fun _ σ H => W (.ref (He.ga K "BadPattern")) none σ H) tNext) (tSeq (tAsg (tIf (tTest (tOp (rEqA K) (tOp (rIxA K) (tVar 2) (tC (.int 0))) (tC (.str "of")))) (tOp (rIxA K) (tVar 2) (tC (.int 1))) (tLst (tCons (tOp (rIxA K) (tVar 2) (tC (.int 1))) tNil))) (gName 3)) (tSeq (tIfS (tOr (tNot (tTest (tChain (rI0 fun i j => .bl (decide (i ≤ j))) (rI0 fun i j => .bl (decide (i ≤ j))) (tC (.int 1)) (tCB (rLenA K) (tCons (tVar 3) tNil)) (tC (.int 4))))) (tNot (tB (tCB (rAll K) (tCons (tLcW (iList K (tVar 3)) (gName 4) (fun W => tYes) (fun W => (tCallS (SpM K (fs_is_word K)) (WE W) (tCons (tVar 4) tNil))) [4]) tNil))))) (fun _ σ H => W (.ref (He.ga K "BadPattern")) none σ H) tNext) (tIfS (tTest (tOp (rInA K) (tOp (rIxA K) (tVar 2) (tC (.int 0))) (tTup (tCons (tC (.str "one")) (tCons (tC (.str "any")) tNil))))) (tDrop (tBM K "list" rAppend (tVar 1) (tCons (tOp (rIxA K) (tVar 2) (tC (.int 1))) tNil))) tNext))))) (tIfS (tTest (tOp (rI0 fun i j => .bl (decide (i < j))) (tLenSetS K (tVar 1)) (tCB (rLenA K) (tCons (tVar 1) tNil)))) (fun _ σ H => W (.ref (He.ga K "BadPattern")) none σ H) tNext))))
theorem inD_strs (x : PySem.Str) : ∀ l : List PySem.Str, inD (.str x) (l.map .str) = decide (x ∈ l)
  | [] => by simp [inD]
  | y :: l => by
    have := inD_strs x l
    simp only [inD, List.map_cons, List.any_cons] at this ⊢
    rw [this]
    by_cases h : x = y
    · subst h; simp [eqD]
    · have h' : ¬ y = x := fun z => h z.symm
      simp [eqD, h, h']
theorem goodPart_iff {r : RP} (hok : r.ok) : goodPart r = true ↔ r.rest = [] ∧ (r.kind = "word" ∨ r.kind = "of" ∨ r.kind = "one" ∨ r.kind = "any") ∧ (match r with | .of ws => 1 ≤ ws.length ∧ ws.length ≤ 4 ∧ ws.all isWordS = true | .ot _ s _ => isWordS s = true) := by
  cases r with
  | of ws => simp [goodPart, RP.rest, RP.kind, and_assoc]
  | ot k s ex =>
    have := hok.1
    simp [goodPart, RP.rest, RP.kind, this, and_assoc]
/-- the words of a part -/
def RP.ws : RP → List PySem.Str
  | .of ws => ws
  | .ot _ s _ => [s]
theorem RP.ok.ws {r : RP} (h : r.ok) : r.ws.length ≤ 100 ∧ ∀ w ∈ r.ws, ascS w = true := by
  cases r with
  | of ws => exact h
  | ot k s ex =>
    refine ⟨by simp [RP.ws], fun w hw => ?_⟩
    simp [RP.ws] at hw
    subst hw
    exact h.2.1
theorem goodPart_ws {r : RP} (hok : r.ok) : goodPart r = (decide (r.rest = []) && (decide (r.kind = "word") || (decide (r.kind = "of") || (decide (r.kind = "one") || decide (r.kind = "any")))) && (decide (1 ≤ r.ws.length) && decide (r.ws.length ≤ 4)) && r.ws.all isWordS) := by
  cases r with
  | of ws => simp [goodPart, RP.rest, RP.kind, RP.ws, Bool.and_assoc]; rfl
  | ot k s ex =>
    have := hok.1
    simp [goodPart, RP.rest, RP.kind, RP.ws, this, Bool.and_assoc]; rfl
theorem RP.name_eq {r : RP} (h : goodPart r = true) : r.name = if r.isN = true then r.ws else [] := by
  cases r with
  | of ws =>
    have h1 : decide (PySem.Str.ofString "of" = PySem.Str.ofString "one") = false := by decide +kernel
    have h2 : decide (PySem.Str.ofString "of" = PySem.Str.ofString "any") = false := by decide +kernel
    simp only [RP.name, RP.isN, RP.kind, h1, h2]; rfl
  | ot k s ex => rfl
theorem names_len : ∀ l : List RP, (namesP l).length ≤ l.length
  | [] => by simp [namesP]
  | r :: rs => by
    have ih := names_len rs
    have : r.name.length ≤ 1 := by
      cases r with
      | of ws => simp [RP.name]
      | ot k s ex => simp only [RP.name]; split <;> simp
    unfold namesP at ih ⊢
    simp only [List.flatMap_cons, List.length_append, List.length_cons]
    omega
abbrev nmT (p : Addr) (l : List PySem.Str) : MV := .ot p (.lst ((l.map D.str).map .lf))
theorem h_look_pattern {K : PySem.W.Frag} : FsOk K 1 5 (fs_look_pattern K) (t_look_pattern K) := by
  intro ms P X hf
  obtain ⟨rs, rfl, hl, hok, hP, hX⟩ := hf
  refine ⟨rfl, ?_⟩
  unfold t_look_pattern
  have bad : ∀ {m : List MV} {N : List MV → Prop}, goodP rs = false → wpS K 5 (fun W => fun _ σ H => W (.ref (He.ga K "BadPattern")) none σ H) (.fz (.lst (rs.map rpD)) :: m) N (fun m me => ∃ ms', Back [.fz (.lst (rs.map rpD))] me ms' ∧ P m ms') (fun c me => ∃ ms', Back [.fz (.lst (rs.map rpD))] me ms' ∧ X c ms') := fun hg => ws_raise ⟨_, .fz .nil, hX hg⟩
  unfold patD at *
  (repeat (first | refine wd_var rfl (by decide) ?_ | with_reducible refine wd_int ?_ | with_reducible refine wd_str ?_ | with_reducible refine wd_bl ?_ | with_reducible refine wd_non ?_ | with_reducible refine wd_op ?_ | with_reducible refine wd_cb ?_ | with_reducible refine wa_cons ?_ | with_reducible refine wa_nil ?_ | with_reducible refine ws_seq ?_ | refine ws_set (by decide) ?_ | with_reducible refine ws_ret ?_ | with_reducible refine ws_if ?_ | with_reducible refine ws_next ?_ | with_reducible refine wt_rng ?_ | with_reducible refine wt_test ?_ | with_reducible refine wt_B ?_ | with_reducible refine wt_and ?_ | with_reducible refine wt_or ?_ | with_reducible refine wt_not ?_ | with_reducible refine wt_tru ?_ | with_reducible refine wd_if ?_ | with_reducible refine wd_andV ?_ | with_reducible refine wd_orV ?_ | with_reducible refine wd_notV ?_ | with_reducible refine wd_chain ?_ | with_reducible refine wd_tup ?_ | with_reducible refine wd_lst ?_ | with_reducible refine wd_un ?_ | with_reducible refine wd_bm ?_ | with_reducible refine wd_sl ?_ | with_reducible refine wo_none ?_ | with_reducible refine wo_some ?_ | with_reducible refine ws_asg ?_ | refine wg_tup rfl ?_ | with_reducible refine wgs_cons ?_ | with_reducible refine wgs_nil ?_ | refine wg_name (by decide) ?_ | with_reducible refine o_eqS ?_ | with_reducible refine o_neS ?_ | with_reducible refine o_eqI ?_ | with_reducible refine o_neI ?_ | refine o_isN rfl ?_ | refine o_notN rfl ?_ | refine o_ixT rfl ?_ | with_reducible refine o_addI ?_ | with_reducible refine o_I0b ?_ | with_reducible refine o_I0i ?_ | with_reducible refine un_negI ?_ | with_reducible refine s_lst ?_ | with_reducible refine wt_yes ?_ | refine c_len rfl (by first | omega | (simp <;> omega)) ?_ | refine o_addL (by first | omega | (simp <;> omega)) ?_ | refine ite_t rfl ?_ | refine ite_f rfl ?_ | refine ite_t (by decide +kernel) ?_ | refine ite_f (by decide +kernel) ?_ | refine o_inT rfl rfl ?_ | refine o_notInT rfl rfl ?_ | refine ⟨_, rfl, ?_⟩ | refine ⟨Nat.le_of_ble_eq_true rfl, ?_⟩ | refine ⟨fun _ _ _ => ty_lst, ?_⟩))
  refine ite_b (fun hr => bad ?_) (fun hr => ?_)
  · have : ¬ (1 ≤ rs.length ∧ rs.length ≤ 6) := by simp at hr; omega
    by_cases q1 : 1 ≤ rs.length
    · have q2 : ¬ rs.length ≤ 6 := by omega
      simp [goodP, q2]
    · simp [goodP, q1]
  · have hlen : 1 ≤ rs.length ∧ rs.length ≤ 6 := by simp at hr; omega
    refine ws_next (ws_seq (ws_setN (by decide) (wn_lst (wa_nil ⟨by decide, fun p => ?_⟩))))
    refine ws_cut (fun m => ∃ z2 z3, m = [.fz (.lst (rs.map rpD)), nmT p (namesP rs), z2, z3, .un] ∧ rs.all goodPart = true) ?_ ?_
    · refine ws_for (wi_list (wd_var rfl (by decide) ⟨_, rfl, ?_⟩))
      refine ⟨fun i m => ∃ z2 z3, m = [.fz (.lst (rs.map rpD)), nmT p (namesP (rs.take i)), z2, z3, .un] ∧ (rs.take i).all goodPart = true, ⟨_, _, rfl, rfl⟩, ?_, ?_⟩
      · rintro i d m hd ⟨z2, z3, rfl, hg⟩
        obtain ⟨r, hr, rfl⟩ : ∃ r, rs[i]? = some r ∧ d = rpD r := by
          rw [List.getElem?_map] at hd
          cases q : rs[i]? with
          | none => rw [q] at hd; cases hd
          | some r => rw [q] at hd; exact ⟨r, rfl, (Option.some.inj hd).symm⟩
        have hro := hok r (List.mem_of_getElem? hr)
        have take1 : rs.take (i + 1) = rs.take i ++ [r] := by rw [List.take_add_one, hr]; rfl
        have badr : goodPart r = false → goodP rs = false := fun h => by
          have : rs.all goodPart = false := List.all_eq_false.mpr ⟨r, List.mem_of_getElem? hr, by simp [h]⟩
          simp [goodP, this]
        have gw := goodPart_ws hro
        have hrest : r.rest.length ≤ 100 := by cases r with | of ws => simp [RP.rest] | ot k s ex => simp [RP.rest]; exact hro.2.2
        refine wg_name (by decide) ?_
        refine ws_cut (fun m => m = [.fz (.lst (rs.map rpD)), nmT p (namesP (rs.take i)), .fz (rpD r), z3, .un] ∧ r.rest = [] ∧ (r.kind = "word" ∨ r.kind = "of" ∨ r.kind = "one" ∨ r.kind = "any")) ?_ ?_
        · (repeat (first | refine wd_var rfl (by decide) ?_ | with_reducible refine wd_int ?_ | with_reducible refine wd_str ?_ | with_reducible refine wd_bl ?_ | with_reducible refine wd_non ?_ | with_reducible refine wd_op ?_ | with_reducible refine wd_cb ?_ | with_reducible refine wa_cons ?_ | with_reducible refine wa_nil ?_ | with_reducible refine ws_seq ?_ | refine ws_set (by decide) ?_ | with_reducible refine ws_ret ?_ | with_reducible refine ws_if ?_ | with_reducible refine ws_next ?_ | with_reducible refine wt_rng ?_ | with_reducible refine wt_test ?_ | with_reducible refine wt_B ?_ | with_reducible refine wt_and ?_ | with_reducible refine wt_or ?_ | with_reducible refine wt_not ?_ | with_reducible refine wt_tru ?_ | with_reducible refine wd_if ?_ | with_reducible refine wd_andV ?_ | with_reducible refine wd_orV ?_ | with_reducible refine wd_notV ?_ | with_reducible refine wd_chain ?_ | with_reducible refine wd_tup ?_ | with_reducible refine wd_lst ?_ | with_reducible refine wd_un ?_ | with_reducible refine wd_bm ?_ | with_reducible refine wd_sl ?_ | with_reducible refine wo_none ?_ | with_reducible refine wo_some ?_ | with_reducible refine ws_asg ?_ | refine wg_tup rfl ?_ | with_reducible refine wgs_cons ?_ | with_reducible refine wgs_nil ?_ | refine wg_name (by decide) ?_ | with_reducible refine o_eqS ?_ | with_reducible refine o_neS ?_ | with_reducible refine o_eqI ?_ | with_reducible refine o_neI ?_ | refine o_isN rfl ?_ | refine o_notN rfl ?_ | refine o_ixT rfl ?_ | with_reducible refine o_addI ?_ | with_reducible refine o_I0b ?_ | with_reducible refine o_I0i ?_ | with_reducible refine un_negI ?_ | with_reducible refine s_lst ?_ | with_reducible refine wt_yes ?_ | refine c_len rfl (by first | omega | (simp <;> omega)) ?_ | refine o_addL (by first | omega | (simp <;> omega)) ?_ | refine ite_t rfl ?_ | refine ite_f rfl ?_ | refine ite_t (by decide +kernel) ?_ | refine ite_f (by decide +kernel) ?_ | refine o_inT rfl rfl ?_ | refine o_notInT rfl rfl ?_ | refine ⟨_, rfl, ?_⟩ | refine ⟨Nat.le_of_ble_eq_true rfl, ?_⟩ | refine ⟨fun _ _ _ => ty_lst, ?_⟩))
          refine ite_b (fun h => ?_) (fun h => ?_)
          · refine ite_t rfl (bad (badr ?_))
            have : r.rest ≠ [] := fun z => by rw [z] at h; simp at h
            rw [gw]; simp [this]
          · have hre : r.rest = [] := by
              have : r.rest.length = 0 := by simp at h; omega
              exact List.eq_nil_of_length_eq_zero this
            have hrp : rpD r = .tup [.str r.kind, r.arg] := by unfold rpD; rw [hre]
            rw [hrp]
            (repeat (first | refine wd_var rfl (by decide) ?_ | with_reducible refine wd_int ?_ | with_reducible refine wd_str ?_ | with_reducible refine wd_bl ?_ | with_reducible refine wd_non ?_ | with_reducible refine wd_op ?_ | with_reducible refine wd_cb ?_ | with_reducible refine wa_cons ?_ | with_reducible refine wa_nil ?_ | with_reducible refine ws_seq ?_ | refine ws_set (by decide) ?_ | with_reducible refine ws_ret ?_ | with_reducible refine ws_if ?_ | with_reducible refine ws_next ?_ | with_reducible refine wt_rng ?_ | with_reducible refine wt_test ?_ | with_reducible refine wt_B ?_ | with_reducible refine wt_and ?_ | with_reducible refine wt_or ?_ | with_reducible refine wt_not ?_ | with_reducible refine wt_tru ?_ | with_reducible refine wd_if ?_ | with_reducible refine wd_andV ?_ | with_reducible refine wd_orV ?_ | with_reducible refine wd_notV ?_ | with_reducible refine wd_chain ?_ | with_reducible refine wd_tup ?_ | with_reducible refine wd_lst ?_ | with_reducible refine wd_un ?_ | with_reducible refine wd_bm ?_ | with_reducible refine wd_sl ?_ | with_reducible refine wo_none ?_ | with_reducible refine wo_some ?_ | with_reducible refine ws_asg ?_ | refine wg_tup rfl ?_ | with_reducible refine wgs_cons ?_ | with_reducible refine wgs_nil ?_ | refine wg_name (by decide) ?_ | with_reducible refine o_eqS ?_ | with_reducible refine o_neS ?_ | with_reducible refine o_eqI ?_ | with_reducible refine o_neI ?_ | refine o_isN rfl ?_ | refine o_notN rfl ?_ | refine o_ixT rfl ?_ | with_reducible refine o_addI ?_ | with_reducible refine o_I0b ?_ | with_reducible refine o_I0i ?_ | with_reducible refine un_negI ?_ | with_reducible refine s_lst ?_ | with_reducible refine wt_yes ?_ | refine c_len rfl (by first | omega | (simp <;> omega)) ?_ | refine o_addL (by first | omega | (simp <;> omega)) ?_ | refine ite_t rfl ?_ | refine ite_f rfl ?_ | refine ite_t (by decide +kernel) ?_ | refine ite_f (by decide +kernel) ?_ | refine o_inT rfl rfl ?_ | refine o_notInT rfl rfl ?_ | refine ⟨_, rfl, ?_⟩ | refine ⟨Nat.le_of_ble_eq_true rfl, ?_⟩ | refine ⟨fun _ _ _ => ty_lst, ?_⟩))
            have e : inD (.str r.kind) [.str "word", .str "of", .str "one", .str "any"] = decide (r.kind ∈ (["word", "of", "one", "any"] : List PySem.Str)) := inD_strs r.kind ["word", "of", "one", "any"]
            rw [e]
            (repeat (first | refine wd_var rfl (by decide) ?_ | with_reducible refine wd_int ?_ | with_reducible refine wd_str ?_ | with_reducible refine wd_bl ?_ | with_reducible refine wd_non ?_ | with_reducible refine wd_op ?_ | with_reducible refine wd_cb ?_ | with_reducible refine wa_cons ?_ | with_reducible refine wa_nil ?_ | with_reducible refine ws_seq ?_ | refine ws_set (by decide) ?_ | with_reducible refine ws_ret ?_ | with_reducible refine ws_if ?_ | with_reducible refine ws_next ?_ | with_reducible refine wt_rng ?_ | with_reducible refine wt_test ?_ | with_reducible refine wt_B ?_ | with_reducible refine wt_and ?_ | with_reducible refine wt_or ?_ | with_reducible refine wt_not ?_ | with_reducible refine wt_tru ?_ | with_reducible refine wd_if ?_ | with_reducible refine wd_andV ?_ | with_reducible refine wd_orV ?_ | with_reducible refine wd_notV ?_ | with_reducible refine wd_chain ?_ | with_reducible refine wd_tup ?_ | with_reducible refine wd_lst ?_ | with_reducible refine wd_un ?_ | with_reducible refine wd_bm ?_ | with_reducible refine wd_sl ?_ | with_reducible refine wo_none ?_ | with_reducible refine wo_some ?_ | with_reducible refine ws_asg ?_ | refine wg_tup rfl ?_ | with_reducible refine wgs_cons ?_ | with_reducible refine wgs_nil ?_ | refine wg_name (by decide) ?_ | with_reducible refine o_eqS ?_ | with_reducible refine o_neS ?_ | with_reducible refine o_eqI ?_ | with_reducible refine o_neI ?_ | refine o_isN rfl ?_ | refine o_notN rfl ?_ | refine o_ixT rfl ?_ | with_reducible refine o_addI ?_ | with_reducible refine o_I0b ?_ | with_reducible refine o_I0i ?_ | with_reducible refine un_negI ?_ | with_reducible refine s_lst ?_ | with_reducible refine wt_yes ?_ | refine c_len rfl (by first | omega | (simp <;> omega)) ?_ | refine o_addL (by first | omega | (simp <;> omega)) ?_ | refine ite_t rfl ?_ | refine ite_f rfl ?_ | refine ite_t (by decide +kernel) ?_ | refine ite_f (by decide +kernel) ?_ | refine o_inT rfl rfl ?_ | refine o_notInT rfl rfl ?_ | refine ⟨_, rfl, ?_⟩ | refine ⟨Nat.le_of_ble_eq_true rfl, ?_⟩ | refine ⟨fun _ _ _ => ty_lst, ?_⟩))
            refine ite_b (fun h => bad (badr ?_)) (fun h => ws_next ⟨rfl, hre, ?_⟩)
            · rw [gw]; simp at h; simp [h]
            · have h' : r.kind ∈ (["word", "of", "one", "any"] : List PySem.Str) := of_decide_eq_true (by rw [Bool.not_eq_false'] at h; exact h)
              simpa using h'
        · rintro m ⟨rfl, hre, hk⟩
          have hrp : rpD r = .tup [.str r.kind, r.arg] := by unfold rpD; rw [hre]
          rw [hrp]
          obtain ⟨hwl, hwa⟩ := hro.ws
          refine ws_cut (fun m => m = [.fz (.lst (rs.map rpD)), nmT p (namesP (rs.take i)), .fz (.tup [.str r.kind, r.arg]), .fz (strsD r.ws), .un]) ?_ ?_
          · (repeat (first | refine wd_var rfl (by decide) ?_ | with_reducible refine wd_int ?_ | with_reducible refine wd_str ?_ | with_reducible refine wd_bl ?_ | with_reducible refine wd_non ?_ | with_reducible refine wd_op ?_ | with_reducible refine wd_cb ?_ | with_reducible refine wa_cons ?_ | with_reducible refine wa_nil ?_ | with_reducible refine ws_seq ?_ | refine ws_set (by decide) ?_ | with_reducible refine ws_ret ?_ | with_reducible refine ws_if ?_ | with_reducible refine ws_next ?_ | with_reducible refine wt_rng ?_ | with_reducible refine wt_test ?_ | with_reducible refine wt_B ?_ | with_reducible refine wt_and ?_ | with_reducible refine wt_or ?_ | with_reducible refine wt_not ?_ | with_reducible refine wt_tru ?_ | with_reducible refine wd_if ?_ | with_reducible refine wd_andV ?_ | with_reducible refine wd_orV ?_ | with_reducible refine wd_notV ?_ | with_reducible refine wd_chain ?_ | with_reducible refine wd_tup ?_ | with_reducible refine wd_lst ?_ | with_reducible refine wd_un ?_ | with_reducible refine wd_bm ?_ | with_reducible refine wd_sl ?_ | with_reducible refine wo_none ?_ | with_reducible refine wo_some ?_ | with_reducible refine ws_asg ?_ | refine wg_tup rfl ?_ | with_reducible refine wgs_cons ?_ | with_reducible refine wgs_nil ?_ | refine wg_name (by decide) ?_ | with_reducible refine o_eqS ?_ | with_reducible refine o_neS ?_ | with_reducible refine o_eqI ?_ | with_reducible refine o_neI ?_ | refine o_isN rfl ?_ | refine o_notN rfl ?_ | refine o_ixT rfl ?_ | with_reducible refine o_addI ?_ | with_reducible refine o_I0b ?_ | with_reducible refine o_I0i ?_ | with_reducible refine un_negI ?_ | with_reducible refine s_lst ?_ | with_reducible refine wt_yes ?_ | refine c_len rfl (by first | omega | (simp <;> omega)) ?_ | refine o_addL (by first | omega | (simp <;> omega)) ?_ | refine ite_t rfl ?_ | refine ite_f rfl ?_ | refine ite_t (by decide +kernel) ?_ | refine ite_f (by decide +kernel) ?_ | refine o_inT rfl rfl ?_ | refine o_notInT rfl rfl ?_ | refine ⟨_, rfl, ?_⟩ | refine ⟨Nat.le_of_ble_eq_true rfl, ?_⟩ | refine ⟨fun _ _ _ => ty_lst, ?_⟩))
            refine ite_b (fun h => ?_) (fun h => ?_)
            · (repeat (first | refine wd_var rfl (by decide) ?_ | with_reducible refine wd_int ?_ | with_reducible refine wd_str ?_ | with_reducible refine wd_bl ?_ | with_reducible refine wd_non ?_ | with_reducible refine wd_op ?_ | with_reducible refine wd_cb ?_ | with_reducible refine wa_cons ?_ | with_reducible refine wa_nil ?_ | with_reducible refine ws_seq ?_ | refine ws_set (by decide) ?_ | with_reducible refine ws_ret ?_ | with_reducible refine ws_if ?_ | with_reducible refine ws_next ?_ | with_reducible refine wt_rng ?_ | with_reducible refine wt_test ?_ | with_reducible refine wt_B ?_ | with_reducible refine wt_and ?_ | with_reducible refine wt_or ?_ | with_reducible refine wt_not ?_ | with_reducible refine wt_tru ?_ | with_reducible refine wd_if ?_ | with_reducible refine wd_andV ?_ | with_reducible refine wd_orV ?_ | with_reducible refine wd_notV ?_ | with_reducible refine wd_chain ?_ | with_reducible refine wd_tup ?_ | with_reducible refine wd_lst ?_ | with_reducible refine wd_un ?_ | with_reducible refine wd_bm ?_ | with_reducible refine wd_sl ?_ | with_reducible refine wo_none ?_ | with_reducible refine wo_some ?_ | with_reducible refine ws_asg ?_ | refine wg_tup rfl ?_ | with_reducible refine wgs_cons ?_ | with_reducible refine wgs_nil ?_ | refine wg_name (by decide) ?_ | with_reducible refine o_eqS ?_ | with_reducible refine o_neS ?_ | with_reducible refine o_eqI ?_ | with_reducible refine o_neI ?_ | refine o_isN rfl ?_ | refine o_notN rfl ?_ | refine o_ixT rfl ?_ | with_reducible refine o_addI ?_ | with_reducible refine o_I0b ?_ | with_reducible refine o_I0i ?_ | with_reducible refine un_negI ?_ | with_reducible refine s_lst ?_ | with_reducible refine wt_yes ?_ | refine c_len rfl (by first | omega | (simp <;> omega)) ?_ | refine o_addL (by first | omega | (simp <;> omega)) ?_ | refine ite_t rfl ?_ | refine ite_f rfl ?_ | refine ite_t (by decide +kernel) ?_ | refine ite_f (by decide +kernel) ?_ | refine o_inT rfl rfl ?_ | refine o_notInT rfl rfl ?_ | refine ⟨_, rfl, ?_⟩ | refine ⟨Nat.le_of_ble_eq_true rfl, ?_⟩ | refine ⟨fun _ _ _ => ty_lst, ?_⟩))
              cases r with
              | of ws => rfl
              | ot k s ex => exact absurd (of_decide_eq_true h) hro.1
            · (repeat (first | refine wd_var rfl (by decide) ?_ | with_reducible refine wd_int ?_ | with_reducible refine wd_str ?_ | with_reducible refine wd_bl ?_ | with_reducible refine wd_non ?_ | with_reducible refine wd_op ?_ | with_reducible refine wd_cb ?_ | with_reducible refine wa_cons ?_ | with_reducible refine wa_nil ?_ | with_reducible refine ws_seq ?_ | refine ws_set (by decide) ?_ | with_reducible refine ws_ret ?_ | with_reducible refine ws_if ?_ | with_reducible refine ws_next ?_ | with_reducible refine wt_rng ?_ | with_reducible refine wt_test ?_ | with_reducible refine wt_B ?_ | with_reducible refine wt_and ?_ | with_reducible refine wt_or ?_ | with_reducible refine wt_not ?_ | with_reducible refine wt_tru ?_ | with_reducible refine wd_if ?_ | with_reducible refine wd_andV ?_ | with_reducible refine wd_orV ?_ | with_reducible refine wd_notV ?_ | with_reducible refine wd_chain ?_ | with_reducible refine wd_tup ?_ | with_reducible refine wd_lst ?_ | with_reducible refine wd_un ?_ | with_reducible refine wd_bm ?_ | with_reducible refine wd_sl ?_ | with_reducible refine wo_none ?_ | with_reducible refine wo_some ?_ | with_reducible refine ws_asg ?_ | refine wg_tup rfl ?_ | with_reducible refine wgs_cons ?_ | with_reducible refine wgs_nil ?_ | refine wg_name (by decide) ?_ | with_reducible refine o_eqS ?_ | with_reducible refine o_neS ?_ | with_reducible refine o_eqI ?_ | with_reducible refine o_neI ?_ | refine o_isN rfl ?_ | refine o_notN rfl ?_ | refine o_ixT rfl ?_ | with_reducible refine o_addI ?_ | with_reducible refine o_I0b ?_ | with_reducible refine o_I0i ?_ | with_reducible refine un_negI ?_ | with_reducible refine s_lst ?_ | with_reducible refine wt_yes ?_ | refine c_len rfl (by first | omega | (simp <;> omega)) ?_ | refine o_addL (by first | omega | (simp <;> omega)) ?_ | refine ite_t rfl ?_ | refine ite_f rfl ?_ | refine ite_t (by decide +kernel) ?_ | refine ite_f (by decide +kernel) ?_ | refine o_inT rfl rfl ?_ | refine o_notInT rfl rfl ?_ | refine ⟨_, rfl, ?_⟩ | refine ⟨Nat.le_of_ble_eq_true rfl, ?_⟩ | refine ⟨fun _ _ _ => ty_lst, ?_⟩))
              cases r with
              | of ws => exact absurd rfl (of_decide_eq_false h)
              | ot k s ex => rfl
          · rintro m rfl
            refine ws_cut (fun m => m = [.fz (.lst (rs.map rpD)), nmT p (namesP (rs.take i)), .fz (.tup [.str r.kind, r.arg]), .fz (strsD r.ws), .un] ∧ goodPart r = true) ?_ ?_
            · refine ws_if (wt_or (wt_not (wt_rng ?_)))
              unfold strsD
              refine wd_cb (wa_cons (wd_var rfl (by decide) (wa_nil (c_len (m := r.ws.length) (by simp [lenD]) (by omega) ⟨_, rfl, ?_⟩))))
              refine ite_b (fun h => ?_) (fun h => ?_)
              · refine ite_t rfl (bad (badr ?_))
                have : (decide (1 ≤ r.ws.length) && decide (r.ws.length ≤ 4)) = false := by
                  have h2 : ¬ (1 ≤ r.ws.length ∧ r.ws.length ≤ 4) := by simp at h; omega
                  simp; omega
                rw [gw, this]; simp
              · have hlw : (decide (1 ≤ r.ws.length) && decide (r.ws.length ≤ 4)) = true := by
                  simp at h ⊢; omega
                refine wt_not (wt_B (wd_cb (wa_cons (wd_lcMap (by simp) (gok_name (by simp)) (wi_list (wd_var rfl (by decide) ⟨_, rfl, ?_⟩))))))
                refine ⟨by simp; omega, fun _ => true, fun d => match d with | .str y => .bl (isWordS y) | _ => .non, fun d hd => ?_, ?_⟩
                · obtain ⟨w, hm, rfl⟩ := List.mem_map.mp hd
                  refine wg_name (by decide) (wt_yes ⟨rfl, rfl, fun _ => ?_⟩)
                  exact wd_call [] (wa_cons (wd_var rfl (by decide) (wa_nil ⟨_, _, .nil, w, rfl, hwa w hm, _, _, .nil, _, rfl, rfl, rfl⟩)))
                · rw [filt_true]
                  have e : (r.ws.map D.str).map (fun d => match d with | .str y => D.bl (isWordS y) | _ => .non) = (r.ws.map isWordS).map .bl := by
                    rw [List.map_map, List.map_map]; rfl
                  rw [e]
                  refine wa_nil (c_all ⟨_, rfl, ?_⟩)
                  have e2 : (r.ws.map isWordS).all id = r.ws.all isWordS := by simp [List.all_map]
                  rw [e2]
                  have gk : (decide (r.kind = "word") || (decide (r.kind = "of") || (decide (r.kind = "one") || decide (r.kind = "any")))) = true := by simpa using hk
                  refine ite_b (fun h => bad (badr ?_)) (fun h => ws_next ⟨rfl, ?_⟩)
                  · rw [gw]; simp at h; simp [h]
                  · rw [gw, gk, hlw, hre]; simp at h; simpa using h
            · rintro m ⟨rfl, hgr⟩
              have hall : (rs.take (i + 1)).all goodPart = true := by rw [take1, List.all_append, hg]; simp [hgr]
              have hnm : namesP (rs.take (i + 1)) = namesP (rs.take i) ++ r.name := by rw [take1]; simp [namesP]
              rw [RP.name_eq hgr] at hnm
              (repeat (first | refine wd_var rfl (by decide) ?_ | with_reducible refine wd_int ?_ | with_reducible refine wd_str ?_ | with_reducible refine wd_bl ?_ | with_reducible refine wd_non ?_ | with_reducible refine wd_op ?_ | with_reducible refine wd_cb ?_ | with_reducible refine wa_cons ?_ | with_reducible refine wa_nil ?_ | with_reducible refine ws_seq ?_ | refine ws_set (by decide) ?_ | with_reducible refine ws_ret ?_ | with_reducible refine ws_if ?_ | with_reducible refine ws_next ?_ | with_reducible refine wt_rng ?_ | with_reducible refine wt_test ?_ | with_reducible refine wt_B ?_ | with_reducible refine wt_and ?_ | with_reducible refine wt_or ?_ | with_reducible refine wt_not ?_ | with_reducible refine wt_tru ?_ | with_reducible refine wd_if ?_ | with_reducible refine wd_andV ?_ | with_reducible refine wd_orV ?_ | with_reducible refine wd_notV ?_ | with_reducible refine wd_chain ?_ | with_reducible refine wd_tup ?_ | with_reducible refine wd_lst ?_ | with_reducible refine wd_un ?_ | with_reducible refine wd_bm ?_ | with_reducible refine wd_sl ?_ | with_reducible refine wo_none ?_ | with_reducible refine wo_some ?_ | with_reducible refine ws_asg ?_ | refine wg_tup rfl ?_ | with_reducible refine wgs_cons ?_ | with_reducible refine wgs_nil ?_ | refine wg_name (by decide) ?_ | with_reducible refine o_eqS ?_ | with_reducible refine o_neS ?_ | with_reducible refine o_eqI ?_ | with_reducible refine o_neI ?_ | refine o_isN rfl ?_ | refine o_notN rfl ?_ | refine o_ixT rfl ?_ | with_reducible refine o_addI ?_ | with_reducible refine o_I0b ?_ | with_reducible refine o_I0i ?_ | with_reducible refine un_negI ?_ | with_reducible refine s_lst ?_ | with_reducible refine wt_yes ?_ | refine c_len rfl (by first | omega | (simp <;> omega)) ?_ | refine o_addL (by first | omega | (simp <;> omega)) ?_ | refine ite_t rfl ?_ | refine ite_f rfl ?_ | refine ite_t (by decide +kernel) ?_ | refine ite_f (by decide +kernel) ?_ | refine o_inT rfl rfl ?_ | refine o_notInT rfl rfl ?_ | refine ⟨_, rfl, ?_⟩ | refine ⟨Nat.le_of_ble_eq_true rfl, ?_⟩ | refine ⟨fun _ _ _ => ty_lst, ?_⟩))
              have e : inD (.str r.kind) [.str "one", .str "any"] = r.isN := by
                rw [show [D.str "one", D.str "any"] = (["one", "any"] : List PySem.Str).map D.str from rfl, inD_strs]
                simp [RP.isN]
              rw [e]
              (repeat (first | refine wd_var rfl (by decide) ?_ | with_reducible refine wd_int ?_ | with_reducible refine wd_str ?_ | with_reducible refine wd_bl ?_ | with_reducible refine wd_non ?_ | with_reducible refine wd_op ?_ | with_reducible refine wd_cb ?_ | with_reducible refine wa_cons ?_ | with_reducible refine wa_nil ?_ | with_reducible refine ws_seq ?_ | refine ws_set (by decide) ?_ | with_reducible refine ws_ret ?_ | with_reducible refine ws_if ?_ | with_reducible refine ws_next ?_ | with_reducible refine wt_rng ?_ | with_reducible refine wt_test ?_ | with_reducible refine wt_B ?_ | with_reducible refine wt_and ?_ | with_reducible refine wt_or ?_ | with_reducible refine wt_not ?_ | with_reducible refine wt_tru ?_ | with_reducible refine wd_if ?_ | with_reducible refine wd_andV ?_ | with_reducible refine wd_orV ?_ | with_reducible refine wd_notV ?_ | with_reducible refine wd_chain ?_ | with_reducible refine wd_tup ?_ | with_reducible refine wd_lst ?_ | with_reducible refine wd_un ?_ | with_reducible refine wd_bm ?_ | with_reducible refine wd_sl ?_ | with_reducible refine wo_none ?_ | with_reducible refine wo_some ?_ | with_reducible refine ws_asg ?_ | refine wg_tup rfl ?_ | with_reducible refine wgs_cons ?_ | with_reducible refine wgs_nil ?_ | refine wg_name (by decide) ?_ | with_reducible refine o_eqS ?_ | with_reducible refine o_neS ?_ | with_reducible refine o_eqI ?_ | with_reducible refine o_neI ?_ | refine o_isN rfl ?_ | refine o_notN rfl ?_ | refine o_ixT rfl ?_ | with_reducible refine o_addI ?_ | with_reducible refine o_I0b ?_ | with_reducible refine o_I0i ?_ | with_reducible refine un_negI ?_ | with_reducible refine s_lst ?_ | with_reducible refine wt_yes ?_ | refine c_len rfl (by first | omega | (simp <;> omega)) ?_ | refine o_addL (by first | omega | (simp <;> omega)) ?_ | refine ite_t rfl ?_ | refine ite_f rfl ?_ | refine ite_t (by decide +kernel) ?_ | refine ite_f (by decide +kernel) ?_ | refine o_inT rfl rfl ?_ | refine o_notInT rfl rfl ?_ | refine ⟨_, rfl, ?_⟩ | refine ⟨Nat.le_of_ble_eq_true rfl, ?_⟩ | refine ⟨fun _ _ _ => ty_lst, ?_⟩))
              refine ite_b (fun h => ?_) (fun h => ?_)
              · refine ws_append (by decide) rfl ?_
                (repeat (first | refine wd_var rfl (by decide) ?_ | with_reducible refine wd_int ?_ | with_reducible refine wd_str ?_ | with_reducible refine wd_bl ?_ | with_reducible refine wd_non ?_ | with_reducible refine wd_op ?_ | with_reducible refine wd_cb ?_ | with_reducible refine wa_cons ?_ | with_reducible refine wa_nil ?_ | with_reducible refine ws_seq ?_ | refine ws_set (by decide) ?_ | with_reducible refine ws_ret ?_ | with_reducible refine ws_if ?_ | with_reducible refine ws_next ?_ | with_reducible refine wt_rng ?_ | with_reducible refine wt_test ?_ | with_reducible refine wt_B ?_ | with_reducible refine wt_and ?_ | with_reducible refine wt_or ?_ | with_reducible refine wt_not ?_ | with_reducible refine wt_tru ?_ | with_reducible refine wd_if ?_ | with_reducible refine wd_andV ?_ | with_reducible refine wd_orV ?_ | with_reducible refine wd_notV ?_ | with_reducible refine wd_chain ?_ | with_reducible refine wd_tup ?_ | with_reducible refine wd_lst ?_ | with_reducible refine wd_un ?_ | with_reducible refine wd_bm ?_ | with_reducible refine wd_sl ?_ | with_reducible refine wo_none ?_ | with_reducible refine wo_some ?_ | with_reducible refine ws_asg ?_ | refine wg_tup rfl ?_ | with_reducible refine wgs_cons ?_ | with_reducible refine wgs_nil ?_ | refine wg_name (by decide) ?_ | with_reducible refine o_eqS ?_ | with_reducible refine o_neS ?_ | with_reducible refine o_eqI ?_ | with_reducible refine o_neI ?_ | refine o_isN rfl ?_ | refine o_notN rfl ?_ | refine o_ixT rfl ?_ | with_reducible refine o_addI ?_ | with_reducible refine o_I0b ?_ | with_reducible refine o_I0i ?_ | with_reducible refine un_negI ?_ | with_reducible refine s_lst ?_ | with_reducible refine wt_yes ?_ | refine c_len rfl (by first | omega | (simp <;> omega)) ?_ | refine o_addL (by first | omega | (simp <;> omega)) ?_ | refine ite_t rfl ?_ | refine ite_f rfl ?_ | refine ite_t (by decide +kernel) ?_ | refine ite_f (by decide +kernel) ?_ | refine o_inT rfl rfl ?_ | refine o_notInT rfl rfl ?_ | refine ⟨_, rfl, ?_⟩ | refine ⟨Nat.le_of_ble_eq_true rfl, ?_⟩ | refine ⟨fun _ _ _ => ty_lst, ?_⟩))
                rw [h, if_pos rfl] at hnm
                have hnl : (namesP (rs.take i)).length ≤ 1000 := by
                  have : ∀ l : List RP, (namesP l).length ≤ l.length := names_len
                  have := this (rs.take i)
                  simp at this; omega
                refine ⟨by simp; omega, .fz (.tup [.str r.kind, r.arg]), .fz (strsD r.ws), ?_, hall⟩
                rw [hnm]
                cases r with
                | of ws =>
                  exfalso
                  have h1 : decide (PySem.Str.ofString "of" = PySem.Str.ofString "one") = false := by decide +kernel
                  have h2 : decide (PySem.Str.ofString "of" = PySem.Str.ofString "any") = false := by decide +kernel
                  simp only [RP.isN, RP.kind, h1, h2] at h
                  cases h
                | ot k s ex => simp [nmT, RP.ws, RP.arg]
              · rw [h, if_neg Bool.false_ne_true, List.append_nil] at hnm
                exact ws_next ⟨_, _, by rw [hnm], hall⟩
      · rintro m ⟨z2, z3, rfl, hg⟩
        have : rs.take (rs.map rpD).length = rs := List.take_of_length_le (by simp)
        rw [this] at hg ⊢
        exact ⟨_, _, rfl, hg⟩
    · rintro m ⟨z2, z3, rfl, hg⟩
      have hnl := names_len rs
      have hle := ddN_le (namesP rs) []
      refine ws_if (wt_test (wd_view (wd_op (wd_lenSet (wd_var rfl (by decide) ⟨namesP rs, by rw [toD_lst], by omega, ?_⟩)))))
      refine wd_cb (wa_cons (wd_var rfl (by decide) (wa_nil (c_len (m := (namesP rs).length) (by rw [toD_lst]; simp [lenD]) (by omega) (o_I0b ⟨rfl, _, rfl, ?_⟩)))))
      have gp : goodP rs = decide (ddN [] (namesP rs) = (namesP rs).length) := by
        unfold goodP
        rw [hg]
        simp [hlen.1, hlen.2]
      refine ite_b (fun h => bad ?_) (fun h => ws_next ⟨_, .fz .nil, hP ?_⟩)
      · rw [gp]; simp at h ⊢; omega
      · rw [gp]; simp at h ⊢; omega
/-! ### taking words -/
def takesB : RP → PySem.Str → Bool
  | .of ws, w => decide (w ∈ ws)
  | .ot k s _, w => if k = "one" then true else decide (w = s)
def fs_takes (K : PySem.W.Frag) : FS := fun ms P X => ∃ r w, ms = [.fz (rpD r), .fz (.str w)] ∧ r.ok ∧ goodPart r = true ∧ P (.fz (.bl (takesB r w))) ms
/-- takes: slots 0 part, 1 word -/
def t_takes (K : PySem.W.Frag) : WX → TS := fun W => (tSeq (tIfS (tTest (tOp (rEqA K) (tOp (rIxA K) (tVar 0) (tC (.int 0))) (tC (.str "one")))) (tRet (tC (.bl true))) tNext) (tRet (tIf (tTest (tOp (rEqA K) (tOp (rIxA K) (tVar 0) (tC (.int 0))) (tC (.str "of")))) (tOp (rInA K) (tVar 1) (tOp (rIxA K) (tVar 0) (tC (.int 1)))) (tOp (rEqA K) (tVar 1) (tOp (rIxA K) (tVar 0) (tC (.int 1)))))))
theorem good_rp {r : RP} (h : goodPart r = true) : rpD r = .tup [.str r.kind, r.arg] := by
  cases r with
  | of ws => rfl
  | ot k s ex =>
    simp [goodPart] at h
    have := h.1.1
    subst this
    rfl
theorem h_takes {K : PySem.W.Frag} : FsOk K 2 2 (fs_takes K) (t_takes K) := by
  intro ms P X hf
  obtain ⟨r, w, rfl, hok, hg, hP⟩ := hf
  refine ⟨rfl, ?_⟩
  unfold t_takes
  have fin : ∀ {b : Bool}, b = takesB r w → ∃ ms', Back [.fz (rpD r), .fz (.str w)] [.fz (rpD r), .fz (.str w)] ms' ∧ P (.fz (.bl b)) ms' := fun e => ⟨_, .fz (.fz .nil), e ▸ hP⟩
  rw [good_rp hg] at *
  (repeat (first | refine wd_var rfl (by decide) ?_ | with_reducible refine wd_int ?_ | with_reducible refine wd_str ?_ | with_reducible refine wd_bl ?_ | with_reducible refine wd_non ?_ | with_reducible refine wd_op ?_ | with_reducible refine wd_cb ?_ | with_reducible refine wa_cons ?_ | with_reducible refine wa_nil ?_ | with_reducible refine ws_seq ?_ | refine ws_set (by decide) ?_ | with_reducible refine ws_ret ?_ | with_reducible refine ws_if ?_ | with_reducible refine ws_next ?_ | with_reducible refine wt_rng ?_ | with_reducible refine wt_test ?_ | with_reducible refine wt_B ?_ | with_reducible refine wt_and ?_ | with_reducible refine wt_or ?_ | with_reducible refine wt_not ?_ | with_reducible refine wt_tru ?_ | with_reducible refine wd_if ?_ | with_reducible refine wd_andV ?_ | with_reducible refine wd_orV ?_ | with_reducible refine wd_notV ?_ | with_reducible refine wd_chain ?_ | with_reducible refine wd_tup ?_ | with_reducible refine wd_lst ?_ | with_reducible refine wd_un ?_ | with_reducible refine wd_bm ?_ | with_reducible refine wd_sl ?_ | with_reducible refine wo_none ?_ | with_reducible refine wo_some ?_ | with_reducible refine ws_asg ?_ | refine wg_tup rfl ?_ | with_reducible refine wgs_cons ?_ | with_reducible refine wgs_nil ?_ | refine wg_name (by decide) ?_ | with_reducible refine o_eqS ?_ | with_reducible refine o_neS ?_ | with_reducible refine o_eqI ?_ | with_reducible refine o_neI ?_ | refine o_isN rfl ?_ | refine o_notN rfl ?_ | refine o_ixT rfl ?_ | with_reducible refine o_addI ?_ | with_reducible refine o_I0b ?_ | with_reducible refine o_I0i ?_ | with_reducible refine un_negI ?_ | with_reducible refine s_lst ?_ | with_reducible refine wt_yes ?_ | refine c_len rfl (by first | omega | (simp <;> omega)) ?_ | refine o_addL (by first | omega | (simp <;> omega)) ?_ | refine ite_t rfl ?_ | refine ite_f rfl ?_ | refine ite_t (by decide +kernel) ?_ | refine ite_f (by decide +kernel) ?_ | refine o_inT rfl rfl ?_ | refine o_notInT rfl rfl ?_ | refine ⟨_, rfl, ?_⟩ | refine ⟨Nat.le_of_ble_eq_true rfl, ?_⟩ | refine ⟨fun _ _ _ => ty_lst, ?_⟩))
  refine ite_b (fun h => ?_) (fun h => ?_)
  · (repeat (first | refine wd_var rfl (by decide) ?_ | with_reducible refine wd_int ?_ | with_reducible refine wd_str ?_ | with_reducible refine wd_bl ?_ | with_reducible refine wd_non ?_ | with_reducible refine wd_op ?_ | with_reducible refine wd_cb ?_ | with_reducible refine wa_cons ?_ | with_reducible refine wa_nil ?_ | with_reducible refine ws_seq ?_ | refine ws_set (by decide) ?_ | with_reducible refine ws_ret ?_ | with_reducible refine ws_if ?_ | with_reducible refine ws_next ?_ | with_reducible refine wt_rng ?_ | with_reducible refine wt_test ?_ | with_reducible refine wt_B ?_ | with_reducible refine wt_and ?_ | with_reducible refine wt_or ?_ | with_reducible refine wt_not ?_ | with_reducible refine wt_tru ?_ | with_reducible refine wd_if ?_ | with_reducible refine wd_andV ?_ | with_reducible refine wd_orV ?_ | with_reducible refine wd_notV ?_ | with_reducible refine wd_chain ?_ | with_reducible refine wd_tup ?_ | with_reducible refine wd_lst ?_ | with_reducible refine wd_un ?_ | with_reducible refine wd_bm ?_ | with_reducible refine wd_sl ?_ | with_reducible refine wo_none ?_ | with_reducible refine wo_some ?_ | with_reducible refine ws_asg ?_ | refine wg_tup rfl ?_ | with_reducible refine wgs_cons ?_ | with_reducible refine wgs_nil ?_ | refine wg_name (by decide) ?_ | with_reducible refine o_eqS ?_ | with_reducible refine o_neS ?_ | with_reducible refine o_eqI ?_ | with_reducible refine o_neI ?_ | refine o_isN rfl ?_ | refine o_notN rfl ?_ | refine o_ixT rfl ?_ | with_reducible refine o_addI ?_ | with_reducible refine o_I0b ?_ | with_reducible refine o_I0i ?_ | with_reducible refine un_negI ?_ | with_reducible refine s_lst ?_ | with_reducible refine wt_yes ?_ | refine c_len rfl (by first | omega | (simp <;> omega)) ?_ | refine o_addL (by first | omega | (simp <;> omega)) ?_ | refine ite_t rfl ?_ | refine ite_f rfl ?_ | refine ite_t (by decide +kernel) ?_ | refine ite_f (by decide +kernel) ?_ | refine o_inT rfl rfl ?_ | refine o_notInT rfl rfl ?_ | refine ⟨_, rfl, ?_⟩ | refine ⟨Nat.le_of_ble_eq_true rfl, ?_⟩ | refine ⟨fun _ _ _ => ty_lst, ?_⟩))
    refine fin ?_
    have hk := of_decide_eq_true h
    cases r with
    | of ws => exact absurd hk (show ¬ (("of" : PySem.Str) = "one") by decide +kernel)
    | ot k s ex => simp only [RP.kind] at hk; simp [takesB, hk]
  · (repeat (first | refine wd_var rfl (by decide) ?_ | with_reducible refine wd_int ?_ | with_reducible refine wd_str ?_ | with_reducible refine wd_bl ?_ | with_reducible refine wd_non ?_ | with_reducible refine wd_op ?_ | with_reducible refine wd_cb ?_ | with_reducible refine wa_cons ?_ | with_reducible refine wa_nil ?_ | with_reducible refine ws_seq ?_ | refine ws_set (by decide) ?_ | with_reducible refine ws_ret ?_ | with_reducible refine ws_if ?_ | with_reducible refine ws_next ?_ | with_reducible refine wt_rng ?_ | with_reducible refine wt_test ?_ | with_reducible refine wt_B ?_ | with_reducible refine wt_and ?_ | with_reducible refine wt_or ?_ | with_reducible refine wt_not ?_ | with_reducible refine wt_tru ?_ | with_reducible refine wd_if ?_ | with_reducible refine wd_andV ?_ | with_reducible refine wd_orV ?_ | with_reducible refine wd_notV ?_ | with_reducible refine wd_chain ?_ | with_reducible refine wd_tup ?_ | with_reducible refine wd_lst ?_ | with_reducible refine wd_un ?_ | with_reducible refine wd_bm ?_ | with_reducible refine wd_sl ?_ | with_reducible refine wo_none ?_ | with_reducible refine wo_some ?_ | with_reducible refine ws_asg ?_ | refine wg_tup rfl ?_ | with_reducible refine wgs_cons ?_ | with_reducible refine wgs_nil ?_ | refine wg_name (by decide) ?_ | with_reducible refine o_eqS ?_ | with_reducible refine o_neS ?_ | with_reducible refine o_eqI ?_ | with_reducible refine o_neI ?_ | refine o_isN rfl ?_ | refine o_notN rfl ?_ | refine o_ixT rfl ?_ | with_reducible refine o_addI ?_ | with_reducible refine o_I0b ?_ | with_reducible refine o_I0i ?_ | with_reducible refine un_negI ?_ | with_reducible refine s_lst ?_ | with_reducible refine wt_yes ?_ | refine c_len rfl (by first | omega | (simp <;> omega)) ?_ | refine o_addL (by first | omega | (simp <;> omega)) ?_ | refine ite_t rfl ?_ | refine ite_f rfl ?_ | refine ite_t (by decide +kernel) ?_ | refine ite_f (by decide +kernel) ?_ | refine o_inT rfl rfl ?_ | refine o_notInT rfl rfl ?_ | refine ⟨_, rfl, ?_⟩ | refine ⟨Nat.le_of_ble_eq_true rfl, ?_⟩ | refine ⟨fun _ _ _ => ty_lst, ?_⟩))
    refine ite_b (fun h2 => ?_) (fun h2 => ?_)
    · have hk := of_decide_eq_true h2
      cases r with
      | of ws =>
        (repeat (first | refine wd_var rfl (by decide) ?_ | with_reducible refine wd_int ?_ | with_reducible refine wd_str ?_ | with_reducible refine wd_bl ?_ | with_reducible refine wd_non ?_ | with_reducible refine wd_op ?_ | with_reducible refine wd_cb ?_ | with_reducible refine wa_cons ?_ | with_reducible refine wa_nil ?_ | with_reducible refine ws_seq ?_ | refine ws_set (by decide) ?_ | with_reducible refine ws_ret ?_ | with_reducible refine ws_if ?_ | with_reducible refine ws_next ?_ | with_reducible refine wt_rng ?_ | with_reducible refine wt_test ?_ | with_reducible refine wt_B ?_ | with_reducible refine wt_and ?_ | with_reducible refine wt_or ?_ | with_reducible refine wt_not ?_ | with_reducible refine wt_tru ?_ | with_reducible refine wd_if ?_ | with_reducible refine wd_andV ?_ | with_reducible refine wd_orV ?_ | with_reducible refine wd_notV ?_ | with_reducible refine wd_chain ?_ | with_reducible refine wd_tup ?_ | with_reducible refine wd_lst ?_ | with_reducible refine wd_un ?_ | with_reducible refine wd_bm ?_ | with_reducible refine wd_sl ?_ | with_reducible refine wo_none ?_ | with_reducible refine wo_some ?_ | with_reducible refine ws_asg ?_ | refine wg_tup rfl ?_ | with_reducible refine wgs_cons ?_ | with_reducible refine wgs_nil ?_ | refine wg_name (by decide) ?_ | with_reducible refine o_eqS ?_ | with_reducible refine o_neS ?_ | with_reducible refine o_eqI ?_ | with_reducible refine o_neI ?_ | refine o_isN rfl ?_ | refine o_notN rfl ?_ | refine o_ixT rfl ?_ | with_reducible refine o_addI ?_ | with_reducible refine o_I0b ?_ | with_reducible refine o_I0i ?_ | with_reducible refine un_negI ?_ | with_reducible refine s_lst ?_ | with_reducible refine wt_yes ?_ | refine c_len rfl (by first | omega | (simp <;> omega)) ?_ | refine o_addL (by first | omega | (simp <;> omega)) ?_ | refine ite_t rfl ?_ | refine ite_f rfl ?_ | refine ite_t (by decide +kernel) ?_ | refine ite_f (by decide +kernel) ?_ | refine o_inT rfl rfl ?_ | refine o_notInT rfl rfl ?_ | refine ⟨_, rfl, ?_⟩ | refine ⟨Nat.le_of_ble_eq_true rfl, ?_⟩ | refine ⟨fun _ _ _ => ty_lst, ?_⟩))
        refine o_inL rfl (by simp [List.all_map]; intro _ _; rfl) ?_
        rw [inD_strs]
        exact fin rfl
      | ot k s ex => exact absurd hk hok.1
    · have hk := of_decide_eq_false h2
      have hk1 := of_decide_eq_false h
      cases r with
      | of ws => exact absurd rfl hk
      | ot k s ex =>
        (repeat (first | refine wd_var rfl (by decide) ?_ | with_reducible refine wd_int ?_ | with_reducible refine wd_str ?_ | with_reducible refine wd_bl ?_ | with_reducible refine wd_non ?_ | with_reducible refine wd_op ?_ | with_reducible refine wd_cb ?_ | with_reducible refine wa_cons ?_ | with_reducible refine wa_nil ?_ | with_reducible refine ws_seq ?_ | refine ws_set (by decide) ?_ | with_reducible refine ws_ret ?_ | with_reducible refine ws_if ?_ | with_reducible refine ws_next ?_ | with_reducible refine wt_rng ?_ | with_reducible refine wt_test ?_ | with_reducible refine wt_B ?_ | with_reducible refine wt_and ?_ | with_reducible refine wt_or ?_ | with_reducible refine wt_not ?_ | with_reducible refine wt_tru ?_ | with_reducible refine wd_if ?_ | with_reducible refine wd_andV ?_ | with_reducible refine wd_orV ?_ | with_reducible refine wd_notV ?_ | with_reducible refine wd_chain ?_ | with_reducible refine wd_tup ?_ | with_reducible refine wd_lst ?_ | with_reducible refine wd_un ?_ | with_reducible refine wd_bm ?_ | with_reducible refine wd_sl ?_ | with_reducible refine wo_none ?_ | with_reducible refine wo_some ?_ | with_reducible refine ws_asg ?_ | refine wg_tup rfl ?_ | with_reducible refine wgs_cons ?_ | with_reducible refine wgs_nil ?_ | refine wg_name (by decide) ?_ | with_reducible refine o_eqS ?_ | with_reducible refine o_neS ?_ | with_reducible refine o_eqI ?_ | with_reducible refine o_neI ?_ | refine o_isN rfl ?_ | refine o_notN rfl ?_ | refine o_ixT rfl ?_ | with_reducible refine o_addI ?_ | with_reducible refine o_I0b ?_ | with_reducible refine o_I0i ?_ | with_reducible refine un_negI ?_ | with_reducible refine s_lst ?_ | with_reducible refine wt_yes ?_ | refine c_len rfl (by first | omega | (simp <;> omega)) ?_ | refine o_addL (by first | omega | (simp <;> omega)) ?_ | refine ite_t rfl ?_ | refine ite_f rfl ?_ | refine ite_t (by decide +kernel) ?_ | refine ite_f (by decide +kernel) ?_ | refine o_inT rfl rfl ?_ | refine o_notInT rfl rfl ?_ | refine ⟨_, rfl, ?_⟩ | refine ⟨Nat.le_of_ble_eq_true rfl, ?_⟩ | refine ⟨fun _ _ _ => ty_lst, ?_⟩))
        refine o_eqS (fin ?_)
        simp only [RP.kind] at hk1
        simp [takesB, hk1]
/-- how many words each part takes: the least way -/
def mfL : List RP → List PySem.Str → Option (List Nat)
  | [], ws => if ws = [] then some [] else none
  | r :: ps, ws =>
    if r.kind = "any" then (List.range (ws.length + 1)).findSome? fun k => (mfL ps (ws.drop k)).map (k :: ·)
    else match ws with
      | [] => none
      | w :: ws => if takesB r w then (mfL ps ws).map (1 :: ·) else none
def optD : Option (List Nat) → D
  | none => .non
  | some r => rowD r
theorem mfL_len : ∀ (ps : List RP) (ws : List PySem.Str) (r : List Nat), mfL ps ws = some r → r.length = ps.length
  | [], ws, r, h => by
    simp only [mfL] at h
    split at h
    · cases h; rfl
    · cases h
  | p :: ps, ws, r, h => by
    simp only [mfL] at h
    split at h
    · obtain ⟨k, _, hk⟩ := List.exists_of_findSome?_eq_some h
      cases q : mfL ps (ws.drop k) with
      | none => rw [q] at hk; cases hk
      | some r' =>
        rw [q] at hk
        cases hk
        simp [mfL_len ps _ _ q]
    · cases ws with
      | nil => cases h
      | cons w ws =>
        simp only at h
        split at h
        · cases q : mfL ps ws with
          | none => rw [q] at h; cases h
          | some r' =>
            rw [q] at h
            cases h
            simp [mfL_len ps _ _ q]
        · cases h
def fs_match_from (K : PySem.W.Frag) : Nat → FS
  | 0 => fun _ _ _ => False
  | m + 1 => fun ms P X => ∃ rs ws, ms = [.fz (patD rs), .fz (strsD ws)] ∧ rs.length ≤ m ∧ rs.length ≤ 100 ∧ ws.length ≤ 1000 ∧ (∀ r ∈ rs, r.ok ∧ goodPart r = true) ∧ P (.fz (optD (mfL rs ws))) ms
theorem h0_match_from {K : PySem.W.Frag} (ms : List MV) (P : MV → List MV → Prop) (X : XP) : ¬ fs_match_from K 0 ms P X := id
/-- match_from: slots 0 pattern, 1 words, 2 rest, 3 many -/
def t_match_from (K : PySem.W.Frag) (m : Nat) : WX → TS := fun W => (tSeq (tIfS (tNot (tTru K (tVar 0))) (tRet (tIf (tNot (tTru K (tVar 1))) (tLst tNil) (tC .non))) tNext) (tSeq (tIfS (tTest (tOp (rNeA K) (tOp (rIxA K) (tOp (rIxA K) (tVar 0) (tC (.int 0))) (tC (.int 0))) (tC (.str "any")))) (tSeq (tIfS (tOr (tNot (tTru K (tVar 1))) (tNot (tB (tCallS (SpM K (fs_takes K)) (WE W) (tCons (tOp (rIxA K) (tVar 0) (tC (.int 0))) (tCons (tOp (rIxA K) (tVar 1) (tC (.int 0))) tNil)))))) (tRet (tC .non)) tNext) (tSeq (tAsg (tCallS (SpM K (fs_match_from K m)) (WE W) (tCons (L2.tSl (rSlA' K) (tVar 0) (tPart (tC (.int 1))) tNoPart) (tCons (L2.tSl (rSlA' K) (tVar 1) (tPart (tC (.int 1))) tNoPart) tNil))) (gName 2)) (tRet (tIf (tTest (tOp rIsN (tVar 2) (tC .non))) (tC .non) (tOp (rAddA K) (tLst (tCons (tC (.int 1)) tNil)) (tVar 2)))))) tNext) (tSeq (tFor (iRng1 (tCons (tOp (rAddA K) (tCB (rLenA K) (tCons (tVar 1) tNil)) (tC (.int 1))) tNil)) (gName 3) (tSeq (tAsg (tCallS (SpM K (fs_match_from K m)) (WE W) (tCons (L2.tSl (rSlA' K) (tVar 0) (tPart (tC (.int 1))) tNoPart) (tCons (L2.tSl (rSlA' K) (tVar 1) (tPart (tVar 3)) tNoPart) tNil))) (gName 2)) (tIfS (tTest (tOp rNotN (tVar 2) (tC .non))) (tRet (tOp (rAddA K) (tLst (tCons (tVar 3) tNil)) (tVar 2))) tNext))) (tRet (tC .non)))))
theorem lenD_strs (ws : List PySem.Str) : lenD (strsD ws) = some ws.length := by simp [lenD, strsD]
theorem sIx_nat' (n d k : Nat) : HT.sIx n d (some (k : Int)) = min k n := by
  unfold HT.sIx
  simp only
  split <;> omega
theorem cut_drop (l : List D) (k : Nat) : cutD l (some (k : Int)) none = l.drop k := by
  unfold cutD
  rw [sIx_nat']
  show (l.drop (min k l.length)).take (l.length - min k l.length) = l.drop k
  rcases Nat.le_total k l.length with h | h
  · rw [Nat.min_eq_left h]
    exact List.take_of_length_le (by simp)
  · rw [Nat.min_eq_right h, List.drop_eq_nil_of_le (Nat.le_refl _), List.drop_eq_nil_of_le h]
    simp
theorem cut_both (l : List D) (k j : Nat) (h : k ≤ j) : cutD l (some (k : Int)) (some (j : Int)) = (l.drop k).take (j - k) := by
  unfold cutD
  rw [sIx_nat', sIx_nat']
  rcases Nat.le_total k l.length with h1 | h1
  · rw [Nat.min_eq_left h1]
    rcases Nat.le_total j l.length with h2 | h2
    · rw [Nat.min_eq_left h2]
    · rw [Nat.min_eq_right h2, List.take_of_length_le (by simp), List.take_of_length_le (by simp; omega)]
  · rw [Nat.min_eq_right h1, List.drop_eq_nil_of_le (Nat.le_refl _), List.drop_eq_nil_of_le h1]
    simp
theorem h_match_from {K : PySem.W.Frag} (m : Nat) : FsOk K 2 4 (fs_match_from K (m + 1)) (t_match_from K m) := by
  intro ms P X hf
  obtain ⟨rs, ws, rfl, hm, h100, hwl, hok, hP⟩ := hf
  refine ⟨rfl, ?_⟩
  unfold t_match_from
  have fin : ∀ {d : D} {a b : MV}, d = optD (mfL rs ws) → ∃ ms', Back [.fz (patD rs), .fz (strsD ws)] [.fz (patD rs), .fz (strsD ws), a, b] ms' ∧ P (.fz d) ms' := fun e => ⟨_, .fz (.fz .nil), e ▸ hP⟩
  cases rs with
  | nil =>
    refine ws_seq (ws_if (wt_not (wt_tru (wd_var rfl (by decide) ⟨false, rfl, ite_t rfl (ws_ret (wd_if (wt_not (wt_tru (wd_var rfl (by decide) ⟨!ws.isEmpty, ?_, ?_⟩)))))⟩))))
    · cases ws <;> rfl
    · cases ws with
      | nil => exact ite_t rfl (wd_lst (wa_nil ⟨by decide, fin rfl⟩))
      | cons w ws => exact ite_f rfl (wd_non (fin rfl))
  | cons r ps =>
    obtain ⟨m, rfl⟩ : ∃ m', m = m' + 1 := ⟨m - 1, by simp at hm; omega⟩
    have hr := hok r List.mem_cons_self
    have hps : ∀ r ∈ ps, r.ok ∧ goodPart r = true := fun x hx => hok x (List.mem_cons_of_mem _ hx)
    have hlp : ps.length ≤ m ∧ ps.length ≤ 100 := by simp at hm h100; omega
    refine ws_seq (ws_if (wt_not (wt_tru (wd_var rfl (by decide) ⟨true, rfl, ite_f rfl (ws_next ?_)⟩))))
    have kind : rpD r = .tup [.str r.kind, r.arg] := good_rp hr.2
    have hd0 : atI ((r :: ps).map rpD) 0 = some (.tup [.str r.kind, r.arg]) := by rw [← kind]; exact atI_zero _ _
    refine ws_seq (ws_if (wt_test (wd_op (wd_op (wd_op (wd_var rfl (by decide) (wd_int (o_ixL hd0 (wd_int (o_ixT rfl (wd_str (o_neS ⟨_, rfl, ?_ ⟩))))))))))))
    have cutP : cutD ((r :: ps).map rpD) (some 1) none = ps.map rpD := by
      have := cut_drop ((r :: ps).map rpD) 1
      simpa using this
    refine ite_b (fun h => ?_) (fun h => ws_next ?_)
    · have hk : r.kind ≠ "any" := fun z => by simp [z] at h
      cases ws with
      | nil =>
        refine ws_seq (ws_if (wt_or (wt_not (wt_tru (wd_var rfl (by decide) ⟨false, rfl, ite_t rfl (ite_t rfl (ws_ret (wd_non (fin ?_)))) ⟩)))))
        simp [mfL, hk, optD]
      | cons w ws =>
        refine ws_seq (ws_if (wt_or (wt_not (wt_tru (wd_var rfl (by decide) ⟨true, rfl, ite_f rfl (wt_not (wt_B ?_ ))⟩)))))
        have hw0 : atI ((w :: ws).map D.str) 0 = some (.str w) := atI_zero _ _
        refine wd_call [] (wa_cons (wd_op (wd_var rfl (by decide) (wd_int (o_ixL hd0 (wa_cons (wd_op (wd_var rfl (by decide) (wd_int (o_ixL hw0 (wa_nil ⟨_, _, .nil, r, w, by rw [kind]; rfl, hr.1, hr.2, _, _, .nil, _, rfl, _, rfl, ?_ ⟩)))))))))))
        refine ite_b (fun h2 => ?_) (fun h2 => ws_next ?_)
        · refine ws_ret (wd_non (fin ?_))
          simp at h2
          simp [mfL, hk, h2, optD]
        · simp at h2
          have cutW : cutD ((w :: ws).map D.str) (some 1) none = ws.map D.str := by
            have := cut_drop ((w :: ws).map D.str) 1
            simpa using this
          refine ws_seq (ws_set (by decide) (wd_call [] (wa_cons (wd_sl (wd_var rfl (by decide) (wo_some (wd_int ⟨_, rfl, wo_none (s_lst (wa_cons (wd_sl (wd_var rfl (by decide) (wo_some (wd_int ⟨_, rfl, wo_none (s_lst (wa_nil ?_ ))⟩))))))⟩)))))))
          rw [cutP, cutW]
          refine ⟨_, _, .nil, ps, ws, rfl, hlp.1, hlp.2, by simp at hwl; omega, hps, _, _, .nil, _, rfl, ?_⟩
          cases q : mfL ps ws with
          | none =>
            refine ws_ret (wd_if (wt_test (wd_op (wd_var rfl (by decide) (wd_non (o_isN rfl ⟨_, rfl, ite_t rfl (wd_non (fin ?_)) ⟩))))))
            simp [mfL, hk, h2, q, optD]
          | some cs =>
            have hcl := mfL_len _ _ _ q
            refine ws_ret (wd_if (wt_test (wd_op (wd_var rfl (by decide) (wd_non (o_isN rfl ⟨_, rfl, ite_f rfl ?_ ⟩))))))
            refine wd_op (wd_lst (wa_cons (wd_int (wa_nil ⟨by decide, wd_var rfl (by decide) (o_addL (by simp; omega) (fin ?_)) ⟩))))
            simp [mfL, hk, h2, q, optD, rowD]
    · have hk : r.kind = "any" := by simpa using h
      have hmf : mfL (r :: ps) ws = (List.range (ws.length + 1)).findSome? fun k => (mfL ps (ws.drop k)).map (k :: ·) := by simp [mfL, hk]
      refine ws_cut (fun m => ((List.range (ws.length + 1)).findSome? fun k => (mfL ps (ws.drop k)).map (k :: ·)) = none ∧ ∃ z2 z3, m = [.fz (patD (r :: ps)), .fz (strsD ws), z2, z3]) ?_ ?_
      · refine ws_for (wi_rng1 (wa_cons (wd_op (wd_cb (wa_cons (wd_var rfl (by decide) (wa_nil (c_len (m := ws.length) (lenD_strs ws) (by omega) (wd_int (o_addI (wa_nil ⟨_, rfl, by omega, by omega, ?_ ⟩)))))))))))
        refine ⟨fun i m => ((List.range i).findSome? fun k => (mfL ps (ws.drop k)).map (k :: ·)) = none ∧ ∃ z2 z3, m = [.fz (patD (r :: ps)), .fz (strsD ws), z2, z3], ⟨rfl, _, _, rfl⟩, ?_, ?_⟩
        · rintro i d mm hd ⟨hn, z2, z3, rfl⟩
          obtain ⟨hi, rfl⟩ := rngD_at hd
          have hi' : i < ws.length + 1 := by omega
          have hnext : ((List.range (i + 1)).findSome? fun k => (mfL ps (ws.drop k)).map (k :: ·)) = (mfL ps (ws.drop i)).map (i :: ·) := by
            rw [List.range_succ, List.findSome?_append, hn]
            simp
          refine wg_name (by decide) (ws_seq (ws_set (by decide) (wd_call [] (wa_cons (wd_sl (wd_var rfl (by decide) (wo_some (wd_int ⟨_, rfl, wo_none (s_lst (wa_cons (wd_sl (wd_var rfl (by decide) (wo_some (wd_var rfl (by decide) ⟨_, rfl, wo_none (s_lst (wa_nil ?_ ))⟩))))))⟩))))))))
          have cutW : cutD (ws.map D.str) (some (0 + (i : Int))) none = (ws.drop i).map D.str := by
            rw [Int.zero_add, cut_drop, List.map_drop]
          rw [cutP, cutW]
          refine ⟨_, _, .nil, ps, ws.drop i, rfl, hlp.1, hlp.2, by simp; omega, hps, _, _, .nil, _, rfl, ?_⟩
          cases q : mfL ps (ws.drop i) with
          | none =>
            refine ws_if (wt_test (wd_op (wd_var rfl (by decide) (wd_non (o_notN rfl ⟨_, rfl, ite_f rfl (ws_next ⟨?_, _, _, rfl⟩) ⟩)))))
            rw [hnext, q]; rfl
          | some cs =>
            have hcl := mfL_len _ _ _ q
            refine ws_if (wt_test (wd_op (wd_var rfl (by decide) (wd_non (o_notN rfl ⟨_, rfl, ite_t rfl (ws_ret ?_) ⟩)))))
            refine wd_op (wd_lst (wa_cons (wd_var rfl (by decide) (wa_nil ⟨Nat.le_of_ble_eq_true rfl, wd_var rfl (by decide) (o_addL (by simp; omega) (fin ?_)) ⟩))))
            have hfs : ((List.range (ws.length + 1)).findSome? fun k => (mfL ps (ws.drop k)).map (k :: ·)) = some (i :: cs) := by
              have e : List.range (ws.length + 1) = List.range (i + 1) ++ (List.range' (i + 1) (ws.length - i)) := by
                have := List.range'_append_1 (s := 0) (m := i + 1) (n := ws.length - i)
                rw [Nat.zero_add] at this
                rw [List.range_eq_range', List.range_eq_range', this]
                congr 1; omega
              rw [e, List.findSome?_append, hnext, q]
              rfl
            rw [hmf, hfs]
            simp [optD, rowD]
        · rintro mm ⟨hn, z2, z3, rfl⟩
          have : (rngD 0 ((ws.length : Int) + 1).toNat).length = ws.length + 1 := by rw [rngD_len]; omega
          rw [this] at hn
          exact ⟨hn, _, _, rfl⟩
      · rintro mm ⟨hn, z2, z3, rfl⟩
        refine ws_ret (wd_non (fin ?_))
        rw [hmf, hn]
        rfl
/-! ### what the names get -/
def gotL : List RP → List Nat → List PySem.Str → List (PySem.Str × List PySem.Str)
  | r :: rs, c :: cs, ws => (if r.isN = true then r.ws.map fun s => (s, ws.take c) else []) ++ gotL rs cs (ws.drop c)
  | _, _, _ => []
def dicD (l : List (PySem.Str × List PySem.Str)) : D := .dic (l.map fun q => (Sum.inr q.1, strsD q.2))
def matD (rs : List RP) (ws : List PySem.Str) : D := match mfL rs ws with | none => .non | some cs => dicD (gotL rs cs ws)
def fs_match (K : PySem.W.Frag) : FS := fun ms P X => ∃ rs ws, ms = [.fz (patD rs), .fz (strsD ws)] ∧ rs.length ≤ 1000 ∧ ws.length ≤ 1000 ∧ (∀ r ∈ rs, r.ok) ∧ (goodP rs = true → P (.fz (matD rs ws)) ms) ∧ (goodP rs = false → X (.ref (He.ga K "BadPattern")) ms)
/-- match: slots 0 pattern, 1 words, 2 counts, 3 found, 4 at, 5 k -/
def t_match (K : PySem.W.Frag) : WX → TS := fun W => (tSeq (tDrop (tCallS (SpM K (fs_look_pattern K)) (WE W) (tCons (tVar 0) tNil))) (tSeq (tAsg (tCallS (SpM K (fs_match_from K 7)) (WE W) (tCons (tVar 0) (tCons (tVar 1) tNil))) (gName 2)) (tSeq (tIfS (tTest (tOp rIsN (tVar 2) (tC .non))) (tRet (tC .non)) tNext) (tSeq (tAsg tDNewK (gName 3)) (tSeq (tAsg (tC (.int 0)) (gName 4)) (tSeq (tFor (iRng1 (tCons (tCB (rLenA K) (tCons (tVar 0) tNil)) tNil)) (gName 5) (tSeq (tIfS (tTest (tOp (rInA K) (tOp (rIxA K) (tOp (rIxA K) (tVar 0) (tVar 5)) (tC (.int 0))) (tTup (tCons (tC (.str "one")) (tCons (tC (.str "any")) tNil))))) (sDPut (tVar 3) (tOp (rIxA K) (tOp (rIxA K) (tVar 0) (tVar 5)) (tC (.int 1))) (L2.tSl (rSlA' K) (tVar 1) (tPart (tVar 4)) (tPart (tOp (rAddA K) (tVar 4) (tOp (rIxA K) (tVar 2) (tVar 5)))))) tNext) (tAsg (tOp (rAddA K) (tVar 4) (tOp (rIxA K) (tVar 2) (tVar 5))) (gName 4)))) (tRet (tVar 3))))))))
theorem goodP_iff {rs : List RP} : goodP rs = true ↔ (1 ≤ rs.length ∧ rs.length ≤ 6) ∧ (∀ r ∈ rs, goodPart r = true) ∧ ddN [] (namesP rs) = (namesP rs).length := by
  unfold goodP
  simp [List.all_eq_true, and_assoc]
/-- all different -/
theorem ddN_nodup : ∀ (l seen : List PySem.Str), ddN seen l = l.length → l.Nodup ∧ ∀ x ∈ l, x ∉ seen
  | [], _, _ => ⟨.nil, fun x h => by cases h⟩
  | x :: l, seen, h => by
    have hle := ddN_le l (x :: seen)
    rw [ddN, List.length_cons] at h
    have hx : x ∉ seen := fun z => by
      have : seen.contains x = true := by simpa using z
      rw [this] at h; simp at h; omega
    have h' : ddN (x :: seen) l = l.length := by
      split at h <;> omega
    obtain ⟨nd, hs⟩ := ddN_nodup l (x :: seen) h'
    refine ⟨List.nodup_cons.mpr ⟨fun z => hs x z List.mem_cons_self, nd⟩, fun y hy => ?_⟩
    rcases List.mem_cons.mp hy with rfl | hy
    · exact hx
    · exact fun z => hs y hy (List.mem_cons_of_mem _ z)
theorem atI_at {α : Type} {l : List α} {i : Nat} {x : α} (h : l[i]? = some x) : L2.atI l (i : Int) = some x := by
  have hi : i < l.length := (List.getElem?_eq_some_iff.mp h).1
  unfold L2.atI ixN
  rw [if_pos (by omega), if_pos (by omega)]
  simpa using h
theorem atI_at0 {α : Type} {l : List α} {i : Nat} {x : α} (h : l[i]? = some x) : L2.atI l (0 + (i : Int)) = some x := by
  rw [Int.zero_add]; exact atI_at h
theorem isN_eq (r : RP) : inD (.str r.kind) [.str "one", .str "any"] = r.isN := by
  rw [show [D.str "one", D.str "any"] = (["one", "any"] : List PySem.Str).map D.str from rfl, inD_strs]
  simp [RP.isN]
theorem isN_ot {r : RP} (h : r.isN = true) : ∃ s, r.ws = [s] ∧ r.arg = .str s := by
  cases r with
  | of ws =>
    exfalso
    have h1 : decide (PySem.Str.ofString "of" = PySem.Str.ofString "one") = false := by decide +kernel
    have h2 : decide (PySem.Str.ofString "of" = PySem.Str.ofString "any") = false := by decide +kernel
    simp only [RP.isN, RP.kind, h1, h2] at h
    cases h
  | ot k s ex => exact ⟨s, rfl, rfl⟩
theorem gotL_snoc (r : RP) (c : Nat) : ∀ (as : List RP) (bs : List Nat) (ws : List PySem.Str), as.length = bs.length → gotL (as ++ [r]) (bs ++ [c]) ws = gotL as bs ws ++ (if r.isN = true then r.ws.map fun s => (s, (ws.drop bs.sum).take c) else [])
  | [], [], ws, _ => by simp [gotL]
  | a :: as, b :: bs, ws, h => by
    have ih := gotL_snoc r c as bs (ws.drop b) (by simpa using h)
    simp only [List.cons_append, gotL, ih, List.drop_drop, List.sum_cons, List.append_assoc]
    try rw [Nat.add_comm b]
  | [], _ :: _, _, h => by simp at h
  | _ :: _, [], _, h => by simp at h
theorem gotL_keys : ∀ (as : List RP) (bs : List Nat) (ws : List PySem.Str), as.length = bs.length → (∀ r ∈ as, goodPart r = true) → (gotL as bs ws).map (·.1) = namesP as
  | [], [], ws, _, _ => by simp [gotL, namesP]
  | a :: as, b :: bs, ws, h, hg => by
    have ih := gotL_keys as bs (ws.drop b) (by simpa using h) (fun r hr => hg r (List.mem_cons_of_mem _ hr))
    have hn := RP.name_eq (hg a List.mem_cons_self)
    simp only [gotL, List.map_append, ih, namesP, List.flatMap_cons, hn]
    congr 1
    split
    · have e : ((fun q : PySem.Str × List PySem.Str => q.1) ∘ fun s => (s, ws.take b)) = id := rfl
      rw [List.map_map, e, List.map_id]
    · rfl
  | [], _ :: _, _, h, _ => by simp at h
  | _ :: _, [], _, h, _ => by simp at h
def gotT (p : Addr) (l : List (PySem.Str × List PySem.Str)) : MV := .ot p (.dic (l.map fun q => (Sum.inr q.1, .lf (strsD q.2))))
theorem toDk_got : ∀ l : List (PySem.Str × List PySem.Str), toDk (l.map fun q => ((Sum.inr q.1 : Key), T.lf (strsD q.2))) = l.map fun q => (Sum.inr q.1, strsD q.2)
  | [] => by simp [toDk]
  | q :: l => by simp [toDk, T.toD, toDk_got l]
theorem putM_new {α : Type} (k : PySem.Str) (y : α) (l : List (PySem.Str × α)) (h : k ∉ l.map (·.1)) : putM (Sum.inr k) y (l.map fun q => ((Sum.inr q.1 : Key), q.2)) = (l ++ [(k, y)]).map fun q => ((Sum.inr q.1 : Key), q.2) := by
  unfold putM
  rw [if_neg]
  · simp
  · intro z
    rw [List.any_map, List.any_eq_true] at z
    obtain ⟨q, hq, e⟩ := z
    have e' : q.1 = k := by simpa using e
    exact h (e' ▸ List.mem_map_of_mem hq)
theorem sum_take_le (cs : List Nat) : ∀ i, (cs.take i).sum ≤ cs.sum := by
  induction cs with
  | nil => simp
  | cons c cs ih =>
    intro i
    cases i with
    | zero => simp
    | succ i =>
      have := ih i
      simp only [List.take_succ_cons, List.sum_cons]; omega
theorem mfL_sum : ∀ (ps : List RP) (ws : List PySem.Str) (r : List Nat), mfL ps ws = some r → r.sum = ws.length
  | [], ws, r, h => by
    simp only [mfL] at h
    split at h
    · rename_i e; cases h; subst e; rfl
    · cases h
  | p :: ps, ws, r, h => by
    simp only [mfL] at h
    split at h
    · obtain ⟨k, hk0, hk⟩ := List.exists_of_findSome?_eq_some h
      have hkl : k < ws.length + 1 := by simpa using hk0
      cases q : mfL ps (ws.drop k) with
      | none => rw [q] at hk; cases hk
      | some r' =>
        rw [q] at hk
        cases hk
        have := mfL_sum ps _ _ q
        simp at this ⊢; omega
    · cases ws with
      | nil => cases h
      | cons w ws =>
        simp only at h
        split at h
        · cases q : mfL ps ws with
          | none => rw [q] at h; cases h
          | some r' =>
            rw [q] at h
            cases h
            have := mfL_sum ps _ _ q
            simp at this ⊢; omega
        · cases h
theorem names_new {rs : List RP} {i : Nat} {r : RP} {z : PySem.Str} (hnd : (namesP rs).Nodup) (er : rs[i]? = some r) (hgr : goodPart r = true) (h : r.isN = true) (ez : r.ws = [z]) : z ∉ namesP (rs.take i) := by
  obtain ⟨hir, er'⟩ := List.getElem?_eq_some_iff.mp er
  have e : namesP rs = namesP (rs.take i) ++ ([z] ++ namesP (rs.drop (i + 1))) := by
    have e1 : rs = rs.take i ++ (r :: rs.drop (i + 1)) := by
      conv => lhs; rw [← List.take_append_drop i rs]
      congr 1
      rw [List.drop_eq_getElem_cons hir, er']
    conv => lhs; rw [e1]
    have : r.name = [z] := by rw [RP.name_eq hgr, h, if_pos rfl, ez]
    simp [namesP, this]
  rw [e] at hnd
  have := (List.nodup_append.mp hnd).2.2
  exact fun hz => this z hz z (by simp) rfl
theorem h_match {K : PySem.W.Frag} : FsOk K 2 6 (fs_match K) (t_match K) := by
  intro ms P X hf
  obtain ⟨rs, ws, rfl, hl, hwl, hok, hP, hX⟩ := hf
  refine ⟨rfl, ?_⟩
  unfold t_match
  refine ws_seq (ws_drop (wd_call [] (wa_cons (wd_var rfl (by decide) (wa_nil ⟨_, _, .nil, rs, rfl, hl, hok, fun hg => ⟨_, _, .nil, _, rfl, ?_⟩, fun hg => ⟨_, _, .nil, _, .fz (.fz .nil), hX hg⟩ ⟩)))))
  obtain ⟨hlen, hgp, hdd⟩ := goodP_iff.mp hg
  refine ws_seq (ws_set (by decide) (wd_call [] (wa_cons (wd_var rfl (by decide) (wa_cons (wd_var rfl (by decide) (wa_nil ⟨_, _, .nil, rs, ws, rfl, hlen.2, by omega, hwl, fun r hr => ⟨hok r hr, hgp r hr⟩, _, _, .nil, _, rfl, ?_ ⟩)))))))
  have hP' := hP hg
  unfold matD at hP'
  cases q : mfL rs ws with
  | none =>
    rw [q] at hP'
    exact ws_seq (ws_if (wt_test (wd_op (wd_var rfl (by decide) (wd_non (o_isN rfl ⟨_, rfl, ite_t rfl (ws_ret (wd_non ⟨_, .fz (.fz .nil), hP'⟩)) ⟩))))))
  | some cs =>
    rw [q] at hP'
    have hcl := mfL_len _ _ _ q
    have hsum := mfL_sum _ _ _ q
    refine ws_seq (ws_if (wt_test (wd_op (wd_var rfl (by decide) (wd_non (o_isN rfl ⟨_, rfl, ite_f rfl (ws_next ?_) ⟩))))))
    refine ws_seq (ws_setN (by decide) (wn_dic0 fun p => ws_seq (ws_set (by decide) (wd_int ?_ ))))
    refine ws_cut (fun m => ∃ z4 z5, m = [.fz (patD rs), .fz (strsD ws), .fz (rowD cs), gotT p (gotL rs cs ws), z4, z5]) ?_ ?_
    · refine ws_for (wi_rng1 (wa_cons (wd_cb (wa_cons (wd_var rfl (by decide) (wa_nil (c_len (m := rs.length) (by simp [lenD, patD]) (by omega) (wa_nil ⟨_, rfl, by omega, by omega, ?_ ⟩))))))))
      refine ⟨fun i m => ∃ z5, m = [.fz (patD rs), .fz (strsD ws), .fz (rowD cs), gotT p (gotL (rs.take i) (cs.take i) ws), .fz (.int ((cs.take i).sum : Nat)), z5], ⟨_, rfl⟩, ?_, ?_⟩
      · rintro i d mm hd ⟨z5, rfl⟩
        obtain ⟨hi, rfl⟩ := rngD_at hd
        have hir : i < rs.length := by omega
        have hic : i < cs.length := by omega
        have er : rs[i]? = some rs[i] := List.getElem?_eq_getElem hir
        have ec : cs[i]? = some cs[i] := List.getElem?_eq_getElem hic
        generalize rs[i] = r at er
        generalize cs[i] = c at ec
        have hgr := hgp r (List.mem_of_getElem? er)
        have tr : rs.take (i + 1) = rs.take i ++ [r] := by rw [List.take_add_one, er]; rfl
        have tc : cs.take (i + 1) = cs.take i ++ [c] := by rw [List.take_add_one, ec]; rfl
        have hsl : (cs.take (i + 1)).sum ≤ ws.length := by rw [← hsum]; exact sum_take_le _ _
        have hsc : (cs.take (i + 1)).sum = (cs.take i).sum + c := by rw [tc]; simp
        have hgot := gotL_snoc r c (rs.take i) (cs.take i) ws (by simp; omega)
        rw [← tr, ← tc] at hgot
        have ixr : atI (rs.map rpD) (0 + (i : Int)) = some (.tup [.str r.kind, r.arg]) := atI_at0 (by rw [List.getElem?_map, er, ← good_rp hgr]; rfl)
        have ixc : atI (cs.map fun k : Nat => D.int (k : Int)) (0 + (i : Int)) = some (.int (c : Int)) := atI_at0 (by rw [List.getElem?_map, ec]; rfl)
        refine wg_name (by decide) ?_
        refine ws_cut (fun m => m = [.fz (patD rs), .fz (strsD ws), .fz (rowD cs), gotT p (gotL (rs.take (i + 1)) (cs.take (i + 1)) ws), .fz (.int ((cs.take i).sum : Nat)), .fz (.int (0 + (i : Int)))]) ?_ ?_
        · refine ws_if (wt_test (wd_op (wd_op (wd_op (wd_var rfl (by decide) (wd_var rfl (by decide) (o_ixL ixr (wd_int (o_ixT rfl (wd_tup (wa_cons (wd_str (wa_cons (wd_str (wa_nil ⟨Nat.le_of_ble_eq_true rfl, o_inT rfl rfl ?_ ⟩)))))))))))))))
          rw [isN_eq]
          refine ⟨_, rfl, ite_b (fun h => ?_) (fun h => ws_next ?_)⟩
          · obtain ⟨z, ez, ea⟩ := isN_ot h
            refine ws_dput (wd_sl (wd_var rfl (by decide) (wo_some (wd_var rfl (by decide) ⟨_, rfl, wo_some (wd_op (wd_var rfl (by decide) (wd_op (wd_var rfl (by decide) (wd_var rfl (by decide) (o_ixL ixc (o_addI ⟨_, rfl, s_lst ?_ ⟩)))))))⟩))))
            refine wd_varO rfl (by decide) ⟨p, rfl, wd_op (wd_op (wd_var rfl (by decide) (wd_var rfl (by decide) (o_ixL ixr (wd_int (o_ixT rfl ?_ ))))))⟩
            rw [ea]
            have hnd := (ddN_nodup _ _ hdd).1
            have hkeys : (gotL (rs.take i) (cs.take i) ws).map (·.1) = namesP (rs.take i) := gotL_keys _ _ _ (by simp; omega) fun r hr => hgp r (List.mem_of_mem_take hr)
            have hzn : z ∉ (gotL (rs.take i) (cs.take i) ws).map (·.1) := by
              rw [hkeys]
              exact names_new hnd er hgr h ez
            refine ⟨Sum.inr z, 3, _, rfl, rfl, ?_, ?_⟩
            · have : ((gotL (rs.take i) (cs.take i) ws).map (·.1)).length ≤ (rs.take i).length := by rw [hkeys]; exact names_len _
              simp at this ⊢; omega
            · have e0 : ((gotL (rs.take i) (cs.take i) ws).map fun q => ((Sum.inr q.1 : Key), T.lf (strsD q.2))) = (((gotL (rs.take i) (cs.take i) ws).map fun q => (q.1, T.lf (strsD q.2))).map fun q => ((Sum.inr q.1 : Key), q.2)) := by
                rw [List.map_map]; rfl
              rw [e0, putM_new _ _ _ (by rw [List.map_map]; exact hzn), hgot, h, if_pos rfl, ez]
              have e5 : cutD (ws.map D.str) (some (((cs.take i).sum : Nat) : Int)) (some ((((cs.take i).sum : Nat) : Int) + (c : Int))) = ((ws.drop (cs.take i).sum).take c).map D.str := by
                have := cut_both (ws.map D.str) (cs.take i).sum ((cs.take i).sum + c) (by omega)
                rw [Int.natCast_add] at this
                rw [this, ← List.map_drop, ← List.map_take]
                congr 2; omega
              rw [e5]
              simp [gotT, strsD]
          · rw [hgot, h, if_neg Bool.false_ne_true, List.append_nil]; rfl
        · rintro m rfl
          refine ws_set (by decide) (wd_op (wd_var rfl (by decide) (wd_op (wd_var rfl (by decide) (wd_var rfl (by decide) (o_ixL ixc (o_addI ⟨.fz (.int (0 + (i : Int))), ?_ ⟩)))))))
          rw [hsc]
          simp
      · rintro mm ⟨z5, rfl⟩
        rw [rngD_len]
        have e1 : rs.take ((rs.length : Int)).toNat = rs := List.take_of_length_le (by omega)
        have e2 : cs.take ((rs.length : Int)).toNat = cs := List.take_of_length_le (by omega)
        rw [e1, e2]
        exact ⟨_, _, rfl⟩
    · rintro mm ⟨z4, z5, rfl⟩
      refine ws_ret (wd_freeze 3 rfl (wd_var rfl (by decide) ⟨_, .fz (.fz .nil), ?_⟩))
      have : T.toD (.dic ((gotL rs cs ws).map fun q => (Sum.inr q.1, .lf (strsD q.2)))) = dicD (gotL rs cs ws) := by
        simp only [T.toD, toDk_got]; rfl
      rw [this]
      exact hP'
/-! ### the rank -/
def cntK (rs : List RP) (k : PySem.Str) : Nat := rs.countP fun r => decide (r.kind = k)
def rankD (rs : List RP) : D := .tup [.int (cntK rs "word"), .int (cntK rs "of"), .int (cntK rs "one"), .int (0 - (cntK rs "any" : Int))]
def fs_rank (K : PySem.W.Frag) : FS := fun ms P X => ∃ rs, ms = [.fz (patD rs)] ∧ rs.length ≤ 1000 ∧ (∀ r ∈ rs, r.ok) ∧ (goodP rs = true → P (.fz (rankD rs)) ms) ∧ (goodP rs = false → X (.ref (He.ga K "BadPattern")) ms)
/-- rank: slots 0 pattern, 1 kinds, 2 part -/
def t_rank (K : PySem.W.Frag) : WX → TS := fun W => (tSeq (tDrop (tCallS (SpM K (fs_look_pattern K)) (WE W) (tCons (tVar 0) tNil))) (tSeq (tAsg (tLcW (iList K (tVar 0)) (gName 2) (fun W => tYes) (fun W => (tOp (rIxA K) (tVar 2) (tC (.int 0)))) [2]) (gName 1)) (tRet (tTup (tCons (tBM K "list" (rCountA K) (tVar 1) (tCons (tC (.str "word")) tNil)) (tCons (tBM K "list" (rCountA K) (tVar 1) (tCons (tC (.str "of")) tNil)) (tCons (tBM K "list" (rCountA K) (tVar 1) (tCons (tC (.str "one")) tNil)) (tCons (tOp (rI0 fun i j => .int (i - j)) (tC (.int 0)) (tBM K "list" (rCountA K) (tVar 1) (tCons (tC (.str "any")) tNil))) tNil))))))))
theorem cnt_kinds (rs : List RP) (k : PySem.Str) : ((rs.map fun r => D.str r.kind).countP fun z => eqD z (.str k)) = cntK rs k := by
  unfold cntK
  rw [List.countP_map]
  apply List.countP_congr
  intro r _
  simp [eqD, Function.comp]
theorem kinds_flat (rs : List RP) : (rs.map fun r => D.str r.kind).all flat = true := by
  rw [List.all_map]; simp [List.all_eq_true, flat]
/-- [part[0] for part in pattern] -/
theorem wd_kinds {K : PySem.W.Frag} {n i j : Nat} {ms : List MV} {X : XP} {P : D → List MV → Prop} (rs : List RP) (hl : rs.length ≤ 1000) (hi : i < n) (hj : j < n) (hm : j < ms.length) (e : ms[i]? = some (.fz (patD rs))) (hgp : ∀ r ∈ rs, goodPart r = true) (h : P (.lst (rs.map fun r => D.str r.kind)) (ms.set j .un)) :
    wpD K n (fun W => tLcW (iList K (tVar i)) (gName j) (fun W => tYes) (fun W => (tOp (rIxA K) (tVar j) (tC (.int 0)))) [j]) ms P X := by
  refine wd_lcMap (by simpa using hj) (gok_name (by simp)) (wi_list (wd_var e hi ⟨_, rfl, ?_⟩))
  refine ⟨by simp; omega, fun _ => true, fun d => match d with | .tup (x :: _) => x | _ => .non, fun d hd => ?_, ?_⟩
  · obtain ⟨r, hr, rfl⟩ := List.mem_map.mp hd
    refine wg_name hj (wt_yes ⟨rfl, by simp [wipeM], fun _ => ?_⟩)
    refine wd_op (wd_var (d := .tup [.str r.kind, r.arg]) (by simp [wipeM, hm, good_rp (hgp r hr)]) hj (wd_int (o_ixT rfl ⟨?_, by simp [wipeM]⟩)))
    rw [good_rp (hgp r hr)]
  · rw [filt_true, List.map_map]
    have e : (rs.map ((fun d : D => match d with | .tup (x :: _) => x | _ => .non) ∘ rpD)) = rs.map fun r => D.str r.kind := List.map_congr_left fun r _ => rfl
    rw [e]
    exact h
theorem h_rank {K : PySem.W.Frag} : FsOk K 1 3 (fs_rank K) (t_rank K) := by
  intro ms P X hf
  obtain ⟨rs, rfl, hl, hok, hP, hX⟩ := hf
  refine ⟨rfl, ?_⟩
  unfold t_rank
  refine ws_seq (ws_drop (wd_call [] (wa_cons (wd_var rfl (by decide) (wa_nil ⟨_, _, .nil, rs, rfl, hl, hok, fun hg => ⟨_, _, .nil, _, rfl, ?_⟩, fun hg => ⟨_, _, .nil, _, .fz .nil, hX hg⟩ ⟩)))))
  obtain ⟨hlen, hgp, hdd⟩ := goodP_iff.mp hg
  refine ws_seq (ws_set (by decide) (wd_kinds rs hl (by decide) (by decide) (by simp) rfl hgp ?_))
  have cnt : ∀ {Q : D → List MV → Prop} (k : PySem.Str) {m : List MV}, m[1]? = some (.fz (.lst (rs.map fun r => D.str r.kind))) → Q (.int (cntK rs k)) m → wpD K 3 (fun W => tBM K "list" (rCountA K) (tVar 1) (tCons (tC (.str k)) tNil)) m Q (fun c me => ∃ ms', Back [.fz (patD rs)] me ms' ∧ X c ms') := by
    intro Q k m e hq
    refine wd_bm (wd_var e (by decide) ⟨fun _ _ _ => ty_lst, wa_cons (wd_str (wa_nil (b_count (kinds_flat rs) rfl ?_ )))⟩)
    rw [cnt_kinds]
    exact hq
  refine ws_ret (wd_tup (wa_cons (cnt "word" rfl (wa_cons (cnt "of" rfl (wa_cons (cnt "one" rfl (wa_cons (wd_op (wd_int (cnt "any" rfl (o_I0i (wa_nil ⟨Nat.le_of_ble_eq_true rfl, _, .fz .nil, hP hg ⟩)))))))))))))
theorem eqv_strs : ∀ a b : List PySem.Str, PyData.eqvAll (pys (a.map D.str)) (pys (b.map D.str)) = decide (a = b)
  | [], [] => by simp [pys, PyData.eqvAll]
  | [], _ :: _ => by simp [pys, PyData.eqvAll]
  | _ :: _, [] => by simp [pys, PyData.eqvAll]
  | x :: a, y :: b => by
    simp only [List.map_cons, pys, D.py, PyData.eqvAll, eqv_strs a b, PyData.eqv]
    by_cases h : x = y
    · subst h; simp
    · simp [h]
theorem eqv_strsD (a b : List PySem.Str) : PyData.eqv (D.lst (a.map D.str)).py (D.lst (b.map D.str)).py = decide (a = b) := by
  simp only [D.py, PyData.eqv]
  exact eqv_strs a b
theorem goodPart_cases {r : RP} (h : goodPart r = true) : (∃ ws, r = .of ws ∧ 1 ≤ ws.length ∧ ws.length ≤ 4 ∧ ∀ w ∈ ws, isWordS w = true) ∨ ∃ k s, r = .ot k s [] ∧ (k = "word" ∨ k = "one" ∨ k = "any") ∧ isWordS s = true := by
  cases r with
  | of ws =>
    simp [goodPart, List.all_eq_true] at h
    exact .inl ⟨ws, rfl, h.1.1, h.1.2, h.2⟩
  | ot k s ex =>
    simp [goodPart] at h
    obtain ⟨⟨rfl, h2⟩, h3⟩ := h
    exact .inr ⟨k, s, rfl, h2, h3⟩
theorem ws_assoc {K : PySem.W.Frag} {n : Nat} {ms : List MV} {X : XP} {N : List MV → Prop} {R : MV → List MV → Prop} {a b c : WX → TS} (h : wpS K n (fun W => tSeq (tSeq (a W) (b W)) (c W)) ms N R X) : wpS K n (fun W => tSeq (a W) (tSeq (b W) (c W))) ms N R X := h
theorem cut_pre (l : List D) (k : Nat) : cutD l none (some (k : Int)) = l.take k := by
  unfold cutD
  rw [sIx_nat']
  show (l.drop 0).take (min k l.length - 0) = l.take k
  rw [List.drop_zero, Nat.sub_zero]
  rcases Nat.le_total k l.length with h | h
  · rw [Nat.min_eq_left h]
  · rw [Nat.min_eq_right h, List.take_of_length_le (Nat.le_refl _), List.take_of_length_le h]
def RP.okB : RP → Bool
  | .of ws => decide (ws.length ≤ 100) && ws.all ascS
  | .ot k s ex => decide (k ≠ "of") && (ascS s && decide (ex.length ≤ 100))
theorem okB_ok {r : RP} (h : r.okB = true) : r.ok := by
  cases r with
  | of ws => simpa [RP.okB, RP.ok, List.all_eq_true] using h
  | ot k s ex => simpa [RP.okB, RP.ok] using h
end M
namespace M
open PySem PySem.Spec PyProof.Rows L2
/-! ### draws, in short -/
section
variable {K : PySem.W.Frag} {n : Nat} {ms : List MV} {X : XP} {P : D → List MV → Prop}
theorem wd_drawC {sc : List Int} {t : Addr} {k : Nat} {mm : Int} (e0 : ms[0]? = some (scr sc)) (e1 : ms[1]? = some (.ot t (zeros k))) (hn : 1 < n) (hl : sc.length ≤ 63) (hk : k < 90000) (hm : 0 < mm)
    (h : ∀ z, 0 ≤ z → z < mm → P (.int z) (ms.set 1 (.ot t (zeros (k + 1))))) : wpD K n (fun W => tCallS (SpM K (fs__law_draw K)) (WE W) (tCons (tVar 0) (tCons (tVar 1) (tCons (tC (.int mm)) tNil)))) ms P X := by
  have hl1 : 1 < ms.length := (List.getElem?_eq_some_iff.mp e1).1
  refine wd_call [(1, 1)] (wa_cons (wd_var e0 (by omega) (wa_cons (wd_varO e1 hn (wa_cons (wd_int (wa_nil ?_ )))))))
  refine ⟨_, _, .cons rfl e1 .nil, sc, t, k, mm, rfl, hl, hk, hm, fun z h0 h1 => ⟨_, _, .cons (p := t) (t := zeros (k + 1)) (by simp [hl1]) rfl .nil, _, rfl, ?_⟩⟩
  rw [List.set_set]
  exact h z h0 h1
theorem wd_drawV {sc : List Int} {t : Addr} {k : Nat} {mm : Int} {i : Nat} (e0 : ms[0]? = some (scr sc)) (e1 : ms[1]? = some (.ot t (zeros k))) (ei : ms[i]? = some (.fz (.int mm))) (hi : i < n) (hn : 1 < n) (hl : sc.length ≤ 63) (hk : k < 90000) (hm : 0 < mm)
    (h : ∀ z, 0 ≤ z → z < mm → P (.int z) (ms.set 1 (.ot t (zeros (k + 1))))) : wpD K n (fun W => tCallS (SpM K (fs__law_draw K)) (WE W) (tCons (tVar 0) (tCons (tVar 1) (tCons (tVar i) tNil)))) ms P X := by
  have hl1 : 1 < ms.length := (List.getElem?_eq_some_iff.mp e1).1
  refine wd_call [(1, 1)] (wa_cons (wd_var e0 (by omega) (wa_cons (wd_varO e1 hn (wa_cons (wd_var ei hi (wa_nil ?_ )))))))
  refine ⟨_, _, .cons rfl e1 .nil, sc, t, k, mm, rfl, hl, hk, hm, fun z h0 h1 => ⟨_, _, .cons (p := t) (t := zeros (k + 1)) (by simp [hl1]) rfl .nil, _, rfl, ?_⟩⟩
  rw [List.set_set]
  exact h z h0 h1
theorem wd_pickX {sc : List Int} {t : Addr} {k : Nat} {tx : WX → TE} (e0 : ms[0]? = some (scr sc)) (e1 : ms[1]? = some (.ot t (zeros k))) (hn : 1 < n) (hl : sc.length ≤ 63) (hk : k < 90000)
    (h : wpD K n tx ms (fun d m1 => m1 = ms ∧ ∃ ds, d = .lst ds ∧ 0 < ds.length ∧ ds.length ≤ 1000 ∧ ∀ e ∈ ds, P e (ms.set 1 (.ot t (zeros (k + 1))))) X) : wpD K n (fun W => tCallS (SpM K (fs__law_pick K)) (WE W) (tCons (tVar 0) (tCons (tVar 1) (tCons (tx W) tNil)))) ms P X := by
  have hl1 : 1 < ms.length := (List.getElem?_eq_some_iff.mp e1).1
  refine wd_call [(1, 1)] (wa_cons (wd_var e0 (by omega) (wa_cons (wd_varO e1 hn (wa_cons (h.mono (fun d m1 q => ?_) fun _ _ z => z) )))))
  obtain ⟨rfl, ds, rfl, h1, h2, hP⟩ := q
  refine wa_nil ⟨_, _, .cons rfl e1 .nil, sc, t, k, ds, rfl, hl, hk, h1, h2, fun d hd => ⟨_, _, .cons (p := t) (t := zeros (k + 1)) (by simp [hl1]) rfl .nil, _, rfl, ?_⟩⟩
  rw [List.set_set]
  exact hP d hd
theorem wd_menu (h : P (strsD menuL) ms) : wpD K n (fun _ => tCall (SpM K (fs__law_menu K)) [] E0 tNil) ms P X := wd_callZ ⟨rfl, _, rfl, h⟩
theorem menu_in {e : D} (h : e ∈ menuL.map D.str) : ∃ w ∈ menuL, e = .str w := by
  obtain ⟨w, hw, rfl⟩ := List.mem_map.mp h
  exact ⟨w, hw, rfl⟩
/-- an owned thing is known for good, ahead of an expression that gives a new one -/
theorem wn_freeze (i : Nat) {p : Addr} {t : T} {te : WX → TE} {P : Addr → T → List MV → Prop} (e : ms[i]? = some (.ot p t)) (h : wpN K n te (ms.set i (.fz t.toD)) P X) : wpN K n te ms P X := by
  intro W G F H σ gv Q hn S k x
  obtain ⟨F1, e1, S1⟩ := S.freeze e
  exact h W G F1 H σ gv Q hn S1 (fun p t m g F' H' q S' e => k p t m g F' H' q S' (e1.trans e)) fun c m g F' H' p S' e => x c m g F' H' p S' (e1.trans e)
/-- a + b, two lists: a new one -/
theorem wn_addL {ta tb : WX → TE} {P : Addr → T → List MV → Prop} (h : wpD K n ta ms (fun a m1 => wpD K n tb m1 (fun b m2 => ∃ x y, a = .lst x ∧ b = .lst y ∧ x.length + y.length ≤ 1000000 ∧ ∀ p, P p (.lst ((x ++ y).map .lf)) m2) X) X) : wpN K n (fun W => tOp (rAddA K) (ta W) (tb W)) ms P X := by
  intro W G F H σ gv Q hn S k x
  refine h W G F H σ gv _ hn S (fun a v1 m1 g1 F1 H1 hb S1 r1 e1 => ?_) x
  refine hb W G F1 H1 σ g1 _ hn S1 (fun b v2 m2 g2 F2 H2 ho S2 r2 e2 => ?_) (fun c m g F' H' p S' e => x c m g F' H' p S' (e1.trans e))
  obtain ⟨xa, ya, rfl, rfl, hl, hP⟩ := ho
  cases r1 with
  | lst q1 w1 =>
    cases r2 with
    | lst q2 w2 =>
      rename_i a1 vs1 a2 vs2
      refine .inr (.inr (.inl ⟨_, _, _, _, rfl, rfl, (e2.trans S2.f) _ _ q1, S2.f _ _ q2, ?_, fun p hp => ?_⟩))
      · rw [sizeLine_eq, w1.length, w2.length]; omega
      · have w3 : RpL K F2 (vs1 ++ vs2) (xa ++ ya) := (w1.up e2).app w2
        exact k _ _ m2 g2 _ _ (hP p) (S2.newOwn hp (.lst (owL_of w3) rfl)) (e1.trans e2)
end
end M
namespace M
open PySem PySem.Spec PyProof.Rows L2
/-! ### k02: patterns drawn -/
def nm6 : List PySem.Str := ["a", "b", "c", "d", "e", "f"]
theorem nm6_ok : nm6.Nodup ∧ nm6.length = 6 ∧ ∀ w ∈ nm6, isWordS w = true ∧ ascS w = true := by decide +kernel
theorem nm6_len : ∀ w ∈ nm6, w.length ≤ 3 := by decide +kernel
theorem menu_word : ∀ w ∈ menuL, isWordS w = true ∧ ascS w = true := by decide +kernel
theorem nodup_ddN : ∀ (l seen : List PySem.Str), l.Nodup → (∀ x ∈ l, x ∉ seen) → ddN seen l = l.length
  | [], _, _, _ => rfl
  | x :: l, seen, nd, hs => by
    obtain ⟨hx, nd⟩ := List.nodup_cons.mp nd
    have h1 : seen.contains x = false := by
      have := hs x List.mem_cons_self
      simpa using this
    rw [ddN, h1, nodup_ddN l (x :: seen) nd fun y hy => ?_]
    · simp; omega
    · intro z
      rcases List.mem_cons.mp z with rfl | z
      · exact hx hy
      · exact hs y (List.mem_cons_of_mem _ hy) z
/-- a pattern as the laws draw it -/
structure Nice (rs : List RP) : Prop where
  good : goodP rs = true
  ok : ∀ r ∈ rs, r.ok
  short : ∀ r ∈ rs, ∀ w ∈ r.ws, w.length ≤ 3
def fs__law_pattern (K : PySem.W.Frag) : FS := fun ms P X => ∃ sc t n m, ms = [scr sc, .ot t (zeros n), .fz (.int m)] ∧ sc.length ≤ 63 ∧ n < 80000 ∧ 1 ≤ m ∧ m ≤ 6 ∧
  ∀ rs n', Nice rs → (rs.length : Int) ≤ m → n' ≤ n + 100 → P (.fz (patD rs)) [scr sc, .ot t (zeros n'), .fz (.int m)]
/-- _law_pattern: slots 0 script, 1 town, 2 most, 3 found, 4 names, 5 k, 6 way, 7 some, 8 j -/
def t__law_pattern (K : PySem.W.Frag) : WX → TS := fun W => (tSeq (tAsg (tLst tNil) (gName 3)) (tSeq (tAsg (tLst (tCons (tC (.str "a")) (tCons (tC (.str "b")) (tCons (tC (.str "c")) (tCons (tC (.str "d")) (tCons (tC (.str "e")) (tCons (tC (.str "f")) tNil))))))) (gName 4)) (tSeq (tFor (iRng1 (tCons (tOp (rAddA K) (tC (.int 1)) (tCallS (SpM K (fs__law_draw K)) (WE W) (tCons (tVar 0) (tCons (tVar 1) (tCons (tVar 2) tNil))))) tNil)) (gName 5) (tSeq (tAsg (tCallS (SpM K (fs__law_draw K)) (WE W) (tCons (tVar 0) (tCons (tVar 1) (tCons (tC (.int 7)) tNil)))) (gName 6)) (tIfS (tTest (tOp (rI0 fun i j => .bl (decide (i < j))) (tVar 6) (tC (.int 2)))) (tDrop (tBM K "list" rAppend (tVar 3) (tCons (tTup (tCons (tC (.str "word")) (tCons (tCallS (SpM K (fs__law_pick K)) (WE W) (tCons (tVar 0) (tCons (tVar 1) (tCons (tCall (SpM K (fs__law_menu K)) [] E0 tNil) tNil)))) tNil))) tNil))) (tIfS (tTest (tOp (rEqA K) (tVar 6) (tC (.int 2)))) (tSeq (tAsg (tLcW (iRng1 (tCons (tOp (rAddA K) (tC (.int 1)) (tCallS (SpM K (fs__law_draw K)) (WE W) (tCons (tVar 0) (tCons (tVar 1) (tCons (tC (.int 4)) tNil))))) tNil)) (gName 8) (fun W => tYes) (fun W => (tCallS (SpM K (fs__law_pick K)) (WE W) (tCons (tVar 0) (tCons (tVar 1) (tCons (tCall (SpM K (fs__law_menu K)) [] E0 tNil) tNil))))) [8]) (gName 7)) (tDrop (tBM K "list" rAppend (tVar 3) (tCons (tTup (tCons (tC (.str "of")) (tCons (tVar 7) tNil))) tNil)))) (tDrop (tBM K "list" rAppend (tVar 3) (tCons (tTup (tCons (tIf (tTest (tOp (rI0 fun i j => .bl (decide (i < j))) (tVar 6) (tC (.int 5)))) (tC (.str "one")) (tC (.str "any"))) (tCons (tOp (rIxA K) (tVar 4) (tVar 5)) tNil))) tNil))))))) (tRet (tVar 3)))))
abbrev foundP (p : Addr) (rs : List RP) : MV := .ot p (.lst ((rs.map rpD).map .lf))
theorem h__law_pattern {K : PySem.W.Frag} : FsOk K 3 9 (fs__law_pattern K) (t__law_pattern K) := by
  intro ms P X hf
  obtain ⟨sc, t, n, m, rfl, hl, hn, hm1, hm6, hP⟩ := hf
  refine ⟨rfl, ?_⟩
  unfold t__law_pattern
  refine ws_seq (ws_setN (by decide) (wn_lst (wa_nil ⟨by decide, fun p => ?_ ⟩)))
  refine ws_seq (ws_set (by decide) ?_)
  (repeat (first | refine wd_var rfl (by decide) ?_ | with_reducible refine wd_int ?_ | with_reducible refine wd_str ?_ | with_reducible refine wd_bl ?_ | with_reducible refine wd_non ?_ | with_reducible refine wd_op ?_ | with_reducible refine wd_cb ?_ | with_reducible refine wa_cons ?_ | with_reducible refine wa_nil ?_ | with_reducible refine wt_rng ?_ | with_reducible refine wt_test ?_ | with_reducible refine wt_B ?_ | with_reducible refine wt_and ?_ | with_reducible refine wt_or ?_ | with_reducible refine wt_not ?_ | with_reducible refine wt_tru ?_ | with_reducible refine wd_if ?_ | with_reducible refine wd_andV ?_ | with_reducible refine wd_orV ?_ | with_reducible refine wd_notV ?_ | with_reducible refine wd_chain ?_ | with_reducible refine wd_tup ?_ | with_reducible refine wd_lst ?_ | with_reducible refine wd_un ?_ | with_reducible refine wd_bm ?_ | with_reducible refine wd_sl ?_ | with_reducible refine wo_none ?_ | with_reducible refine wo_some ?_ | refine wg_tup rfl ?_ | with_reducible refine wgs_cons ?_ | with_reducible refine wgs_nil ?_ | refine wg_name (by decide) ?_ | with_reducible refine o_eqS ?_ | with_reducible refine o_neS ?_ | with_reducible refine o_eqI ?_ | with_reducible refine o_neI ?_ | refine o_isN rfl ?_ | refine o_notN rfl ?_ | refine o_ixT rfl ?_ | with_reducible refine o_addI ?_ | with_reducible refine o_I0b ?_ | with_reducible refine o_I0i ?_ | with_reducible refine un_negI ?_ | with_reducible refine s_lst ?_ | with_reducible refine wt_yes ?_ | refine c_len rfl (by first | omega | (simp <;> omega)) ?_ | refine o_addL (by first | omega | (simp <;> omega)) ?_ | refine ite_t rfl ?_ | refine ite_f rfl ?_ | refine ite_t (by decide +kernel) ?_ | refine ite_f (by decide +kernel) ?_ | refine o_inT rfl rfl ?_ | refine o_notInT rfl rfl ?_ | refine ⟨_, rfl, ?_⟩ | refine ⟨Nat.le_of_ble_eq_true rfl, ?_⟩ | refine ⟨fun _ _ _ => ty_lst, ?_⟩))
  refine ws_cut (fun mm => ∃ rs n' z5 z6 z7, mm = [scr sc, .ot t (zeros n'), .fz (.int m), foundP p rs, .fz (strsD nm6), z5, z6, z7, .un] ∧ Nice rs ∧ (rs.length : Int) ≤ m ∧ n' ≤ n + 100) ?_ ?_
  · refine ws_for (wi_rng1 (wa_cons (wd_op (wd_int (wd_drawV rfl rfl rfl (by decide) (by decide) hl (by omega) (by omega) fun z hz0 hz1 => o_addI (wa_nil ⟨_, rfl, by omega, by omega, ?_ ⟩))))))
    refine ⟨fun i mm => ∃ rs n' z5 z6 z7, mm = [scr sc, .ot t (zeros n'), .fz (.int m), foundP p rs, .fz (strsD nm6), z5, z6, z7, .un] ∧ rs.length = i ∧ (∀ r ∈ rs, (r.ok ∧ goodPart r = true) ∧ ∀ w ∈ r.ws, w.length ≤ 3) ∧ List.Sublist (namesP rs) (nm6.take i) ∧ n' ≤ n + 1 + 8 * i, ⟨[], n + 1, _, _, _, rfl, rfl, by simp, by simp [namesP], by omega⟩, ?_, ?_⟩
    · rintro i d mm hd ⟨rs, n', z5, z6, z7, rfl, hli, hrs, hsub, hn'⟩
      obtain ⟨hi, rfl⟩ := rngD_at hd
      have hi6 : i < 6 := by omega
      have step : ∀ (r : RP) (n2 : Nat) (a b c : MV), (r.ok ∧ ∀ w ∈ r.ws, w.length ≤ 3) → goodPart r = true → List.Sublist (namesP (rs ++ [r])) (nm6.take (i + 1)) → n2 ≤ n + 1 + 8 * (i + 1) →
          (fun i mm => ∃ rs n' z5 z6 z7, mm = [scr sc, .ot t (zeros n'), .fz (.int m), foundP p rs, .fz (strsD nm6), z5, z6, z7, .un] ∧ rs.length = i ∧ (∀ r ∈ rs, (r.ok ∧ goodPart r = true) ∧ ∀ w ∈ r.ws, w.length ≤ 3) ∧ List.Sublist (namesP rs) (nm6.take i) ∧ n' ≤ n + 1 + 8 * i) (i + 1) [scr sc, .ot t (zeros n2), .fz (.int m), .ot p (.lst ((rs.map rpD).map .lf ++ [.lf (rpD r)])), .fz (strsD nm6), a, b, c, .un] := by
        intro r n2 a b c h1 h2 h3 h4
        refine ⟨rs ++ [r], n2, a, b, c, by simp [foundP], by simp [hli], fun x hx => ?_, h3, h4⟩
        rcases List.mem_append.mp hx with hx | hx
        · exact hrs x hx
        · simp at hx; subst hx; exact ⟨⟨h1.1, h2⟩, h1.2⟩
      have sub0 : ∀ r : RP, r.name = [] → List.Sublist (namesP (rs ++ [r])) (nm6.take (i + 1)) := fun r hr => by
        have : namesP (rs ++ [r]) = namesP rs := by simp [namesP, hr]
        rw [this]
        exact hsub.trans (List.take_sublist_take_left (Nat.le_succ i))
      refine wg_name (by decide) (ws_seq (ws_set (by decide) (wd_drawC rfl rfl (by decide) hl (by omega) (by decide) fun z hz0 hz1 => ?_)))
      refine ws_if (wt_test (wd_op (wd_var rfl (by decide) (wd_int (o_I0b ⟨_, rfl, ite_b (fun hw => ?_) (fun hw => ?_) ⟩)))))
      · refine ws_append (by decide) rfl (wd_tup (wa_cons (wd_str (wa_cons (wd_pickX rfl rfl (by decide) hl (by omega) (wd_menu ⟨rfl, _, rfl, by decide, by decide, fun e he => ?_ ⟩))))))
        obtain ⟨w, hw, rfl⟩ := menu_in he
        refine wa_nil ⟨Nat.le_of_ble_eq_true rfl, _, rfl, by simp; omega, ?_⟩
        exact step (.ot "word" w []) _ _ _ _ ⟨⟨by decide +kernel, (menu_word w hw).2, by decide⟩, fun x hx => by simp [RP.ws] at hx; subst hx; exact (menu_ok _ hw).2⟩ (by simp [goodPart, (menu_word w hw).1]) (sub0 _ (by simp only [RP.name]; rw [if_neg (by decide +kernel)])) (by omega)
      · refine ws_if (wt_test (wd_op (wd_var rfl (by decide) (wd_int (o_eqI ⟨_, rfl, ite_b (fun hw2 => ?_) (fun hw2 => ?_) ⟩)))))
        · refine ws_seq (ws_set (by decide) ?_)
          refine wd_lc (by decide) (gok_name (by decide)) (wi_rng1 (wa_cons (wd_op (wd_int (wd_drawC rfl rfl (by decide) hl (by omega) (by decide) fun y hy0 hy1 => o_addI (wa_nil ⟨_, rfl, by omega, by omega, ?_ ⟩))))))
          refine ⟨by rw [rngD_len]; omega, fun j acc mm => ∃ ws : List PySem.Str, acc = ws.map .str ∧ ws.length = j ∧ (∀ w ∈ ws, w ∈ menuL) ∧ mm = [scr sc, .ot t (zeros (n' + 2 + j)), .fz (.int m), foundP p rs, .fz (strsD nm6), .fz (.int (0 + (i : Int))), .fz (.int z), z7, .un], ⟨[], rfl, rfl, by simp, rfl⟩, ?_, ?_⟩
          · rintro j d acc mm hd ⟨ws, rfl, hj, hws, rfl⟩
            obtain ⟨hj2, rfl⟩ := rngD_at hd
            refine wg_name (by decide) (wt_yes (ite_t rfl (wd_pickX rfl rfl (by decide) hl (by omega) (wd_menu ⟨rfl, _, rfl, by decide, by decide, fun e he => ?_ ⟩))))
            obtain ⟨w, hw, rfl⟩ := menu_in he
            refine ⟨ws ++ [w], by simp, by simp [hj], fun x hx => ?_, rfl⟩
            rcases List.mem_append.mp hx with hx | hx
            · exact hws x hx
            · simp at hx; subst hx; exact hw
          · rintro acc mm ⟨ws, rfl, hj, hws, rfl⟩
            rw [rngD_len] at hj
            refine ws_append (by decide) rfl (wd_tup (wa_cons (wd_str (wa_cons (wd_var rfl (by decide) (wa_nil ⟨Nat.le_of_ble_eq_true rfl, _, rfl, by simp; omega, ?_ ⟩))))))
            rw [rngD_len]
            refine step (.of ws) _ _ _ _ ⟨⟨by omega, fun w hw => (menu_word w (hws w hw)).2⟩, fun w hw => (menu_ok w (hws w hw)).2⟩ ?_ (sub0 _ rfl) (by omega)
            have : ws.all isWordS = true := List.all_eq_true.mpr fun w hw => (menu_word w (hws w hw)).1
            simp [goodPart, this]; omega
        · have hix : atI (nm6.map D.str) (0 + (i : Int)) = some (.str (nm6.getD i "")) := atI_at0 (by
            rw [List.getElem?_map, List.getD_eq_getElem?_getD, List.getElem?_eq_getElem (by rw [nm6_ok.2.1]; omega)]; rfl)
          have hin : nm6.getD i "" ∈ nm6 := by
            rw [List.getD_eq_getElem?_getD, List.getElem?_eq_getElem (by rw [nm6_ok.2.1]; omega)]
            exact List.getElem_mem _
          have take1 : nm6.take (i + 1) = nm6.take i ++ [nm6.getD i ""] := by
            rw [List.take_add_one, List.getD_eq_getElem?_getD, List.getElem?_eq_getElem (by rw [nm6_ok.2.1]; omega)]; rfl
          have fin : ∀ k : PySem.Str, k = "one" ∨ k = "any" → (fun i mm => ∃ rs n' z5 z6 z7, mm = [scr sc, .ot t (zeros n'), .fz (.int m), foundP p rs, .fz (strsD nm6), z5, z6, z7, .un] ∧ rs.length = i ∧ (∀ r ∈ rs, (r.ok ∧ goodPart r = true) ∧ ∀ w ∈ r.ws, w.length ≤ 3) ∧ List.Sublist (namesP rs) (nm6.take i) ∧ n' ≤ n + 1 + 8 * i) (i + 1) [scr sc, .ot t (zeros (n' + 1)), .fz (.int m), .ot p (.lst ((rs.map rpD).map .lf ++ [.lf (.tup [.str k, .str (nm6.getD i "")])])), .fz (strsD nm6), .fz (.int (0 + (i : Int))), .fz (.int z), z7, .un] := by
            intro k hk
            have hkof : k ≠ "of" := by rcases hk with rfl | rfl <;> decide +kernel
            refine step (.ot k (nm6.getD i "") []) _ _ _ _ ⟨⟨hkof, (nm6_ok.2.2 _ hin).2, by decide⟩, fun x hx => by simp [RP.ws] at hx; subst hx; exact nm6_len _ hin⟩ ?_ ?_ (by omega)
            · have : (decide (k = "one") || decide (k = "any")) = true := by simpa using hk
              simp only [goodPart, (nm6_ok.2.2 _ hin).1, this]; simp
            · have : namesP (rs ++ [.ot k (nm6.getD i "") []]) = namesP rs ++ [nm6.getD i ""] := by
                have : (decide (k = "one") || decide (k = "any")) = true := by simpa using hk
                simp [namesP, RP.name, hk]
              rw [this, take1]
              exact hsub.append (List.Sublist.refl _)
          refine ws_append (by decide) rfl (wd_tup (wa_cons (wd_if (wt_test (wd_op (wd_var rfl (by decide) (wd_int (o_I0b ⟨_, rfl, ite_b (fun h5 => ?_) (fun h5 => ?_) ⟩))))))))
          · refine wd_str (wa_cons (wd_op (wd_var rfl (by decide) (wd_var rfl (by decide) (o_ixL hix (wa_nil ⟨Nat.le_of_ble_eq_true rfl, _, rfl, by simp; omega, fin _ (.inl rfl) ⟩))))))
          · refine wd_str (wa_cons (wd_op (wd_var rfl (by decide) (wd_var rfl (by decide) (o_ixL hix (wa_nil ⟨Nat.le_of_ble_eq_true rfl, _, rfl, by simp; omega, fin _ (.inr rfl) ⟩))))))
    · rintro mm ⟨rs, n', z5, z6, z7, rfl, hli, hrs, hsub, hn'⟩
      rw [rngD_len] at hli hsub hn'
      refine ⟨rs, n', z5, z6, z7, rfl, ⟨?_, fun r hr => (hrs r hr).1.1, fun r hr => (hrs r hr).2⟩, by omega, by omega⟩
      refine goodP_iff.mpr ⟨by omega, fun r hr => (hrs r hr).1.2, nodup_ddN _ _ ?_ (by simp)⟩
      exact (hsub.trans (List.take_sublist _ _)).nodup nm6_ok.1
  · rintro mm ⟨rs, n', z5, z6, z7, rfl, hni, hle, hn'⟩
    refine ws_ret (wd_freeze 3 rfl (wd_var rfl (by decide) ⟨_, .fz (.ot (.fz .nil)), ?_⟩))
    rw [toD_lst]
    exact hP rs n' hni hle hn'
theorem arg_sh {r : RP} (h : goodPart r = true) : PyData.canLay0 r.arg.py = true ∧ PyData.depth r.arg.py ≤ 2 := by
  rcases goodPart_cases h with ⟨vs, rfl, h1, h2, h3⟩ | ⟨k, s, rfl, hk, h3⟩
  · have := strsD_sh (l := vs) fun x hx => word_ok (h3 x hx)
    obtain ⟨a, b⟩ := str_sh_aux vs fun x hx => word_ok (h3 x hx)
    simp only [RP.arg, strsD, D.py, PyData.canLay0, PyData.depth]
    exact ⟨a, by omega⟩
  · have := strsD_sh (l := [s]) fun x hx => by simp at hx; subst hx; exact word_ok h3
    obtain ⟨a, b⟩ := str_sh_aux [s] fun x hx => by simp at hx; subst hx; exact word_ok h3
    simp only [List.map_cons, List.map_nil, pys, PyData.canLayAll0, Bool.and_true] at a
    refine ⟨a, ?_⟩
    simp [RP.arg, D.py, PyData.depth]
theorem pat_lay : ∀ l : List RP, (∀ r ∈ l, goodPart r = true) → PyData.canLayAll0 (pys (l.map rpD)) = true ∧ PyData.depthAll (pys (l.map rpD)) ≤ 4 := by
  have kinds : ∀ k ∈ (["word", "of", "one", "any"] : List PySem.Str), okS k = true := by decide +kernel
  intro l
  induction l with
  | nil => intro _; simp [pys, PyData.canLayAll0, PyData.depthAll]
  | cons r l ih =>
    intro hl
    obtain ⟨a, b⟩ := ih fun x hx => hl x (List.mem_cons_of_mem _ hx)
    have hg := hl r List.mem_cons_self
    obtain ⟨c, d⟩ := arg_sh hg
    have hk : okS r.kind = true := by
      rcases goodPart_cases hg with ⟨vs, rfl, h1, h2, h3⟩ | ⟨k, s, rfl, hk, h3⟩
      · exact kinds "of" (by simp)
      · rcases hk with rfl | rfl | rfl
        · exact kinds "word" (by simp)
        · exact kinds "one" (by simp)
        · exact kinds "any" (by simp)
    obtain ⟨e, f⟩ := str_sh_aux [r.kind] fun x hx => by simp at hx; subst hx; exact hk
    simp only [List.map_cons, List.map_nil, pys, PyData.canLayAll0, Bool.and_true] at e
    simp only [List.map_cons, pys, good_rp hg, D.py, PyData.canLayAll0, PyData.depthAll, PyData.canLay0, PyData.depth, Bool.and_eq_true]
    refine ⟨⟨⟨e, c, trivial⟩, a⟩, by omega⟩
theorem pat_sh {rs : List RP} (hni : Nice rs) : (patD rs).sh = true := by
  obtain ⟨hlen, hgp, hdd⟩ := goodP_iff.mp hni.good
  obtain ⟨a, b⟩ := pat_lay rs hgp
  unfold D.sh SeqAt.shaped patD
  simp only [D.py, PyData.canLay0, PyData.depth, a, Bool.true_and]
  exact decide_eq_true (by omega)
end M
namespace M
open PySem PySem.Spec PyProof.Rows L2
/-! ### signs in texts -/
theorem occ1_loop (l : List Nat) (c : Nat) : ∀ (m i : Nat) (st : Array Nat × Nat), i + m = l.length + 1 → (st.1.size = 0 → st.2 ≤ i) →
    (forIn (List.range' i m) st (StrLaws.occBody (S l) (S [c]) l.length 1)).run.fst.toList.isEmpty = (decide (st.1.size = 0) && (List.range' i m).all fun k => !decide (l[k]? = some c))
  | 0, i, st, _, _ => by
    obtain ⟨⟨a⟩, b⟩ := st
    cases a <;> simp
  | m + 1, i, st, h, hf => by
    rw [List.range'_succ, List.forIn_cons]
    unfold StrLaws.occBody
    rw [subAt_one]
    have hl1 : (S [c]).length = 1 := rfl
    by_cases hz : st.1.size = 0
    · have hf' := hf hz
      by_cases hc : l[i]? = some c
      · have hi : i < l.length := (List.getElem?_eq_some_iff.mp hc).1
        rw [if_pos ⟨⟨⟨by omega, hf'⟩, by rw [hl1]; omega⟩, by simp [hc]⟩]
        have ih := occ1_loop l c m (i + 1) (st.1.push i, i + (S [c]).length) (by omega) (by simp)
        refine Eq.trans ih ?_
        simp [hc]
      · rw [if_neg (fun z => by simp [hc] at z)]
        have ih := occ1_loop l c m (i + 1) (st.1, st.2) (by omega) (by simp; omega)
        refine Eq.trans ih ?_
        simp [hc]
    · rw [if_neg (fun z => by have := z.1.1.1; omega)]
      have ih := occ1_loop l c m (i + 1) (st.1, st.2) (by omega) (fun z => absurd z hz)
      refine Eq.trans ih ?_
      simp [hz]
theorem occ1 (l : List Nat) (c : Nat) : (!(Builtin.Str.occurrences (S l) (S [c]) 0 (S l).length 1).isEmpty) = decide (c ∈ l) := by
  have e : (S l).length = l.length := S_len l
  rw [e, StrLaws.occ_eq]
  have := occ1_loop l c (l.length + 1) 0 (#[], 0) (by omega) (by simp)
  rw [show l.length + 1 - 0 = l.length + 1 from rfl, this]
  simp only [Array.size_empty, decide_true, Bool.true_and]
  by_cases h : c ∈ l
  · obtain ⟨k, hk⟩ := List.mem_iff_getElem?.mp h
    have hk2 : k < l.length := (List.getElem?_eq_some_iff.mp hk).1
    have : ((List.range' 0 (l.length + 1)).all fun k => !decide (l[k]? = some c)) = false := List.all_eq_false.mpr ⟨k, by simp; omega, by simp [hk]⟩
    simp [this, h]
  · have : ((List.range' 0 (l.length + 1)).all fun k => !decide (l[k]? = some c)) = true := List.all_eq_true.mpr fun k _ => by
      have : ¬ l[k]? = some c := fun z => h (List.mem_of_getElem? z)
      simp [this]
    simp [this, h]
theorem cutS_take (l : List Nat) (k : Nat) : cutS (S l) none (some (k : Int)) = S (l.take k) := by
  unfold cutS
  rw [S_len, sIx_nat']
  show (⟨((l.toArray.toList.drop 0).take (min k l.length - 0)).toArray⟩ : PySem.Str) = S (l.take k)
  rw [List.drop_zero, Nat.sub_zero]
  congr 2
  rcases Nat.le_total k l.length with h | h
  · rw [Nat.min_eq_left h]
  · rw [Nat.min_eq_right h, List.take_of_length_le (by simp), List.take_of_length_le (by simpa using h)]
theorem cutS_drop (l : List Nat) (k : Nat) : cutS (S l) (some (k : Int)) none = S (l.drop k) := by
  unfold cutS
  rw [S_len, sIx_nat']
  show (⟨((l.toArray.toList.drop (min k l.length)).take (l.length - min k l.length)).toArray⟩ : PySem.Str) = S (l.drop k)
  unfold S
  congr 2
  rcases Nat.le_total k l.length with h | h
  · rw [Nat.min_eq_left h, List.take_of_length_le (by simp)]
  · rw [Nat.min_eq_right h, List.drop_eq_nil_of_le (by simp), List.drop_eq_nil_of_le (by simpa using h)]
    simp
theorem cutS_init (l : List Nat) : cutS (S l) none (some (-1)) = S l.dropLast := by
  unfold cutS
  rw [S_len]
  have : HT.sIx l.length l.length (some (-1)) = l.length - 1 := by
    unfold HT.sIx
    simp only
    split <;> omega
  rw [this]
  show (⟨((l.toArray.toList.drop 0).take (l.length - 1 - 0)).toArray⟩ : PySem.Str) = S l.dropLast
  rw [List.drop_zero, Nat.sub_zero, List.dropLast_eq_take]
  rfl
end M
namespace M
open PySem PySem.Spec PyProof.Rows L2
/-! ### the texts of patterns, by signs -/
def joinL (c : Nat) : List (List Nat) → List Nat
  | [] => []
  | [l] => l
  | l :: ls => l ++ c :: joinL c ls
theorem glue_fold (c : Nat) : ∀ (ls : List (List Nat)) (acc : List Nat), ((ls.map S).foldl (fun (a : Array Nat) p => a ++ (S [c]).cps ++ p.cps) acc.toArray) = (acc ++ (ls.flatMap fun l => c :: l)).toArray
  | [], acc => by simp
  | l :: ls, acc => by
    simp only [List.map_cons, List.foldl_cons]
    have : acc.toArray ++ (S [c]).cps ++ (S l).cps = (acc ++ c :: l).toArray := by simp [S]
    rw [this, glue_fold c ls]
    simp
theorem joinL_flat (c : Nat) : ∀ (l : List Nat) (ls : List (List Nat)), joinL c (l :: ls) = l ++ ls.flatMap fun l => c :: l
  | l, [] => by simp [joinL]
  | l, a :: ls => by
    rw [joinL, joinL_flat c a ls]
    · simp
    · simp
theorem join_one (c : Nat) (ls : List (List Nat)) : Txt.join (S [c]) (ls.map S) = S (joinL c ls) := by
  unfold Txt.join Builtin.Str.glued
  cases ls with
  | nil => rfl
  | cons l ls =>
    simp only [List.map_cons, List.drop_succ_cons, List.drop_zero, List.headD_cons]
    have := glue_fold c ls l
    have h1 : (S l).cps = l.toArray := rfl
    rw [h1, this, joinL_flat]
    rfl
theorem splitL_app (c : Nat) : ∀ (l r : List Nat), c ∉ l → splitL c (l ++ c :: r) = l :: splitL c r
  | [], r, _ => by simp [splitL]
  | x :: l, r, h => by
    have hx : x ≠ c := fun z => h (by simp [z])
    have hl : c ∉ l := fun z => h (List.mem_cons_of_mem _ z)
    rw [List.cons_append, splitL, if_neg hx, splitL_app c l r hl]
theorem splitL_none (c : Nat) : ∀ l : List Nat, c ∉ l → splitL c l = [l]
  | [], _ => rfl
  | x :: l, h => by
    have hx : x ≠ c := fun z => h (by simp [z])
    have hl : c ∉ l := fun z => h (List.mem_cons_of_mem _ z)
    rw [splitL, if_neg hx, splitL_none c l hl]
theorem split_join (c : Nat) : ∀ (l : List Nat) (ls : List (List Nat)), (∀ x ∈ l :: ls, c ∉ x) → splitL c (joinL c (l :: ls)) = l :: ls
  | l, [], h => splitL_none c l (h l List.mem_cons_self)
  | l, a :: ls, h => by
    rw [joinL, splitL_app c l _ (h l List.mem_cons_self), split_join c a ls fun x hx => h x (List.mem_cons_of_mem _ hx)]
    simp
/-- the signs of a part -/
def cps (x : PySem.Str) : List Nat := x.cps.toList
def partL : RP → List Nat
  | .of ws => if 1 < ws.length then joinL 124 (ws.map cps) else (ws.headD "").cps.toList ++ [124]
  | .ot k s _ => if k = "word" then cps s else (if k = "one" then 63 else 42) :: cps s
def textL (rs : List RP) : List Nat := joinL 32 (rs.map partL)
def partIn (w : List Nat) : RP :=
  if w.take 1 = [63] then .ot "one" (S (w.drop 1)) []
  else if w.take 1 = [42] then .ot "any" (S (w.drop 1)) []
  else if 124 ∈ w then .of ((splitL 124 (if w.getLast? = some 124 then w.dropLast else w)).map S)
  else .ot "word" (S w) []
def readL (t : List Nat) : List RP := (splitL 32 t).map partIn
/-- is it the text of a pattern? -/
def readsB (t : List Nat) : Bool := goodP (readL t) && decide (textL (readL t) = t)
theorem word_cps {x : PySem.Str} (h : isWordS x = true) : cps x ≠ [] ∧ ∀ c ∈ cps x, isW c = true := by
  unfold isWordS at h
  simp only [Bool.and_eq_true, decide_eq_true_eq, List.all_eq_true] at h
  exact h
theorem isW_not {c : Nat} (h : isW c = true) : c ≠ 32 ∧ c ≠ 63 ∧ c ≠ 42 ∧ c ≠ 124 ∧ c < 128 := by
  unfold isW at h
  simp at h
  omega
theorem part_back {r : RP} (h : goodPart r = true) : partIn (partL r) = r ∧ 32 ∉ partL r := by
  rcases goodPart_cases h with ⟨vs, rfl, h1, h2, h3⟩ | ⟨k, s, rfl, hk, h3⟩
  · have hw : ∀ l ∈ vs.map cps, l ≠ [] ∧ ∀ c ∈ l, isW c = true := fun l hl => by
      obtain ⟨w, hw, rfl⟩ := List.mem_map.mp hl
      exact word_cps (h3 w hw)
    obtain ⟨w0, vs', rfl⟩ : ∃ w0 vs', vs = w0 :: vs' := by
      cases vs with
      | nil => simp at h1
      | cons a b => exact ⟨a, b, rfl⟩
    obtain ⟨h0, h0w⟩ := hw (cps w0) (by simp)
    obtain ⟨c0, r0, ec⟩ : ∃ c r, cps w0 = c :: r := by
      cases q : cps w0 with
      | nil => exact absurd q h0
      | cons c r => exact ⟨c, r, rfl⟩
    have hc0 := isW_not (h0w c0 (by rw [ec]; simp))
    have S_map : ((w0 :: vs').map cps).map S = w0 :: vs' := by
      rw [List.map_map]
      conv => rhs; rw [← List.map_id (w0 :: vs')]
      exact List.map_congr_left fun x _ => S_cps x
    cases vs' with
    | nil =>
      have e : partL (.of [w0]) = cps w0 ++ [124] := rfl
      rw [e]
      have n124 : (124 : Nat) ∉ cps w0 := fun z => (isW_not (h0w _ z)).2.2.2.1 rfl
      refine ⟨?_, fun z => ?_⟩
      · unfold partIn
        rw [ec]
        have a1 : ¬ ((c0 :: r0) ++ [124]).take 1 = [63] := by simp; omega
        have a2 : ¬ ((c0 :: r0) ++ [124]).take 1 = [42] := by simp; omega
        rw [if_neg a1, if_neg a2, if_pos (by simp)]
        have a3 : ((c0 :: r0) ++ [124]).getLast? = some 124 := List.getLast?_concat
        rw [if_pos a3, List.dropLast_concat, ← ec, splitL_none 124 _ n124]
        simpa using S_map
      · rcases List.mem_append.mp z with z | z
        · exact (isW_not (h0w _ z)).1 rfl
        · simp at z
    | cons w1 vs' =>
      have e : partL (.of (w0 :: w1 :: vs')) = joinL 124 ((w0 :: w1 :: vs').map cps) := by simp [partL]
      rw [e]
      have n124 : ∀ x ∈ (w0 :: w1 :: vs').map cps, (124 : Nat) ∉ x := fun x hx z => (isW_not ((hw x hx).2 _ z)).2.2.2.1 rfl
      have hin : ∀ (l : List Nat) (ls : List (List Nat)), (∀ x ∈ l :: ls, ∀ c ∈ x, isW c = true) → ∀ c ∈ joinL 124 (l :: ls), isW c = true ∨ c = 124 := by
        intro l ls hl c hc
        rw [joinL_flat] at hc
        rcases List.mem_append.mp hc with hc | hc
        · exact .inl (hl l List.mem_cons_self c hc)
        · obtain ⟨x, hx, hc⟩ := List.mem_flatMap.mp hc
          rcases List.mem_cons.mp hc with rfl | hc
          · exact .inr rfl
          · exact .inl (hl x (List.mem_cons_of_mem _ hx) c hc)
      have hlast : ∀ (l : List Nat) (ls : List (List Nat)), (∀ x ∈ l :: ls, x ≠ [] ∧ ∀ c ∈ x, isW c = true) → ∃ c, (joinL 124 (l :: ls)).getLast? = some c ∧ isW c = true := by
        intro l ls
        induction ls generalizing l with
        | nil =>
          intro hl
          obtain ⟨a, b⟩ := hl l List.mem_cons_self
          refine ⟨l.getLast a, ?_, b _ (List.getLast_mem a)⟩
          show l.getLast? = _
          exact List.getLast?_eq_some_getLast a
        | cons a ls ih =>
          intro hl
          obtain ⟨c, hc, hw⟩ := ih a fun x hx => hl x (List.mem_cons_of_mem _ hx)
          refine ⟨c, ?_, hw⟩
          rw [joinL]
          · rw [List.getLast?_append, List.getLast?_cons, hc]; rfl
          · simp
      refine ⟨?_, fun z => ?_⟩
      · obtain ⟨cl, hcl, hwl⟩ := hlast (cps w0) ((w1 :: vs').map cps) hw
        have hj : joinL 124 ((w0 :: w1 :: vs').map cps) = c0 :: (r0 ++ 124 :: joinL 124 ((w1 :: vs').map cps)) := by
          simp only [List.map_cons]
          rw [joinL, ec]
          · simp
          · simp
        unfold partIn
        have a1 : ¬ (joinL 124 ((w0 :: w1 :: vs').map cps)).take 1 = [63] := by rw [hj]; simp; omega
        have a2 : ¬ (joinL 124 ((w0 :: w1 :: vs').map cps)).take 1 = [42] := by rw [hj]; simp; omega
        have a3 : 124 ∈ joinL 124 ((w0 :: w1 :: vs').map cps) := by rw [hj]; simp
        have a4 : ¬ (joinL 124 ((w0 :: w1 :: vs').map cps)).getLast? = some 124 := by
          rw [show (w0 :: w1 :: vs').map cps = cps w0 :: (w1 :: vs').map cps from rfl, hcl]
          intro z
          exact (isW_not hwl).2.2.2.1 (Option.some.inj z)
        rw [if_neg a1, if_neg a2, if_pos a3, if_neg a4]
        have := split_join 124 (cps w0) ((w1 :: vs').map cps) n124
        rw [show (w0 :: w1 :: vs').map cps = cps w0 :: (w1 :: vs').map cps from rfl, this]
        rw [show cps w0 :: (w1 :: vs').map cps = (w0 :: w1 :: vs').map cps from rfl, S_map]
      · rcases hin _ _ (fun x hx => (hw x hx).2) 32 z with z | z
        · exact (isW_not z).1 rfl
        · cases z
  · obtain ⟨h0, h0w⟩ := word_cps h3
    obtain ⟨c0, r0, ec⟩ : ∃ c r, cps s = c :: r := by
      cases q : cps s with
      | nil => exact absurd q h0
      | cons c r => exact ⟨c, r, rfl⟩
    have hc0 := isW_not (h0w c0 (by rw [ec]; simp))
    have n32 : (32 : Nat) ∉ cps s := fun z => (isW_not (h0w _ z)).1 rfl
    have n124 : (124 : Nat) ∉ cps s := fun z => (isW_not (h0w _ z)).2.2.2.1 rfl
    have hS : S (cps s) = s := S_cps s
    rcases hk with rfl | rfl | rfl
    · have e : partL (.ot "word" s []) = cps s := by simp [partL]
      rw [e]
      refine ⟨?_, n32⟩
      unfold partIn
      have a1 : ¬ (cps s).take 1 = [63] := by rw [ec]; simp; omega
      have a2 : ¬ (cps s).take 1 = [42] := by rw [ec]; simp; omega
      rw [if_neg a1, if_neg a2, if_neg n124, hS]
    · have e : partL (.ot "one" s []) = 63 :: cps s := by
        simp only [partL]
        rw [if_neg (by decide +kernel), if_pos trivial]
      rw [e]
      refine ⟨?_, fun z => ?_⟩
      · unfold partIn
        rw [if_pos (by simp)]
        simp [hS]
      · simp at z; exact n32 z
    · have e : partL (.ot "any" s []) = 42 :: cps s := by
        simp only [partL]
        rw [if_neg (by decide +kernel), if_neg (by decide +kernel)]
      rw [e]
      refine ⟨?_, fun z => ?_⟩
      · unfold partIn
        rw [if_neg (by simp), if_pos (by simp)]
        simp [hS]
      · simp at z; exact n32 z
theorem read_text {rs : List RP} (hg : goodP rs = true) : readL (textL rs) = rs := by
  obtain ⟨hlen, hgp, hdd⟩ := goodP_iff.mp hg
  unfold readL textL
  cases rs with
  | nil => simp at hlen
  | cons r rs =>
    rw [List.map_cons, split_join 32 (partL r) (rs.map partL) fun x hx => ?_]
    · rw [← List.map_cons (f := partL), List.map_map]
      conv => rhs; rw [← List.map_id (r :: rs)]
      exact List.map_congr_left fun x hx => (part_back (hgp x hx)).1
    · rw [← List.map_cons (f := partL)] at hx
      obtain ⟨y, hy, rfl⟩ := List.mem_map.mp hx
      exact (part_back (hgp y hy)).2
end M
namespace M
open PySem PySem.Spec PyProof.Rows L2
/-! ### texts of patterns, walked -/
def fs_part_text (K : PySem.W.Frag) : FS := fun ms P X => ∃ r, ms = [.fz (rpD r)] ∧ goodPart r = true ∧ (∀ w ∈ r.ws, w.length ≤ 1000) ∧ P (.fz (.str (S (partL r)))) ms
/-- part_text: slots 0 part -/
def t_part_text (K : PySem.W.Frag) : WX → TS := fun W => (tSeq (tIfS (tTest (tOp (rEqA K) (tOp (rIxA K) (tVar 0) (tC (.int 0))) (tC (.str "of")))) (tRet (tIf (tTest (tOp (rI0 fun i j => .bl (decide (j < i))) (tCB (rLenA K) (tCons (tOp (rIxA K) (tVar 0) (tC (.int 1))) tNil)) (tC (.int 1)))) (tM1 (rJoin K) (tC (.str "|")) (tOp (rIxA K) (tVar 0) (tC (.int 1)))) (tOp (rAddA K) (tOp (rIxA K) (tOp (rIxA K) (tVar 0) (tC (.int 1))) (tC (.int 0))) (tC (.str "|"))))) tNext) (tRet (tIf (tTest (tOp (rEqA K) (tOp (rIxA K) (tVar 0) (tC (.int 0))) (tC (.str "word")))) (tOp (rIxA K) (tVar 0) (tC (.int 1))) (tOp (rAddA K) (tIf (tTest (tOp (rEqA K) (tOp (rIxA K) (tVar 0) (tC (.int 0))) (tC (.str "one")))) (tC (.str "?")) (tC (.str "*"))) (tOp (rIxA K) (tVar 0) (tC (.int 1)))))))
theorem len1q : (PySem.Str.ofString "?").length = 1 := by decide +kernel
theorem len1s : (PySem.Str.ofString "*").length = 1 := by decide +kernel
theorem cps_len (x : PySem.Str) : (cps x).length = x.length := rfl
theorem S_cons (c : Nat) (x : PySem.Str) : S [c] ++ x = S (c :: cps x) := by
  conv => lhs; rw [← S_cps x]
  rw [S_append]; rfl
theorem strs_cps (ws : List PySem.Str) : (ws.map cps).map S = ws := by
  rw [List.map_map]
  conv => rhs; rw [← List.map_id ws]
  exact List.map_congr_left fun x _ => S_cps x
theorem sum_len (ws : List PySem.Str) (h : ∀ w ∈ ws, w.length ≤ 1000) : (ws.map (·.length)).sum ≤ 1000 * ws.length := by
  induction ws with
  | nil => simp
  | cons a ws ih =>
    have := ih fun w hw => h w (List.mem_cons_of_mem _ hw)
    have := h a List.mem_cons_self
    simp only [List.map_cons, List.sum_cons, List.length_cons]
    omega
theorem h_part_text {K : PySem.W.Frag} : FsOk K 1 1 (fs_part_text K) (t_part_text K) := by
  intro ms P X hf
  obtain ⟨r, rfl, hg, hl, hP⟩ := hf
  refine ⟨rfl, ?_⟩
  unfold t_part_text
  have fin : ∀ {x : PySem.Str}, x = S (partL r) → ∃ ms', Back [.fz (rpD r)] [.fz (rpD r)] ms' ∧ P (.fz (.str x)) ms' := fun e => ⟨_, .fz .nil, e ▸ hP⟩
  rw [good_rp hg] at *
  rcases goodPart_cases hg with ⟨vs, rfl, h1, h2, h3⟩ | ⟨k, s, rfl, hk, h3⟩
  · (repeat (first | refine wd_var rfl (by decide) ?_ | with_reducible refine wd_int ?_ | with_reducible refine wd_str ?_ | with_reducible refine wd_bl ?_ | with_reducible refine wd_non ?_ | with_reducible refine wd_op ?_ | with_reducible refine wd_cb ?_ | with_reducible refine wa_cons ?_ | with_reducible refine wa_nil ?_ | with_reducible refine ws_seq ?_ | refine ws_set (by decide) ?_ | with_reducible refine ws_ret ?_ | with_reducible refine ws_if ?_ | with_reducible refine ws_next ?_ | with_reducible refine wt_rng ?_ | with_reducible refine wt_test ?_ | with_reducible refine wt_B ?_ | with_reducible refine wt_and ?_ | with_reducible refine wt_or ?_ | with_reducible refine wt_not ?_ | with_reducible refine wt_tru ?_ | with_reducible refine wd_if ?_ | with_reducible refine wd_andV ?_ | with_reducible refine wd_orV ?_ | with_reducible refine wd_notV ?_ | with_reducible refine wd_chain ?_ | with_reducible refine wd_tup ?_ | with_reducible refine wd_lst ?_ | with_reducible refine wd_un ?_ | with_reducible refine wd_bm ?_ | with_reducible refine wd_sl ?_ | with_reducible refine wo_none ?_ | with_reducible refine wo_some ?_ | with_reducible refine ws_asg ?_ | refine wg_tup rfl ?_ | with_reducible refine wgs_cons ?_ | with_reducible refine wgs_nil ?_ | refine wg_name (by decide) ?_ | with_reducible refine o_eqS ?_ | with_reducible refine o_neS ?_ | with_reducible refine o_eqI ?_ | with_reducible refine o_neI ?_ | refine o_isN rfl ?_ | refine o_notN rfl ?_ | refine o_ixT rfl ?_ | with_reducible refine o_addI ?_ | with_reducible refine o_I0b ?_ | with_reducible refine o_I0i ?_ | with_reducible refine un_negI ?_ | with_reducible refine s_lst ?_ | with_reducible refine wt_yes ?_ | refine c_len rfl (by first | omega | (simp <;> omega)) ?_ | refine o_addL (by first | omega | (simp <;> omega)) ?_ | refine ite_t rfl ?_ | refine ite_f rfl ?_ | refine ite_t (by decide +kernel) ?_ | refine ite_f (by decide +kernel) ?_ | refine o_inT rfl rfl ?_ | refine o_notInT rfl rfl ?_ | refine ⟨_, rfl, ?_⟩ | refine ⟨Nat.le_of_ble_eq_true rfl, ?_⟩ | refine ⟨fun _ _ _ => ty_lst, ?_⟩))
    refine ite_b (fun h => ?_) (fun h => ?_)
    · have h' : 1 < vs.length := by simp at h; omega
      refine wd_m1 (wd_str ⟨_, rfl, wd_op (wd_var rfl (by decide) (wd_int (o_ixT rfl (b_join ?_ (fin ?_)))))⟩)
      · have := sum_len vs hl
        have h2 : (PySem.Str.ofString "|").length = 1 := by decide +kernel
        rw [h2]
        omega
      · have := join_one 124 (vs.map cps)
        rw [strs_cps] at this
        simp only [partL]
        rw [if_pos h']
        exact this
    · have h' : ¬ 1 < vs.length := by simp at h; omega
      obtain ⟨w0, rfl⟩ : ∃ w0, vs = [w0] := by
        cases vs with
        | nil => simp at h1
        | cons a b =>
          cases b with
          | nil => exact ⟨a, rfl⟩
          | cons _ _ => simp at h'
      refine wd_op (wd_op (wd_op (wd_var rfl (by decide) (wd_int (o_ixT rfl (wd_int (o_ixL rfl (wd_str (o_addS ?_ (fin ?_) )))))))))
      · have := hl w0 (by simp [RP.ws])
        have h2 : (PySem.Str.ofString "|").length = 1 := by decide +kernel
        rw [h2]; omega
      · conv => lhs; rw [← S_cps w0]
        exact S_append _ _
  · have hls := hl s (by simp [RP.ws])
    rcases hk with rfl | rfl | rfl
    · (repeat (first | refine wd_var rfl (by decide) ?_ | with_reducible refine wd_int ?_ | with_reducible refine wd_str ?_ | with_reducible refine wd_bl ?_ | with_reducible refine wd_non ?_ | with_reducible refine wd_op ?_ | with_reducible refine wd_cb ?_ | with_reducible refine wa_cons ?_ | with_reducible refine wa_nil ?_ | with_reducible refine ws_seq ?_ | refine ws_set (by decide) ?_ | with_reducible refine ws_ret ?_ | with_reducible refine ws_if ?_ | with_reducible refine ws_next ?_ | with_reducible refine wt_rng ?_ | with_reducible refine wt_test ?_ | with_reducible refine wt_B ?_ | with_reducible refine wt_and ?_ | with_reducible refine wt_or ?_ | with_reducible refine wt_not ?_ | with_reducible refine wt_tru ?_ | with_reducible refine wd_if ?_ | with_reducible refine wd_andV ?_ | with_reducible refine wd_orV ?_ | with_reducible refine wd_notV ?_ | with_reducible refine wd_chain ?_ | with_reducible refine wd_tup ?_ | with_reducible refine wd_lst ?_ | with_reducible refine wd_un ?_ | with_reducible refine wd_bm ?_ | with_reducible refine wd_sl ?_ | with_reducible refine wo_none ?_ | with_reducible refine wo_some ?_ | with_reducible refine ws_asg ?_ | refine wg_tup rfl ?_ | with_reducible refine wgs_cons ?_ | with_reducible refine wgs_nil ?_ | refine wg_name (by decide) ?_ | with_reducible refine o_eqS ?_ | with_reducible refine o_neS ?_ | with_reducible refine o_eqI ?_ | with_reducible refine o_neI ?_ | refine o_isN rfl ?_ | refine o_notN rfl ?_ | refine o_ixT rfl ?_ | with_reducible refine o_addI ?_ | with_reducible refine o_I0b ?_ | with_reducible refine o_I0i ?_ | with_reducible refine un_negI ?_ | with_reducible refine s_lst ?_ | with_reducible refine wt_yes ?_ | refine c_len rfl (by first | omega | (simp <;> omega)) ?_ | refine o_addL (by first | omega | (simp <;> omega)) ?_ | refine ite_t rfl ?_ | refine ite_f rfl ?_ | refine ite_t (by decide +kernel) ?_ | refine ite_f (by decide +kernel) ?_ | refine o_inT rfl rfl ?_ | refine o_notInT rfl rfl ?_ | refine ⟨_, rfl, ?_⟩ | refine ⟨Nat.le_of_ble_eq_true rfl, ?_⟩ | refine ⟨fun _ _ _ => ty_lst, ?_⟩))
      refine fin ?_
      have : partL (.ot "word" s []) = cps s := by simp [partL]
      rw [this]; exact (S_cps s).symm
    · (repeat (first | refine wd_var rfl (by decide) ?_ | with_reducible refine wd_int ?_ | with_reducible refine wd_str ?_ | with_reducible refine wd_bl ?_ | with_reducible refine wd_non ?_ | with_reducible refine wd_op ?_ | with_reducible refine wd_cb ?_ | with_reducible refine wa_cons ?_ | with_reducible refine wa_nil ?_ | with_reducible refine ws_seq ?_ | refine ws_set (by decide) ?_ | with_reducible refine ws_ret ?_ | with_reducible refine ws_if ?_ | with_reducible refine ws_next ?_ | with_reducible refine wt_rng ?_ | with_reducible refine wt_test ?_ | with_reducible refine wt_B ?_ | with_reducible refine wt_and ?_ | with_reducible refine wt_or ?_ | with_reducible refine wt_not ?_ | with_reducible refine wt_tru ?_ | with_reducible refine wd_if ?_ | with_reducible refine wd_andV ?_ | with_reducible refine wd_orV ?_ | with_reducible refine wd_notV ?_ | with_reducible refine wd_chain ?_ | with_reducible refine wd_tup ?_ | with_reducible refine wd_lst ?_ | with_reducible refine wd_un ?_ | with_reducible refine wd_bm ?_ | with_reducible refine wd_sl ?_ | with_reducible refine wo_none ?_ | with_reducible refine wo_some ?_ | with_reducible refine ws_asg ?_ | refine wg_tup rfl ?_ | with_reducible refine wgs_cons ?_ | with_reducible refine wgs_nil ?_ | refine wg_name (by decide) ?_ | with_reducible refine o_eqS ?_ | with_reducible refine o_neS ?_ | with_reducible refine o_eqI ?_ | with_reducible refine o_neI ?_ | refine o_isN rfl ?_ | refine o_notN rfl ?_ | refine o_ixT rfl ?_ | with_reducible refine o_addI ?_ | with_reducible refine o_I0b ?_ | with_reducible refine o_I0i ?_ | with_reducible refine un_negI ?_ | with_reducible refine s_lst ?_ | with_reducible refine wt_yes ?_ | refine c_len rfl (by first | omega | (simp <;> omega)) ?_ | refine o_addL (by first | omega | (simp <;> omega)) ?_ | refine ite_t rfl ?_ | refine ite_f rfl ?_ | refine ite_t (by decide +kernel) ?_ | refine ite_f (by decide +kernel) ?_ | refine o_inT rfl rfl ?_ | refine o_notInT rfl rfl ?_ | refine ⟨_, rfl, ?_⟩ | refine ⟨Nat.le_of_ble_eq_true rfl, ?_⟩ | refine ⟨fun _ _ _ => ty_lst, ?_⟩))
      refine o_addS (by rw [len1q]; omega) (fin ?_)
      have e : partL (.ot "one" s []) = 63 :: cps s := by
        simp only [partL]
        rw [if_neg (by decide +kernel), if_pos trivial]
      rw [e]
      exact S_cons 63 s
    · (repeat (first | refine wd_var rfl (by decide) ?_ | with_reducible refine wd_int ?_ | with_reducible refine wd_str ?_ | with_reducible refine wd_bl ?_ | with_reducible refine wd_non ?_ | with_reducible refine wd_op ?_ | with_reducible refine wd_cb ?_ | with_reducible refine wa_cons ?_ | with_reducible refine wa_nil ?_ | with_reducible refine ws_seq ?_ | refine ws_set (by decide) ?_ | with_reducible refine ws_ret ?_ | with_reducible refine ws_if ?_ | with_reducible refine ws_next ?_ | with_reducible refine wt_rng ?_ | with_reducible refine wt_test ?_ | with_reducible refine wt_B ?_ | with_reducible refine wt_and ?_ | with_reducible refine wt_or ?_ | with_reducible refine wt_not ?_ | with_reducible refine wt_tru ?_ | with_reducible refine wd_if ?_ | with_reducible refine wd_andV ?_ | with_reducible refine wd_orV ?_ | with_reducible refine wd_notV ?_ | with_reducible refine wd_chain ?_ | with_reducible refine wd_tup ?_ | with_reducible refine wd_lst ?_ | with_reducible refine wd_un ?_ | with_reducible refine wd_bm ?_ | with_reducible refine wd_sl ?_ | with_reducible refine wo_none ?_ | with_reducible refine wo_some ?_ | with_reducible refine ws_asg ?_ | refine wg_tup rfl ?_ | with_reducible refine wgs_cons ?_ | with_reducible refine wgs_nil ?_ | refine wg_name (by decide) ?_ | with_reducible refine o_eqS ?_ | with_reducible refine o_neS ?_ | with_reducible refine o_eqI ?_ | with_reducible refine o_neI ?_ | refine o_isN rfl ?_ | refine o_notN rfl ?_ | refine o_ixT rfl ?_ | with_reducible refine o_addI ?_ | with_reducible refine o_I0b ?_ | with_reducible refine o_I0i ?_ | with_reducible refine un_negI ?_ | with_reducible refine s_lst ?_ | with_reducible refine wt_yes ?_ | refine c_len rfl (by first | omega | (simp <;> omega)) ?_ | refine o_addL (by first | omega | (simp <;> omega)) ?_ | refine ite_t rfl ?_ | refine ite_f rfl ?_ | refine ite_t (by decide +kernel) ?_ | refine ite_f (by decide +kernel) ?_ | refine o_inT rfl rfl ?_ | refine o_notInT rfl rfl ?_ | refine ⟨_, rfl, ?_⟩ | refine ⟨Nat.le_of_ble_eq_true rfl, ?_⟩ | refine ⟨fun _ _ _ => ty_lst, ?_⟩))
      refine o_addS (by rw [len1s]; omega) (fin ?_)
      have e : partL (.ot "any" s []) = 42 :: cps s := by
        simp only [partL]
        rw [if_neg (by decide +kernel), if_neg (by decide +kernel)]
      rw [e]
      exact S_cons 42 s
def fs_text_of (K : PySem.W.Frag) : FS := fun ms P X => ∃ rs, ms = [.fz (patD rs)] ∧ rs.length ≤ 100 ∧ (∀ r ∈ rs, goodPart r = true ∧ ∀ w ∈ r.ws, w.length ≤ 1000) ∧ P (.fz (.str (S (textL rs)))) ms
/-- text_of: slots 0 pattern, 1 part -/
def t_text_of (K : PySem.W.Frag) : WX → TS := fun W => (tRet (tM1 (rJoin K) (tC (.str " ")) (tLcW (iList K (tVar 0)) (gName 1) (fun W => tYes) (fun W => (tCallS (SpM K (fs_part_text K)) (WE W) (tCons (tVar 1) tNil))) [1])))
theorem partL_len {r : RP} (hg : goodPart r = true) (hl : ∀ w ∈ r.ws, w.length ≤ 1000) : (partL r).length ≤ 4100 := by
  rcases goodPart_cases hg with ⟨vs, rfl, h1, h2, h3⟩ | ⟨k, s, rfl, hk, h3⟩
  · have hf : ∀ (l : List Nat) (ls : List (List Nat)), (∀ x ∈ l :: ls, x.length ≤ 1000) → (joinL 124 (l :: ls)).length ≤ 1001 * (ls.length + 1) := by
      intro l ls
      induction ls generalizing l with
      | nil =>
        intro h
        have := h l List.mem_cons_self
        show l.length ≤ _
        simp; omega
      | cons a ls ih =>
        intro h
        have h1 := ih a fun x hx => h x (List.mem_cons_of_mem _ hx)
        have h2 := h l List.mem_cons_self
        rw [joinL]
        · simp only [List.length_append, List.length_cons] at h1 ⊢
          omega
        · simp
    simp only [partL]
    split
    · cases vs with
      | nil => simp at h1
      | cons a b =>
        have := hf (cps a) (b.map cps) (fun x hx => by
          rw [← List.map_cons (f := cps)] at hx
          obtain ⟨y, hy, rfl⟩ := List.mem_map.mp hx
          exact hl y hy)
        simp at h2 this ⊢
        omega
    · cases vs with
      | nil => simp at h1
      | cons a b =>
        have := hl a (by simp [RP.ws])
        rw [← cps_len] at this
        simp only [List.headD_cons, List.length_append, List.length_cons, List.length_nil]
        show (cps a).length + _ ≤ _
        omega
  · have := hl s (by simp [RP.ws])
    rw [← cps_len] at this
    simp only [partL]
    split
    · omega
    · simp only [List.length_cons]; omega
theorem h_text_of {K : PySem.W.Frag} : FsOk K 1 2 (fs_text_of K) (t_text_of K) := by
  intro ms P X hf
  obtain ⟨rs, rfl, hl, hg, hP⟩ := hf
  refine ⟨rfl, ?_⟩
  unfold t_text_of
  refine ws_ret (wd_m1 (wd_str ⟨_, rfl, wd_lcMap (by decide) (gok_name (by decide)) (wi_list (wd_var rfl (by decide) ⟨_, rfl, ?_ ⟩))⟩))
  refine ⟨by simp; omega, fun _ => true, fun d => match d with | .tup (.str k :: .str s :: _) => .str (S (partL (.ot k s []))) | .tup (.str _ :: .lst ds :: _) => .str (S (partL (.of (ds.map fun e => match e with | .str x => x | _ => "")))) | _ => .non, fun d hd => ?_, ?_⟩
  · obtain ⟨r, hr, rfl⟩ := List.mem_map.mp hd
    refine wg_name (by decide) (wt_yes ⟨rfl, rfl, fun _ => ?_⟩)
    refine wd_call [] (wa_cons (wd_var rfl (by decide) (wa_nil ⟨_, _, .nil, r, rfl, (hg r hr).1, (hg r hr).2, _, _, .nil, _, rfl, ?_, rfl ⟩)))
    rcases goodPart_cases (hg r hr).1 with ⟨vs, rfl, h1, h2, h3⟩ | ⟨k, s, rfl, hk, h3⟩
    · show D.str (S (partL (.of vs))) = D.str (S (partL (.of ((vs.map D.str).map fun e => match e with | .str x => x | _ => ""))))
      rw [List.map_map]
      have : vs.map ((fun e : D => match e with | .str x => x | _ => "") ∘ D.str) = vs := by
        conv => rhs; rw [← List.map_id vs]
        exact List.map_congr_left fun x _ => rfl
      rw [this]
    · rfl
  · rw [filt_true, List.map_map]
    have e : rs.map ((fun d : D => match d with | .tup (.str k :: .str s :: _) => D.str (S (partL (.ot k s []))) | .tup (.str _ :: .lst ds :: _) => .str (S (partL (.of (ds.map fun e => match e with | .str x => x | _ => "")))) | _ => .non) ∘ rpD) = ((rs.map partL).map S).map D.str := by
      rw [List.map_map, List.map_map]
      refine List.map_congr_left fun r hr => ?_
      rcases goodPart_cases (hg r hr).1 with ⟨vs, rfl, h1, h2, h3⟩ | ⟨k, s, rfl, hk, h3⟩
      · show D.str (S (partL (.of ((vs.map D.str).map fun e => match e with | .str x => x | _ => "")))) = D.str (S (partL (.of vs)))
        rw [List.map_map]
        have : vs.map ((fun e : D => match e with | .str x => x | _ => "") ∘ D.str) = vs := by
          conv => rhs; rw [← List.map_id vs]
          exact List.map_congr_left fun x _ => rfl
        rw [this]
      · rfl
    rw [e]
    refine b_join ?_ ⟨_, .fz .nil, ?_⟩
    · have : (((rs.map partL).map S).map (·.length)).sum ≤ 4100 * rs.length := by
        clear e hP
        induction rs with
        | nil => simp
        | cons r rs ih =>
          have h1 := ih (by simp at hl; omega) fun x hx => hg x (List.mem_cons_of_mem _ hx)
          have h2 := partL_len (hg r List.mem_cons_self).1 (hg r List.mem_cons_self).2
          simp only [List.map_cons, List.sum_cons, List.length_cons, S_len] at h1 ⊢
          omega
      have h2 : (PySem.Str.ofString " ").length = 1 := by decide +kernel
      rw [h2]
      simp at this ⊢
      omega
    · have := join_one 32 (rs.map partL)
      have e32 : S [32] = " " := by decide +kernel
      rw [e32] at this
      rw [this]
      exact hP
end M
namespace M
open PySem PySem.Spec PyProof.Rows L2
/-! ### reading, walked -/
def fs_pattern_text (K : PySem.W.Frag) : FS := fun ms P X => ∃ rs, ms = [.fz (patD rs)] ∧ rs.length ≤ 1000 ∧ (∀ r ∈ rs, r.ok) ∧ (goodP rs = true → P (.fz (.str (S (textL rs)))) ms) ∧ (goodP rs = false → X (.ref (He.ga K "BadPattern")) ms)
/-- pattern_text: slots 0 pattern -/
def t_pattern_text (K : PySem.W.Frag) : WX → TS := fun W => (tSeq (tDrop (tCallS (SpM K (fs_look_pattern K)) (WE W) (tCons (tVar 0) tNil))) (tRet (tCallS (SpM K (fs_text_of K)) (WE W) (tCons (tVar 0) tNil))))
theorem ok_ws {r : RP} (h : r.ok) : ∀ w ∈ r.ws, w.length ≤ 1000 := fun w hw => (ascS_iff.mp (h.ws.2 w hw)).1
theorem h_pattern_text {K : PySem.W.Frag} : FsOk K 1 1 (fs_pattern_text K) (t_pattern_text K) := by
  intro ms P X hf
  obtain ⟨rs, rfl, hl, hok, hP, hX⟩ := hf
  refine ⟨rfl, ?_⟩
  unfold t_pattern_text
  refine ws_seq (ws_drop (wd_call [] (wa_cons (wd_var rfl (by decide) (wa_nil ⟨_, _, .nil, rs, rfl, hl, hok, fun hg => ⟨_, _, .nil, _, rfl, ?_⟩, fun hg => ⟨_, _, .nil, _, .fz .nil, hX hg⟩ ⟩)))))
  obtain ⟨hlen, hgp, hdd⟩ := goodP_iff.mp hg
  exact ws_ret (wd_call [] (wa_cons (wd_var rfl (by decide) (wa_nil ⟨_, _, .nil, rs, rfl, by omega, fun r hr => ⟨hgp r hr, ok_ws (hok r hr)⟩, _, _, .nil, _, rfl, _, .fz .nil, hP hg ⟩))))
def fs_part_in (K : PySem.W.Frag) : FS := fun ms P X => ∃ w, ms = [.fz (.str (S w))] ∧ w.length ≤ 1000 ∧ P (.fz (rpD (partIn w))) ms
/-- part_in: slots 0 word -/
def t_part_in (K : PySem.W.Frag) : WX → TS := fun W => (tSeq (tIfS (tTest (tOp (rEqA K) (L2.tSl (rSlA' K) (tVar 0) tNoPart (tPart (tC (.int 1)))) (tC (.str "?")))) (tRet (tTup (tCons (tC (.str "one")) (tCons (L2.tSl (rSlA' K) (tVar 0) (tPart (tC (.int 1))) tNoPart) tNil)))) tNext) (tSeq (tIfS (tTest (tOp (rEqA K) (L2.tSl (rSlA' K) (tVar 0) tNoPart (tPart (tC (.int 1)))) (tC (.str "*")))) (tRet (tTup (tCons (tC (.str "any")) (tCons (L2.tSl (rSlA' K) (tVar 0) (tPart (tC (.int 1))) tNoPart) tNil)))) tNext) (tSeq (tIfS (tTest (tOp (rInA K) (tC (.str "|")) (tVar 0))) (tRet (tTup (tCons (tC (.str "of")) (tCons (tIf (tTest (tOp (rEqA K) (tOp (rIxA K) (tVar 0) (tUn (rU fun i => .int (-i)) (tC (.int 1)))) (tC (.str "|")))) (tM1 rSplit (L2.tSl (rSlA' K) (tVar 0) tNoPart (tPart (tUn (rU fun i => .int (-i)) (tC (.int 1))))) (tC (.str "|"))) (tM1 rSplit (tVar 0) (tC (.str "|")))) tNil)))) tNext) (tRet (tTup (tCons (tC (.str "word")) (tCons (tVar 0) tNil)))))))
theorem S_eq (l : List Nat) (c : Nat) (x : PySem.Str) (hx : x = S [c]) : decide (S l = x) = decide (l = [c]) := by
  subst hx
  by_cases h : l = [c]
  · simp [h]
  · have : ¬ S l = S [c] := fun z => h (S_inj z)
    simp [h, this]
theorem last_at (l : List Nat) (h : l ≠ []) : L2.atI l (-1) = l.getLast? := by
  obtain ⟨a, b, rfl⟩ : ∃ a b, l = a ++ [b] := ⟨_, _, (List.dropLast_concat_getLast h).symm⟩
  rw [atI_last, List.getLast?_concat]
theorem h_part_in {K : PySem.W.Frag} : FsOk K 1 1 (fs_part_in K) (t_part_in K) := by
  intro ms P X hf
  obtain ⟨w, rfl, hl, hP⟩ := hf
  refine ⟨rfl, ?_⟩
  unfold t_part_in
  have hSl : (S w).length ≤ 1000000 := by rw [S_len]; omega
  have fin : ∀ {d : D}, d = rpD (partIn w) → ∃ ms', Back [.fz (.str (S w))] [.fz (.str (S w))] ms' ∧ P (.fz d) ms' := fun e => ⟨_, .fz .nil, e ▸ hP⟩
  have cut1 : cutS (S w) none (some 1) = S (w.take 1) := cutS_take w 1
  have cutd : cutS (S w) (some 1) none = S (w.drop 1) := cutS_drop w 1
  refine ws_seq (ws_if (wt_test (wd_op (wd_sl (wd_var rfl (by decide) (wo_none (wo_some (wd_int ⟨_, rfl, s_str hSl (wd_str (o_eqS ⟨_, rfl, ?_ ⟩))⟩))))))))
  rw [cut1, S_eq _ 63 _ (by decide +kernel)]
  refine ite_b (fun h => ?_) (fun h => ws_next ?_)
  · have h' := of_decide_eq_true h
    refine ws_ret (wd_tup (wa_cons (wd_str (wa_cons (wd_sl (wd_var rfl (by decide) (wo_some (wd_int ⟨_, rfl, wo_none (s_str hSl (wa_nil ⟨Nat.le_of_ble_eq_true rfl, fin ?_ ⟩))⟩))))))))
    rw [cutd]
    unfold partIn
    rw [if_pos h']; rfl
  · have h1 := of_decide_eq_false h
    refine ws_seq (ws_if (wt_test (wd_op (wd_sl (wd_var rfl (by decide) (wo_none (wo_some (wd_int ⟨_, rfl, s_str hSl (wd_str (o_eqS ⟨_, rfl, ?_ ⟩))⟩))))))))
    rw [cut1, S_eq _ 42 _ (by decide +kernel)]
    refine ite_b (fun h => ?_) (fun h => ws_next ?_)
    · have h' := of_decide_eq_true h
      refine ws_ret (wd_tup (wa_cons (wd_str (wa_cons (wd_sl (wd_var rfl (by decide) (wo_some (wd_int ⟨_, rfl, wo_none (s_str hSl (wa_nil ⟨Nat.le_of_ble_eq_true rfl, fin ?_ ⟩))⟩))))))))
      rw [cutd]
      unfold partIn
      rw [if_neg h1, if_pos h']; rfl
    · have h2 := of_decide_eq_false h
      refine ws_seq (ws_if (wt_test (wd_op (wd_str (wd_var rfl (by decide) (o_inS ⟨_, rfl, ?_ ⟩))))))
      have e124 : PySem.Str.ofString "|" = S [124] := by decide +kernel
      rw [e124, occ1]
      refine ite_b (fun h => ?_) (fun h => ws_next ?_)
      · have h3 : 124 ∈ w := of_decide_eq_true h
        have hne : w ≠ [] := fun z => by rw [z] at h3; cases h3
        have hlast := last_at w hne
        obtain ⟨cl, hcl⟩ : ∃ c, w.getLast? = some c := ⟨_, List.getLast?_eq_some_getLast hne⟩
        have hpi : partIn w = .of ((splitL 124 (if w.getLast? = some 124 then w.dropLast else w)).map S) := by
          unfold partIn
          rw [if_neg h1, if_neg h2, if_pos h3]
        refine ws_ret (wd_tup (wa_cons (wd_str (wa_cons (wd_if (wt_test (wd_op (wd_op (wd_var rfl (by decide) (wd_un (wd_int (un_negI (o_ixS (c := cl) hSl (by rw [← hcl]; exact hlast) (wd_str (o_eqS ⟨_, rfl, ?_ ⟩)))))))))))))))
        have : decide ((⟨#[cl]⟩ : PySem.Str) = S [124]) = decide (cl = 124) := by
          have := S_eq [cl] 124 _ rfl
          simpa [S] using this
        rw [this]
        refine ite_b (fun h => ?_) (fun h => ?_)
        · have h' : cl = 124 := of_decide_eq_true h
          refine wd_m1 (wd_sl (wd_var rfl (by decide) (wo_none (wo_some (wd_un (wd_int (un_negI ⟨_, rfl, s_str hSl ⟨_, rfl, wd_str ?_ ⟩⟩)))))))
          have ci : cutS (S w) none (some (-1)) = S w.dropLast := cutS_init w
          rw [ci]
          refine b_split (by decide +kernel) (by rw [S_len]; simp; omega) (wa_nil ⟨Nat.le_of_ble_eq_true rfl, fin ?_⟩)
          rw [split_one _ _ (by decide), hpi, hcl, h', if_pos rfl]; rfl
        · have h' : ¬ cl = 124 := of_decide_eq_false h
          refine wd_m1 (wd_var rfl (by decide) ⟨_, rfl, wd_str (b_split (by decide +kernel) hSl (wa_nil ⟨Nat.le_of_ble_eq_true rfl, fin ?_ ⟩))⟩)
          rw [split_one _ _ (by decide), hpi, hcl, if_neg (fun z => h' (Option.some.inj z))]; rfl
      · have h3 : ¬ 124 ∈ w := of_decide_eq_false h
        refine ws_ret (wd_tup (wa_cons (wd_str (wa_cons (wd_var rfl (by decide) (wa_nil ⟨Nat.le_of_ble_eq_true rfl, fin ?_ ⟩))))))
        unfold partIn
        rw [if_neg h1, if_neg h2, if_neg h3]; rfl
/-- a text that may be read -/
def txtL (t : List Nat) : Prop := t.length ≤ 99 ∧ ∀ c ∈ t, c < 128
def fs_read_pattern (K : PySem.W.Frag) : FS := fun ms P X => ∃ t, ms = [.fz (.str (S t))] ∧ txtL t ∧ (readsB t = true → P (.fz (patD (readL t))) ms) ∧ (readsB t = false → X (.ref (He.ga K "BadText")) ms)
/-- read_pattern: slots 0 text, 1 found, 2 good, 3 word -/
def t_read_pattern (K : PySem.W.Frag) : WX → TS := fun W => (tSeq (tAsg (tLcW (iList K (tM1 rSplit (tVar 0) (tC (.str " ")))) (gName 3) (fun W => tYes) (fun W => (tCallS (SpM K (fs_part_in K)) (WE W) (tCons (tVar 3) tNil))) [3]) (gName 1)) (tSeq (tAsg (tC (.bl true)) (gName 2)) (tSeq (tTryOnly K (He.ga K "BadPattern") (fun W => (tDrop (tCallS (SpM K (fs_look_pattern K)) (WE W) (tCons (tVar 1) tNil)))) (tAsg (tC (.bl false)) (gName 2)) W) (tSeq (tIfS (tOr (tNot (tTru K (tVar 2))) (tTest (tOp (rNeA K) (tCallS (SpM K (fs_text_of K)) (WE W) (tCons (tVar 1) tNil)) (tVar 0)))) (fun _ σ H => W (.ref (He.ga K "BadText")) none σ H) tNext) (tRet (tVar 1))))))
theorem splitL_mem (c : Nat) : ∀ (l : List Nat) (w : List Nat), w ∈ splitL c l → w.length ≤ l.length ∧ ∀ x ∈ w, x ∈ l
  | [], w, h => by simp [splitL] at h; subst h; simp
  | x :: l, w, h => by
    simp only [splitL] at h
    split at h
    · rcases List.mem_cons.mp h with rfl | h
      · simp
      · obtain ⟨a, b⟩ := splitL_mem c l w h
        exact ⟨by simp; omega, fun y hy => List.mem_cons_of_mem _ (b y hy)⟩
    · cases q : splitL c l with
      | nil => exact absurd q (splitL_ne c l)
      | cons w0 ws =>
        rw [q] at h
        have ih := splitL_mem c l
        rw [q] at ih
        rcases List.mem_cons.mp h with rfl | h
        · obtain ⟨a, b⟩ := ih w0 List.mem_cons_self
          refine ⟨by simp; omega, fun y hy => ?_⟩
          rcases List.mem_cons.mp hy with rfl | hy
          · exact List.mem_cons_self
          · exact List.mem_cons_of_mem _ (b y hy)
        · obtain ⟨a, b⟩ := ih w (List.mem_cons_of_mem _ h)
          exact ⟨by simp; omega, fun y hy => List.mem_cons_of_mem _ (b y hy)⟩
theorem asc_S {l : List Nat} (hl : l.length ≤ 1000) (hc : ∀ c ∈ l, c < 128) : ascS (S l) = true := ascS_iff.mpr ⟨by rw [S_len]; exact hl, fun c h => hc c (by simpa [S] using h)⟩
theorem partIn_ok {w : List Nat} (hl : w.length ≤ 99) (hc : ∀ c ∈ w, c < 128) : (partIn w).ok := by
  unfold partIn
  split
  · exact ⟨by decide +kernel, asc_S (by simp; omega) (fun c h => hc c (List.mem_of_mem_drop h)), by decide⟩
  · split
    · exact ⟨by decide +kernel, asc_S (by simp; omega) (fun c h => hc c (List.mem_of_mem_drop h)), by decide⟩
    · split
      · have hw : ∀ u : List Nat, u.length ≤ 99 → (∀ c ∈ u, c < 128) → RP.ok (.of ((splitL 124 u).map S)) := fun u hu hcu => by
          refine ⟨by have := splitL_len 124 u; simp; omega, fun x hx => ?_⟩
          obtain ⟨y, hy, rfl⟩ := List.mem_map.mp hx
          obtain ⟨a, b⟩ := splitL_mem 124 u y hy
          exact asc_S (by omega) fun c h => hcu c (b c h)
        split
        · exact hw _ (by simp; omega) fun c h => hc c ((List.dropLast_sublist w).subset h)
        · exact hw _ hl hc
      · exact ⟨by decide +kernel, asc_S (by omega) hc, by decide⟩
theorem readL_ok {t : List Nat} (ht : txtL t) : (readL t).length ≤ 100 ∧ ∀ r ∈ readL t, r.ok := by
  refine ⟨by unfold readL; have := splitL_len 32 t; have := ht.1; simp; omega, fun r hr => ?_⟩
  obtain ⟨w, hw, rfl⟩ := List.mem_map.mp hr
  obtain ⟨a, b⟩ := splitL_mem 32 t w hw
  exact partIn_ok (by have := ht.1; omega) fun c h => ht.2 c (b c h)
theorem h_read_pattern {K : PySem.W.Frag} (xf : XF K) : FsOk K 1 4 (fs_read_pattern K) (t_read_pattern K) := by
  intro ms P X hf
  obtain ⟨t, rfl, ht, hP, hX⟩ := hf
  refine ⟨rfl, ?_⟩
  obtain ⟨hrl, hro⟩ := readL_ok ht
  unfold t_read_pattern
  have e32 : PySem.Str.ofString " " = S [32] := by decide +kernel
  refine ws_seq (ws_set (by decide) (wd_lcMap (by decide) (gok_name (by decide)) (wi_list (wd_m1 (wd_var rfl (by decide) ⟨_, rfl, wd_str (b_split (by decide +kernel) (by rw [S_len]; have := ht.1; omega) ⟨_, rfl, ?_ ⟩)⟩)))))
  rw [e32, split_one _ _ (by decide)]
  refine ⟨by have := splitL_len 32 t; have := ht.1; simp; omega, fun _ => true, fun d => match d with | .str x => rpD (partIn x.cps.toList) | _ => .non, fun d hd => ?_, ?_⟩
  · obtain ⟨x, hx, rfl⟩ := List.mem_map.mp hd
    obtain ⟨w, hw, rfl⟩ := List.mem_map.mp hx
    have := splitL_mem 32 t w hw
    refine wg_name (by decide) (wt_yes ⟨rfl, rfl, fun _ => ?_⟩)
    exact wd_call [] (wa_cons (wd_var rfl (by decide) (wa_nil ⟨_, _, .nil, w, rfl, by have := ht.1; omega, _, _, .nil, _, rfl, by simp [S], rfl ⟩)))
  · rw [filt_true, List.map_map, List.map_map]
    have e : (splitL 32 t).map (((fun d : D => match d with | .str x => rpD (partIn x.cps.toList) | _ => .non) ∘ D.str) ∘ S) = (readL t).map rpD := by
      unfold readL
      rw [List.map_map]
      exact List.map_congr_left fun w _ => by simp [S]
    rw [e]
    generalize hrs : readL t = rs at *
    refine ws_seq (ws_set (by decide) (wd_bl ?_))
    refine ws_cut (fun m => m = [.fz (.str (S t)), .fz (patD rs), .fz (.bl (goodP rs)), .un]) ?_ ?_
    · refine ws_tryOnly (Y := fun c m => goodP rs = false ∧ c = .ref (He.ga K "BadPattern") ∧ m = [.fz (.str (S t)), .fz (patD rs), .fz (.bl true), .un]) ?_ ?_
      · exact ws_drop (wd_call [] (wa_cons (wd_var rfl (by decide) (wa_nil ⟨_, _, .nil, rs, rfl, by omega, hro, fun hg => ⟨_, _, .nil, _, rfl, by rw [hg]; rfl⟩, fun hg => ⟨_, _, .nil, hg, rfl, rfl ⟩⟩))))
      · rintro c m ⟨hg, rfl, rfl⟩
        exact ⟨xf.s "BadPattern" (by decide +kernel), ws_set (by decide) (wd_bl (by rw [hg]; rfl))⟩
    · rintro m rfl
      unfold readsB at hP hX
      rw [hrs] at hP hX
      refine ws_seq (ws_if (wt_or (wt_not (wt_tru (wd_var rfl (by decide) ⟨_, rfl, ?_ ⟩)))))
      cases hg : goodP rs with
      | false => exact ite_t rfl (ite_t rfl (ws_raise ⟨_, .fz .nil, hX (by rw [hg]; rfl)⟩))
      | true =>
        obtain ⟨hlen, hgp, hdd⟩ := goodP_iff.mp hg
        refine ite_f rfl (wt_test (wd_op (wd_call [] (wa_cons (wd_var rfl (by decide) (wa_nil ⟨_, _, .nil, rs, rfl, by omega, fun r hr => ⟨hgp r hr, ok_ws (hro r hr)⟩, _, _, .nil, _, rfl, wd_var rfl (by decide) (o_neS ⟨_, rfl, ?_ ⟩)⟩))))))
        have es : decide (S (textL rs) = S t) = decide (textL rs = t) := by
          by_cases h : textL rs = t
          · simp [h]
          · have : ¬ S (textL rs) = S t := fun z => h (S_inj z)
            simp [h, this]
        rw [es]
        rw [hg, Bool.true_and] at hP hX
        refine ite_b (fun h => ws_raise ⟨_, .fz .nil, hX ?_⟩) (fun h => ws_next (ws_ret (wd_var rfl (by decide) ⟨_, .fz .nil, hP ?_⟩)))
        · simpa using h
        · simpa using h
end M
namespace M
open PySem PySem.Spec PyProof.Rows L2
/-! ### what takes patterns refuses what is none -/
def fs_look_both (K : PySem.W.Frag) : FS := fun ms P X => ∃ a b, ms = [.fz (patD a), .fz (patD b)] ∧ a.length ≤ 1000 ∧ b.length ≤ 1000 ∧ (∀ r ∈ a, r.ok) ∧ (∀ r ∈ b, r.ok) ∧ ((goodP a && goodP b) = true → P (.fz .non) ms) ∧ ((goodP a && goodP b) = false → X (.ref (He.ga K "BadPattern")) ms)
/-- look_both: slots 0 one, 1 other -/
def t_look_both (K : PySem.W.Frag) : WX → TS := fun W => (tSeq (tDrop (tCallS (SpM K (fs_look_pattern K)) (WE W) (tCons (tVar 0) tNil))) (tDrop (tCallS (SpM K (fs_look_pattern K)) (WE W) (tCons (tVar 1) tNil))))
theorem h_look_both {K : PySem.W.Frag} : FsOk K 2 2 (fs_look_both K) (t_look_both K) := by
  intro ms P X hf
  obtain ⟨a, b, rfl, ha, hb, oa, ob, hP, hX⟩ := hf
  refine ⟨rfl, ?_⟩
  unfold t_look_both
  refine ws_seq (ws_drop (wd_call [] (wa_cons (wd_var rfl (by decide) (wa_nil ⟨_, _, .nil, a, rfl, ha, oa, fun hg => ⟨_, _, .nil, _, rfl, ?_⟩, fun hg => ⟨_, _, .nil, _, .fz (.fz .nil), hX (by rw [hg]; rfl)⟩ ⟩)))))
  refine ws_drop (wd_call [] (wa_cons (wd_var rfl (by decide) (wa_nil ⟨_, _, .nil, b, rfl, hb, ob, fun hg2 => ⟨_, _, .nil, _, rfl, _, .fz (.fz .nil), hP (by rw [hg, hg2]; rfl)⟩, fun hg2 => ⟨_, _, .nil, _, .fz (.fz .nil), hX (by rw [hg2]; simp)⟩ ⟩))))
def fs_two (K : PySem.W.Frag) : FS := fun ms P X => ∃ a b, ms = [.fz (patD a), .fz (patD b)] ∧ a.length ≤ 1000 ∧ b.length ≤ 1000 ∧ (∀ r ∈ a, r.ok) ∧ (∀ r ∈ b, r.ok) ∧ (goodP a && goodP b) = false ∧ X (.ref (He.ga K "BadPattern")) ms
def fs_covers (K : PySem.W.Frag) : FS := fs_two K
def fs_apart (K : PySem.W.Frag) : FS := fs_two K
def fs_common (K : PySem.W.Frag) : FS := fs_two K
def fs_alphabet (K : PySem.W.Frag) : FS := fs_two K
/-- covers: slots 0 one, 1 other -/
def t_covers (K : PySem.W.Frag) : WX → TS := fun W => (tSeq (tDrop (tCallS (SpM K (fs_look_both K)) (WE W) (tCons (tVar 0) (tCons (tVar 1) tNil)))) tNever)
/-- apart: slots 0 one, 1 other -/
def t_apart (K : PySem.W.Frag) : WX → TS := fun W => (tSeq (tDrop (tCallS (SpM K (fs_look_both K)) (WE W) (tCons (tVar 0) (tCons (tVar 1) tNil)))) tNever)
/-- common: slots 0 one, 1 other -/
def t_common (K : PySem.W.Frag) : WX → TS := fun W => (tSeq (tDrop (tCallS (SpM K (fs_look_both K)) (WE W) (tCons (tVar 0) (tCons (tVar 1) tNil)))) tNever)
/-- alphabet: slots 0 one, 1 other, 2 some, 3 fresh -/
def t_alphabet (K : PySem.W.Frag) : WX → TS := fun W => (tSeq (tDrop (tCallS (SpM K (fs_look_both K)) (WE W) (tCons (tVar 0) (tCons (tVar 1) tNil)))) tNever)
theorem two_ok {K : PySem.W.Frag} {n : Nat} {z : List MV} {N : List MV → Prop} {a b : List RP} {P : MV → List MV → Prop} {X : XP} (hn : 1 < n) (ha : a.length ≤ 1000) (hb : b.length ≤ 1000) (oa : ∀ r ∈ a, r.ok) (ob : ∀ r ∈ b, r.ok) (hg : (goodP a && goodP b) = false) (hX : X (.ref (He.ga K "BadPattern")) [.fz (patD a), .fz (patD b)]) :
    wpS K n (fun W => (tSeq (tDrop (tCallS (SpM K (fs_look_both K)) (WE W) (tCons (tVar 0) (tCons (tVar 1) tNil)))) tNever)) (.fz (patD a) :: .fz (patD b) :: z) N (fun m me => ∃ ms', Back [.fz (patD a), .fz (patD b)] me ms' ∧ P m ms') (fun c me => ∃ ms', Back [.fz (patD a), .fz (patD b)] me ms' ∧ X c ms') := by
  exact ws_seq (ws_drop (wd_call [] (wa_cons (wd_var rfl (by omega) (wa_cons (wd_var rfl hn (wa_nil ⟨_, _, .nil, a, b, rfl, ha, hb, oa, ob, fun h => absurd h (by rw [hg]; decide), fun _ => ⟨_, _, .nil, _, .fz (.fz .nil), hX ⟩⟩)))))))
theorem h_covers {K : PySem.W.Frag} : FsOk K 2 2 (fs_covers K) (t_covers K) := by
  intro ms P X hf
  obtain ⟨a, b, rfl, ha, hb, oa, ob, hg, hX⟩ := hf
  exact ⟨rfl, two_ok (by decide) ha hb oa ob hg hX⟩
theorem h_apart {K : PySem.W.Frag} : FsOk K 2 2 (fs_apart K) (t_apart K) := by
  intro ms P X hf
  obtain ⟨a, b, rfl, ha, hb, oa, ob, hg, hX⟩ := hf
  exact ⟨rfl, two_ok (by decide) ha hb oa ob hg hX⟩
theorem h_common {K : PySem.W.Frag} : FsOk K 2 2 (fs_common K) (t_common K) := by
  intro ms P X hf
  obtain ⟨a, b, rfl, ha, hb, oa, ob, hg, hX⟩ := hf
  exact ⟨rfl, two_ok (by decide) ha hb oa ob hg hX⟩
theorem h_alphabet {K : PySem.W.Frag} : FsOk K 2 4 (fs_alphabet K) (t_alphabet K) := by
  intro ms P X hf
  obtain ⟨a, b, rfl, ha, hb, oa, ob, hg, hX⟩ := hf
  exact ⟨rfl, two_ok (by decide) ha hb oa ob hg hX⟩
def fs_needless (K : PySem.W.Frag) : FS := fun ms P X => ∃ ps : List (List RP), ms = [.fz (.lst (ps.map patD))] ∧ ps.length ≤ 1000 ∧ (∀ p ∈ ps, p.length ≤ 1000 ∧ ∀ r ∈ p, r.ok) ∧ (∃ p ∈ ps, goodP p = false) ∧ X (.ref (He.ga K "BadPattern")) ms
/-- needless: slots 0 patterns, 1 pattern, 2 found, 3 k, 4 some, 5 j -/
def t_needless (K : PySem.W.Frag) : WX → TS := fun W => (tSeq (tFor (iList K (tVar 0)) (gName 1) (tDrop (tCallS (SpM K (fs_look_pattern K)) (WE W) (tCons (tVar 1) tNil)))) tNever)
theorem h_needless {K : PySem.W.Frag} : FsOk K 1 6 (fs_needless K) (t_needless K) := by
  intro ms P X hf
  obtain ⟨ps, rfl, hl, hok, hbad, hX⟩ := hf
  refine ⟨rfl, ?_⟩
  unfold t_needless
  refine ws_cut (fun _ => ∀ p ∈ ps, goodP p = true) ?_ (fun m h => ?_)
  · refine ws_for (wi_list (wd_var rfl (by decide) ⟨_, rfl, ?_⟩))
    refine ⟨fun i m => (∀ p ∈ ps.take i, goodP p = true) ∧ ∃ z, m = [.fz (.lst (ps.map patD)), z, .un, .un, .un, .un], ⟨by simp, _, rfl⟩, ?_, ?_⟩
    · rintro i d m hd ⟨hg, z, rfl⟩
      obtain ⟨p, hp, rfl⟩ : ∃ p, ps[i]? = some p ∧ d = patD p := by
        rw [List.getElem?_map] at hd
        cases q : ps[i]? with
        | none => rw [q] at hd; cases hd
        | some r => rw [q] at hd; exact ⟨r, rfl, (Option.some.inj hd).symm⟩
      obtain ⟨h1, h2⟩ := hok p (List.mem_of_getElem? hp)
      refine wg_name (by decide) (ws_drop (wd_call [] (wa_cons (wd_var rfl (by decide) (wa_nil ⟨_, _, .nil, p, rfl, h1, h2, fun hg2 => ⟨_, _, .nil, _, rfl, ?_, _, rfl⟩, fun hg2 => ⟨_, _, .nil, _, .fz .nil, hX⟩ ⟩)))))
      intro q hq
      rw [List.take_add_one, hp] at hq
      rcases List.mem_append.mp hq with hq | hq
      · exact hg q hq
      · simp at hq; subst hq; exact hg2
    · rintro m ⟨hg, z, rfl⟩
      rwa [List.take_of_length_le (by simp)] at hg
  · obtain ⟨p, hp, hb⟩ := hbad
    exact absurd (h p hp) (by rw [hb]; decide)
/-! ### the law's own text -/
def fs__law_text (K : PySem.W.Frag) : FS := fun ms P X => ∃ rs, ms = [.fz (patD rs)] ∧ rs.length ≤ 100 ∧ (∀ r ∈ rs, goodPart r = true ∧ ∀ w ∈ r.ws, w.length ≤ 1000) ∧ P (.fz (.str (S (textL rs)))) ms
/-- _law_text: slots 0 pattern, 1 found, 2 kind, 3 what, 4 text, 5 word -/
def t__law_text (K : PySem.W.Frag) : WX → TS := fun W => (tSeq (tAsg (tLst tNil) (gName 1)) (tSeq (tFor (iList K (tVar 0)) (gTup K 2 (gCons (gName 2) (gCons (gName 3) gNil))) (tIfS (tTest (tOp (rEqA K) (tVar 2) (tC (.str "of")))) (tSeq (tAsg (tOp (rIxA K) (tVar 3) (tC (.int 0))) (gName 4)) (tSeq (tFor (iList K (L2.tSl (rSlA' K) (tVar 3) (tPart (tC (.int 1))) tNoPart)) (gName 5) (tAsg (tOp (rAddA K) (tOp (rAddA K) (tVar 4) (tC (.str "|"))) (tVar 5)) (gName 4))) (tDrop (tBM K "list" rAppend (tVar 1) (tCons (tOp (rAddA K) (tVar 4) (tIf (tTest (tOp (rEqA K) (tCB (rLenA K) (tCons (tVar 3) tNil)) (tC (.int 1)))) (tC (.str "|")) (tC (.str "")))) tNil))))) (tDrop (tBM K "list" rAppend (tVar 1) (tCons (tOp (rAddA K) (tDGet (tDisp [((tC (.str "word")), (tC (.str ""))), ((tC (.str "one")), (tC (.str "?"))), ((tC (.str "any")), (tC (.str "*")))]) (tVar 2)) (tVar 3)) tNil))))) (tRet (tM1 (rJoin K) (tC (.str " ")) (tVar 1)))))
theorem joinL_snoc (c : Nat) (l : List Nat) (ls : List (List Nat)) (x : List Nat) : joinL c (l :: ls ++ [x]) = joinL c (l :: ls) ++ c :: x := by
  rw [List.cons_append, joinL_flat, joinL_flat]
  simp
theorem joinL_len (c : Nat) (l : List Nat) (ls : List (List Nat)) (h : ∀ x ∈ l :: ls, x.length ≤ 1000) : (joinL c (l :: ls)).length ≤ 1001 * (ls.length + 1) := by
  induction ls generalizing l with
  | nil =>
    have := h l List.mem_cons_self
    show l.length ≤ _
    simp; omega
  | cons a ls ih =>
    have h1 := ih a fun x hx => h x (List.mem_cons_of_mem _ hx)
    have h2 := h l List.mem_cons_self
    rw [joinL]
    · simp only [List.length_append, List.length_cons] at h1 ⊢
      omega
    · simp
abbrev lnT (p : Addr) (l : List (List Nat)) : MV := .ot p (.lst (((l.map S).map D.str).map .lf))
theorem len1b : (PySem.Str.ofString "|").length = 1 := by decide +kernel
theorem len0 : (PySem.Str.ofString "").length = 0 := by decide +kernel
theorem S_app_str (l : List Nat) (x : PySem.Str) : S l ++ x = S (l ++ cps x) := by
  conv => lhs; rw [← S_cps x]
  exact S_append _ _
theorem h__law_text {K : PySem.W.Frag} : FsOk K 1 6 (fs__law_text K) (t__law_text K) := by
  intro ms P X hf
  obtain ⟨rs, rfl, hl, hg, hP⟩ := hf
  refine ⟨rfl, ?_⟩
  unfold t__law_text
  refine ws_seq (ws_setN (by decide) (wn_lst (wa_nil ⟨by decide, fun p => ?_ ⟩)))
  refine ws_cut (fun m => ∃ z2 z3 z4 z5, m = [.fz (patD rs), lnT p (rs.map partL), z2, z3, z4, z5]) ?_ ?_
  · refine ws_for (wi_list (wd_var rfl (by decide) ⟨_, rfl, ?_⟩))
    refine ⟨fun i m => ∃ z2 z3 z4 z5, m = [.fz (patD rs), lnT p ((rs.take i).map partL), z2, z3, z4, z5], ⟨_, _, _, _, rfl⟩, ?_, ?_⟩
    · rintro i d m hd ⟨z2, z3, z4, z5, rfl⟩
      obtain ⟨r, hr, rfl⟩ : ∃ r, rs[i]? = some r ∧ d = rpD r := by
        rw [List.getElem?_map] at hd
        cases q : rs[i]? with
        | none => rw [q] at hd; cases hd
        | some r => rw [q] at hd; exact ⟨r, rfl, (Option.some.inj hd).symm⟩
      obtain ⟨hgr, hlr⟩ := hg r (List.mem_of_getElem? hr)
      have take1 : (rs.take (i + 1)).map partL = (rs.take i).map partL ++ [partL r] := by rw [List.take_add_one, hr]; simp
      have hts : ((((rs.take i).map partL).map S).map D.str).length ≤ 100 := by simp; omega
      rw [good_rp hgr]
      refine wg_tup rfl (wgs_cons (wg_name (by decide) (wgs_cons (wg_name (by decide) (wgs_nil ?_ )))))
      have app : ∀ {x : PySem.Str} {a b c e : MV}, x = S (partL r) → ∃ z2 z3 z4 z5, [.fz (patD rs), .ot p (.lst (((((rs.take i).map partL).map S).map D.str).map .lf ++ [.lf (.str x)])), a, b, c, e] = [.fz (patD rs), lnT p ((rs.take (i + 1)).map partL), z2, z3, z4, z5] := fun {x a b c e} hx => by
        refine ⟨a, b, c, e, ?_⟩
        rw [take1, hx]
        simp [lnT]
      rcases goodPart_cases hgr with ⟨vs, rfl, h1, h2, h3⟩ | ⟨k, s, rfl, hk, h3⟩
      · obtain ⟨w0, vs, rfl⟩ : ∃ w0 vs', vs = w0 :: vs' := by
          cases vs with
          | nil => simp at h1
          | cons a b => exact ⟨a, b, rfl⟩
        refine ws_if (wt_test (wd_op (wd_var rfl (by decide) (wd_str (o_eqS ⟨_, rfl, ite_t (show decide (("of" : PySem.Str) = "of") = true by decide +kernel) ?_ ⟩)))))
        refine ws_seq (ws_set (by decide) (wd_op (wd_var rfl (by decide) (wd_int (o_ixL (atI_zero _ _) ?_ )))))
        have hcut : cutD ((w0 :: vs).map D.str) (some 1) none = vs.map D.str := by
          have := cut_drop ((w0 :: vs).map D.str) 1
          simpa using this
        refine ws_cut (fun m => ∃ z5, m = [.fz (patD rs), lnT p ((rs.take i).map partL), .fz (.str "of"), .fz (strsD (w0 :: vs)), .fz (.str (S (joinL 124 ((w0 :: vs).map cps)))), z5]) ?_ ?_
        · refine ws_for (wi_list (wd_sl (wd_var rfl (by decide) (wo_some (wd_int ⟨_, rfl, wo_none (s_lst ⟨_, rfl, ?_ ⟩)⟩)))))
          rw [hcut]
          refine ⟨fun j m => ∃ z5, m = [.fz (patD rs), lnT p ((rs.take i).map partL), .fz (.str "of"), .fz (strsD (w0 :: vs)), .fz (.str (S (joinL 124 ((w0 :: vs.take j).map cps)))), z5], ⟨z5, ?_⟩, ?_, ?_⟩
          · have : S (joinL 124 ((w0 :: vs.take 0).map cps)) = w0 := S_cps w0
            rw [this]; rfl
          · rintro j d m hd ⟨y5, rfl⟩
            obtain ⟨w, hw, rfl⟩ : ∃ r, vs[j]? = some r ∧ d = .str r := by
              rw [List.getElem?_map] at hd
              cases q : vs[j]? with
              | none => rw [q] at hd; cases hd
              | some r => rw [q] at hd; exact ⟨r, rfl, (Option.some.inj hd).symm⟩
            have hjl : (joinL 124 (cps w0 :: (vs.take j).map cps)).length ≤ 1001 * (((vs.take j).map cps).length + 1) := joinL_len 124 _ _ fun x hx => by
              rw [← List.map_cons (f := cps)] at hx
              obtain ⟨y, hy, rfl⟩ := List.mem_map.mp hx
              refine hlr y ?_
              rcases List.mem_cons.mp hy with rfl | hy
              · simp [RP.ws]
              · exact List.mem_cons_of_mem _ (List.mem_of_mem_take hy)
            have hwl : w.length ≤ 1000 := hlr w (List.mem_cons_of_mem _ (List.mem_of_getElem? hw))
            have hj4 : ((vs.take j).map cps).length ≤ 4 := by simp at h2 ⊢; omega
            refine wg_name (by decide) (ws_set (by decide) (wd_op (wd_op (wd_var rfl (by decide) (wd_str (o_addS ?_ (wd_var rfl (by decide) (o_addS ?_ ⟨.fz (.str w), ?_ ⟩))))))))
            · rw [S_len, len1b]; show (joinL 124 (cps w0 :: (vs.take j).map cps)).length + 1 ≤ _; omega
            · rw [S_app_str, S_len, List.length_append]
              show (joinL 124 (cps w0 :: (vs.take j).map cps)).length + 1 + _ ≤ _
              omega
            · have e : (w0 :: vs.take (j + 1)).map cps = cps w0 :: (vs.take j).map cps ++ [cps w] := by rw [List.take_add_one, hw]; simp
              rw [e, joinL_snoc, S_app_str, S_app_str]
              have : cps (PySem.Str.ofString "|") = [124] := by decide +kernel
              rw [this]
              simp
          · rintro m ⟨y5, rfl⟩
            have e : vs.take (vs.map D.str).length = vs := List.take_of_length_le (by simp)
            rw [e]
            exact ⟨_, rfl⟩
        · rintro m ⟨y5, rfl⟩
          have hjl : (joinL 124 ((w0 :: vs).map cps)).length ≤ 1001 * ((vs.map cps).length + 1) := joinL_len 124 _ _ fun x hx => by
            rw [← List.map_cons (f := cps)] at hx
            obtain ⟨y, hy, rfl⟩ := List.mem_map.mp hx
            exact hlr y hy
          have hv3 : (vs.map cps).length ≤ 3 := by simp at h2 ⊢; omega
          refine ws_append (by decide) rfl (wd_op (wd_var rfl (by decide) (wd_if (wt_test (wd_op (wd_cb (wa_cons (wd_var rfl (by decide) (wa_nil (c_len (lenD_strs (w0 :: vs)) (by simp at h2 ⊢; omega) (wd_int (o_eqI ⟨_, rfl, ite_b (fun h => ?_) (fun h => ?_) ⟩))))))))))))
          · have hvs : vs = [] := by
              have h' := of_decide_eq_true h
              cases vs with
              | nil => rfl
              | cons a b => simp at h'; omega
            subst hvs
            refine wd_str (o_addS (by rw [S_len, len1b]; omega) ⟨_, rfl, by simp; omega, app ?_⟩)
            rw [S_app_str]
            rfl
          · have hvs : vs ≠ [] := fun z => by
              subst z
              exact absurd rfl (of_decide_eq_false h)
            refine wd_str (o_addS (by rw [S_len, len0]; omega) ⟨_, rfl, by simp; omega, app ?_⟩)
            rw [S_app_str]
            have e0 : cps (PySem.Str.ofString "") = [] := by decide +kernel
            rw [e0, List.append_nil]
            have : 1 < (w0 :: vs).length := by
              cases vs with
              | nil => exact absurd rfl hvs
              | cons a b => simp
            simp only [partL]
            rw [if_pos this]
      · have hls : s.length ≤ 1000 := hlr s (by simp [RP.ws])
        have hnof : ∀ k : PySem.Str, k = "word" ∨ k = "one" ∨ k = "any" → decide (k = "of") = false := by
          rintro k (rfl | rfl | rfl) <;> decide +kernel
        refine ws_if (wt_test (wd_op (wd_var rfl (by decide) (wd_str (o_eqS ⟨_, rfl, ite_f (hnof k hk) ?_ ⟩)))))
        have sgn : ∃ x : PySem.Str, valD [(Sum.inr "word", D.str ""), (Sum.inr "one", .str "?"), (Sum.inr "any", .str "*")] (Sum.inr k) = some (.str x) ∧ x.length ≤ 1 ∧ x ++ s = S (partL (.ot k s [])) := by
          rcases hk with rfl | rfl | rfl
          · refine ⟨"", rfl, by decide +kernel, ?_⟩
            have : partL (.ot "word" s []) = cps s := by simp [partL]
            rw [this]
            have e0 : PySem.Str.ofString "" = S [] := by decide +kernel
            rw [e0, S_app_str]; rfl
          · refine ⟨"?", rfl, by decide +kernel, ?_⟩
            have e : partL (.ot "one" s []) = 63 :: cps s := by
              simp only [partL]
              rw [if_neg (by decide +kernel), if_pos trivial]
            rw [e]; exact S_cons 63 s
          · refine ⟨"*", rfl, by decide +kernel, ?_⟩
            have e : partL (.ot "any" s []) = 42 :: cps s := by
              simp only [partL]
              rw [if_neg (by decide +kernel), if_neg (by decide +kernel)]
            rw [e]; exact S_cons 42 s
        obtain ⟨x, hx, hxl, hxs⟩ := sgn
        refine ws_append (by decide) rfl (wd_op (wd_dget (wd_disp (wps_cons (wd_str ⟨_, rfl, wd_str (wps_cons (wd_str ⟨_, rfl, wd_str (wps_cons (wd_str ⟨_, rfl, wd_str (wps_nil ⟨by decide, by decide +kernel, _, rfl, wd_var rfl (by decide) ⟨_, _, rfl, hx, wd_var rfl (by decide) (o_addS (by omega) ⟨_, rfl, by simp; omega, app hxs ⟩)⟩⟩)⟩))⟩))⟩)))))
    · rintro m ⟨z2, z3, z4, z5, rfl⟩
      have : rs.take (rs.map rpD).length = rs := List.take_of_length_le (by simp)
      rw [this]
      exact ⟨_, _, _, _, rfl⟩
  · rintro m ⟨z2, z3, z4, z5, rfl⟩
    refine ws_ret (wd_m1 (wd_str ⟨_, rfl, wd_freeze 1 rfl (wd_var rfl (by decide) ?_ )⟩))
    rw [toD_lst]
    refine b_join ?_ ⟨_, .fz .nil, ?_⟩
    · have : (((rs.map partL).map S).map (·.length)).sum ≤ 4100 * rs.length := by
        clear hP
        induction rs with
        | nil => simp
        | cons r rs ih =>
          have h1 := ih (by simp at hl; omega) fun x hx => hg x (List.mem_cons_of_mem _ hx)
          have h2 := partL_len (hg r List.mem_cons_self).1 (hg r List.mem_cons_self).2
          simp only [List.map_cons, List.sum_cons, List.length_cons, S_len] at h1 ⊢
          omega
      have h2 : (PySem.Str.ofString " ").length = 1 := by decide +kernel
      rw [h2]
      simp at this ⊢
      omega
    · have := join_one 32 (rs.map partL)
      have e32 : S [32] = " " := by decide +kernel
      rw [e32] at this
      rw [this]
      exact hP
end M
namespace M
open PySem PySem.Spec PyProof.Rows L2
/-! ### k41: one thing asked, what is told -/
inductive One : Int → D → (D ⊕ PySem.Str) → Prop
  | read (t : List Nat) : txtL t → readsB t = true → One 0 (.str (S t)) (.inl (patD (readL t)))
  | noRead (t : List Nat) : txtL t → readsB t = false → One 0 (.str (S t)) (.inr "BadText")
  | bad (k : Int) (bs : List RP) : 1 ≤ k → k ≤ 8 → bs.length ≤ 1000 → (∀ r ∈ bs, r.ok) → goodP bs = false → One k (patD bs) (.inr "BadPattern")
  | rank (rs : List RP) : rs.length ≤ 1000 → (∀ r ∈ rs, r.ok) → goodP rs = true → One 2 (patD rs) (.inl (rankD rs))
def fs__law_one (K : PySem.W.Frag) : FS := fun ms P X => ∃ k g o, ms = [.fz (.int k), .fz g] ∧ One k g o ∧ (∀ d, o = .inl d → P (.fz d) ms) ∧ (∀ x, o = .inr x → X (.ref (He.ga K x)) ms)
/-- _law_one: slots 0 kind, 1 given -/
def t__law_one (K : PySem.W.Frag) : WX → TS := fun W => (tSeq (tIfS (tTest (tOp (rI0 fun i j => .bl (decide (i < j))) (tVar 0) (tC (.int 3)))) (tSeq (tIfS (tTest (tOp (rEqA K) (tVar 0) (tC (.int 0)))) (tRet (tCallS (SpM K (fs_read_pattern K)) (WE W) (tCons (tVar 1) tNil))) tNext) (tRet (tIf (tTest (tOp (rEqA K) (tVar 0) (tC (.int 1)))) (tCallS (SpM K (fs_pattern_text K)) (WE W) (tCons (tVar 1) tNil)) (tCallS (SpM K (fs_rank K)) (WE W) (tCons (tVar 1) tNil))))) tNext) (tSeq (tIfS (tTest (tOp (rI0 fun i j => .bl (decide (i < j))) (tVar 0) (tC (.int 5)))) (tRet (tIf (tTest (tOp (rEqA K) (tVar 0) (tC (.int 3)))) (tCallS (SpM K (fs_covers K)) (WE W) (tCons (tVar 1) (tCons (tLst (tCons (tTup (tCons (tC (.str "one")) (tCons (tC (.str "a")) tNil))) tNil)) tNil))) (tCallS (SpM K (fs_covers K)) (WE W) (tCons (tLst (tCons (tTup (tCons (tC (.str "one")) (tCons (tC (.str "a")) tNil))) tNil)) (tCons (tVar 1) tNil))))) tNext) (tSeq (tIfS (tTest (tOp (rI0 fun i j => .bl (decide (i < j))) (tVar 0) (tC (.int 7)))) (tRet (tIf (tTest (tOp (rEqA K) (tVar 0) (tC (.int 5)))) (tCallS (SpM K (fs_apart K)) (WE W) (tCons (tVar 1) (tCons (tLst (tCons (tTup (tCons (tC (.str "one")) (tCons (tC (.str "a")) tNil))) tNil)) tNil))) (tCallS (SpM K (fs_common K)) (WE W) (tCons (tLst (tCons (tTup (tCons (tC (.str "one")) (tCons (tC (.str "a")) tNil))) tNil)) (tCons (tVar 1) tNil))))) tNext) (tRet (tIf (tTest (tOp (rEqA K) (tVar 0) (tC (.int 7)))) (tCallS (SpM K (fs_alphabet K)) (WE W) (tCons (tVar 1) (tCons (tVar 1) tNil))) (tCallS (SpM K (fs_needless K)) (WE W) (tCons (tLst (tCons (tLst (tCons (tTup (tCons (tC (.str "one")) (tCons (tC (.str "a")) tNil))) tNil)) (tCons (tVar 1) tNil))) tNil)))))))
def oneA : List RP := [.ot "one" "a" []]
theorem oneA_ok : goodP oneA = true ∧ (oneA.all RP.okB) = true ∧ oneA.length = 1 := by decide +kernel
theorem oneA_ok2 : ∀ r ∈ oneA, r.ok := fun r hr => okB_ok (List.all_eq_true.mp oneA_ok.2.1 r hr)
theorem h__law_one {K : PySem.W.Frag} : FsOk K 2 2 (fs__law_one K) (t__law_one K) := by
  intro ms P X hf
  obtain ⟨k, g, o, rfl, ho, hP, hX⟩ := hf
  refine ⟨rfl, ?_⟩
  unfold t__law_one
  cases ho with
  | read t ht hr =>
    (repeat (first | refine wd_var rfl (by decide) ?_ | with_reducible refine wd_int ?_ | with_reducible refine wd_str ?_ | with_reducible refine wd_bl ?_ | with_reducible refine wd_non ?_ | with_reducible refine wd_op ?_ | with_reducible refine wd_cb ?_ | with_reducible refine wa_cons ?_ | with_reducible refine wa_nil ?_ | with_reducible refine ws_seq ?_ | refine ws_set (by decide) ?_ | with_reducible refine ws_ret ?_ | with_reducible refine ws_if ?_ | with_reducible refine ws_next ?_ | with_reducible refine wt_rng ?_ | with_reducible refine wt_test ?_ | with_reducible refine wt_B ?_ | with_reducible refine wt_and ?_ | with_reducible refine wt_or ?_ | with_reducible refine wt_not ?_ | with_reducible refine wt_tru ?_ | with_reducible refine wd_if ?_ | with_reducible refine wd_andV ?_ | with_reducible refine wd_orV ?_ | with_reducible refine wd_notV ?_ | with_reducible refine wd_chain ?_ | with_reducible refine wd_tup ?_ | with_reducible refine wd_lst ?_ | with_reducible refine wd_un ?_ | with_reducible refine wd_bm ?_ | with_reducible refine wd_sl ?_ | with_reducible refine wo_none ?_ | with_reducible refine wo_some ?_ | with_reducible refine ws_asg ?_ | refine wg_tup rfl ?_ | with_reducible refine wgs_cons ?_ | with_reducible refine wgs_nil ?_ | refine wg_name (by decide) ?_ | with_reducible refine o_eqS ?_ | with_reducible refine o_neS ?_ | with_reducible refine o_eqI ?_ | with_reducible refine o_neI ?_ | refine o_isN rfl ?_ | refine o_notN rfl ?_ | refine o_ixT rfl ?_ | with_reducible refine o_addI ?_ | with_reducible refine o_I0b ?_ | with_reducible refine o_I0i ?_ | with_reducible refine un_negI ?_ | with_reducible refine s_lst ?_ | with_reducible refine wt_yes ?_ | refine c_len rfl (by first | omega | (simp <;> omega)) ?_ | refine o_addL (by first | omega | (simp <;> omega)) ?_ | refine ite_t rfl ?_ | refine ite_f rfl ?_ | refine ite_t (by decide +kernel) ?_ | refine ite_f (by decide +kernel) ?_ | refine o_inT rfl rfl ?_ | refine o_notInT rfl rfl ?_ | refine ⟨_, rfl, ?_⟩ | refine ⟨Nat.le_of_ble_eq_true rfl, ?_⟩ | refine ⟨fun _ _ _ => ty_lst, ?_⟩))
    exact wd_call [] (wa_cons (wd_var rfl (by decide) (wa_nil ⟨_, _, .nil, t, rfl, ht, fun _ => ⟨_, _, .nil, _, rfl, _, .fz (.fz .nil), hP _ rfl⟩, fun h => absurd hr (by rw [h]; decide) ⟩)))
  | noRead t ht hr =>
    (repeat (first | refine wd_var rfl (by decide) ?_ | with_reducible refine wd_int ?_ | with_reducible refine wd_str ?_ | with_reducible refine wd_bl ?_ | with_reducible refine wd_non ?_ | with_reducible refine wd_op ?_ | with_reducible refine wd_cb ?_ | with_reducible refine wa_cons ?_ | with_reducible refine wa_nil ?_ | with_reducible refine ws_seq ?_ | refine ws_set (by decide) ?_ | with_reducible refine ws_ret ?_ | with_reducible refine ws_if ?_ | with_reducible refine ws_next ?_ | with_reducible refine wt_rng ?_ | with_reducible refine wt_test ?_ | with_reducible refine wt_B ?_ | with_reducible refine wt_and ?_ | with_reducible refine wt_or ?_ | with_reducible refine wt_not ?_ | with_reducible refine wt_tru ?_ | with_reducible refine wd_if ?_ | with_reducible refine wd_andV ?_ | with_reducible refine wd_orV ?_ | with_reducible refine wd_notV ?_ | with_reducible refine wd_chain ?_ | with_reducible refine wd_tup ?_ | with_reducible refine wd_lst ?_ | with_reducible refine wd_un ?_ | with_reducible refine wd_bm ?_ | with_reducible refine wd_sl ?_ | with_reducible refine wo_none ?_ | with_reducible refine wo_some ?_ | with_reducible refine ws_asg ?_ | refine wg_tup rfl ?_ | with_reducible refine wgs_cons ?_ | with_reducible refine wgs_nil ?_ | refine wg_name (by decide) ?_ | with_reducible refine o_eqS ?_ | with_reducible refine o_neS ?_ | with_reducible refine o_eqI ?_ | with_reducible refine o_neI ?_ | refine o_isN rfl ?_ | refine o_notN rfl ?_ | refine o_ixT rfl ?_ | with_reducible refine o_addI ?_ | with_reducible refine o_I0b ?_ | with_reducible refine o_I0i ?_ | with_reducible refine un_negI ?_ | with_reducible refine s_lst ?_ | with_reducible refine wt_yes ?_ | refine c_len rfl (by first | omega | (simp <;> omega)) ?_ | refine o_addL (by first | omega | (simp <;> omega)) ?_ | refine ite_t rfl ?_ | refine ite_f rfl ?_ | refine ite_t (by decide +kernel) ?_ | refine ite_f (by decide +kernel) ?_ | refine o_inT rfl rfl ?_ | refine o_notInT rfl rfl ?_ | refine ⟨_, rfl, ?_⟩ | refine ⟨Nat.le_of_ble_eq_true rfl, ?_⟩ | refine ⟨fun _ _ _ => ty_lst, ?_⟩))
    exact wd_call [] (wa_cons (wd_var rfl (by decide) (wa_nil ⟨_, _, .nil, t, rfl, ht, fun h => absurd h (by rw [hr]; decide), fun h => ⟨_, _, .nil, _, .fz (.fz .nil), hX _ rfl ⟩⟩)))
  | rank rs hl hok hg =>
    (repeat (first | refine wd_var rfl (by decide) ?_ | with_reducible refine wd_int ?_ | with_reducible refine wd_str ?_ | with_reducible refine wd_bl ?_ | with_reducible refine wd_non ?_ | with_reducible refine wd_op ?_ | with_reducible refine wd_cb ?_ | with_reducible refine wa_cons ?_ | with_reducible refine wa_nil ?_ | with_reducible refine ws_seq ?_ | refine ws_set (by decide) ?_ | with_reducible refine ws_ret ?_ | with_reducible refine ws_if ?_ | with_reducible refine ws_next ?_ | with_reducible refine wt_rng ?_ | with_reducible refine wt_test ?_ | with_reducible refine wt_B ?_ | with_reducible refine wt_and ?_ | with_reducible refine wt_or ?_ | with_reducible refine wt_not ?_ | with_reducible refine wt_tru ?_ | with_reducible refine wd_if ?_ | with_reducible refine wd_andV ?_ | with_reducible refine wd_orV ?_ | with_reducible refine wd_notV ?_ | with_reducible refine wd_chain ?_ | with_reducible refine wd_tup ?_ | with_reducible refine wd_lst ?_ | with_reducible refine wd_un ?_ | with_reducible refine wd_bm ?_ | with_reducible refine wd_sl ?_ | with_reducible refine wo_none ?_ | with_reducible refine wo_some ?_ | with_reducible refine ws_asg ?_ | refine wg_tup rfl ?_ | with_reducible refine wgs_cons ?_ | with_reducible refine wgs_nil ?_ | refine wg_name (by decide) ?_ | with_reducible refine o_eqS ?_ | with_reducible refine o_neS ?_ | with_reducible refine o_eqI ?_ | with_reducible refine o_neI ?_ | refine o_isN rfl ?_ | refine o_notN rfl ?_ | refine o_ixT rfl ?_ | with_reducible refine o_addI ?_ | with_reducible refine o_I0b ?_ | with_reducible refine o_I0i ?_ | with_reducible refine un_negI ?_ | with_reducible refine s_lst ?_ | with_reducible refine wt_yes ?_ | refine c_len rfl (by first | omega | (simp <;> omega)) ?_ | refine o_addL (by first | omega | (simp <;> omega)) ?_ | refine ite_t rfl ?_ | refine ite_f rfl ?_ | refine ite_t (by decide +kernel) ?_ | refine ite_f (by decide +kernel) ?_ | refine o_inT rfl rfl ?_ | refine o_notInT rfl rfl ?_ | refine ⟨_, rfl, ?_⟩ | refine ⟨Nat.le_of_ble_eq_true rfl, ?_⟩ | refine ⟨fun _ _ _ => ty_lst, ?_⟩))
    exact wd_call [] (wa_cons (wd_var rfl (by decide) (wa_nil ⟨_, _, .nil, rs, rfl, hl, hok, fun _ => ⟨_, _, .nil, _, rfl, _, .fz (.fz .nil), hP _ rfl⟩, fun h => absurd hg (by rw [h]; decide) ⟩)))
  | bad k bs h1 h8 hl hok hg =>
    have hx : ∃ ms', Back [.fz (.int k), .fz (patD bs)] [.fz (.int k), .fz (patD bs)] ms' ∧ X (.ref (He.ga K "BadPattern")) ms' := ⟨_, .fz (.fz .nil), hX _ rfl⟩
    have g1 : (goodP bs && goodP oneA) = false := by rw [hg]; rfl
    have g2 : (goodP oneA && goodP bs) = false := by rw [hg]; simp
    have g3 : (goodP bs && goodP bs) = false := by rw [hg]; rfl
    have ol : oneA.length ≤ 1000 := by rw [oneA_ok.2.2]; decide
    have hk : k = 1 ∨ k = 2 ∨ k = 3 ∨ k = 4 ∨ k = 5 ∨ k = 6 ∨ k = 7 ∨ k = 8 := by omega
    rcases hk with rfl | rfl | rfl | rfl | rfl | rfl | rfl | rfl
    · (repeat (first | refine wd_var rfl (by decide) ?_ | with_reducible refine wd_int ?_ | with_reducible refine wd_str ?_ | with_reducible refine wd_bl ?_ | with_reducible refine wd_non ?_ | with_reducible refine wd_op ?_ | with_reducible refine wd_cb ?_ | with_reducible refine wa_cons ?_ | with_reducible refine wa_nil ?_ | with_reducible refine ws_seq ?_ | refine ws_set (by decide) ?_ | with_reducible refine ws_ret ?_ | with_reducible refine ws_if ?_ | with_reducible refine ws_next ?_ | with_reducible refine wt_rng ?_ | with_reducible refine wt_test ?_ | with_reducible refine wt_B ?_ | with_reducible refine wt_and ?_ | with_reducible refine wt_or ?_ | with_reducible refine wt_not ?_ | with_reducible refine wt_tru ?_ | with_reducible refine wd_if ?_ | with_reducible refine wd_andV ?_ | with_reducible refine wd_orV ?_ | with_reducible refine wd_notV ?_ | with_reducible refine wd_chain ?_ | with_reducible refine wd_tup ?_ | with_reducible refine wd_lst ?_ | with_reducible refine wd_un ?_ | with_reducible refine wd_bm ?_ | with_reducible refine wd_sl ?_ | with_reducible refine wo_none ?_ | with_reducible refine wo_some ?_ | with_reducible refine ws_asg ?_ | refine wg_tup rfl ?_ | with_reducible refine wgs_cons ?_ | with_reducible refine wgs_nil ?_ | refine wg_name (by decide) ?_ | with_reducible refine o_eqS ?_ | with_reducible refine o_neS ?_ | with_reducible refine o_eqI ?_ | with_reducible refine o_neI ?_ | refine o_isN rfl ?_ | refine o_notN rfl ?_ | refine o_ixT rfl ?_ | with_reducible refine o_addI ?_ | with_reducible refine o_I0b ?_ | with_reducible refine o_I0i ?_ | with_reducible refine un_negI ?_ | with_reducible refine s_lst ?_ | with_reducible refine wt_yes ?_ | refine c_len rfl (by first | omega | (simp <;> omega)) ?_ | refine o_addL (by first | omega | (simp <;> omega)) ?_ | refine ite_t rfl ?_ | refine ite_f rfl ?_ | refine ite_t (by decide +kernel) ?_ | refine ite_f (by decide +kernel) ?_ | refine o_inT rfl rfl ?_ | refine o_notInT rfl rfl ?_ | refine ⟨_, rfl, ?_⟩ | refine ⟨Nat.le_of_ble_eq_true rfl, ?_⟩ | refine ⟨fun _ _ _ => ty_lst, ?_⟩))
      exact wd_call [] (wa_cons (wd_var rfl (by decide) (wa_nil ⟨_, _, .nil, bs, rfl, hl, hok, fun h => absurd h (by rw [hg]; decide), fun _ => ⟨_, _, .nil, hx ⟩⟩)))
    · (repeat (first | refine wd_var rfl (by decide) ?_ | with_reducible refine wd_int ?_ | with_reducible refine wd_str ?_ | with_reducible refine wd_bl ?_ | with_reducible refine wd_non ?_ | with_reducible refine wd_op ?_ | with_reducible refine wd_cb ?_ | with_reducible refine wa_cons ?_ | with_reducible refine wa_nil ?_ | with_reducible refine ws_seq ?_ | refine ws_set (by decide) ?_ | with_reducible refine ws_ret ?_ | with_reducible refine ws_if ?_ | with_reducible refine ws_next ?_ | with_reducible refine wt_rng ?_ | with_reducible refine wt_test ?_ | with_reducible refine wt_B ?_ | with_reducible refine wt_and ?_ | with_reducible refine wt_or ?_ | with_reducible refine wt_not ?_ | with_reducible refine wt_tru ?_ | with_reducible refine wd_if ?_ | with_reducible refine wd_andV ?_ | with_reducible refine wd_orV ?_ | with_reducible refine wd_notV ?_ | with_reducible refine wd_chain ?_ | with_reducible refine wd_tup ?_ | with_reducible refine wd_lst ?_ | with_reducible refine wd_un ?_ | with_reducible refine wd_bm ?_ | with_reducible refine wd_sl ?_ | with_reducible refine wo_none ?_ | with_reducible refine wo_some ?_ | with_reducible refine ws_asg ?_ | refine wg_tup rfl ?_ | with_reducible refine wgs_cons ?_ | with_reducible refine wgs_nil ?_ | refine wg_name (by decide) ?_ | with_reducible refine o_eqS ?_ | with_reducible refine o_neS ?_ | with_reducible refine o_eqI ?_ | with_reducible refine o_neI ?_ | refine o_isN rfl ?_ | refine o_notN rfl ?_ | refine o_ixT rfl ?_ | with_reducible refine o_addI ?_ | with_reducible refine o_I0b ?_ | with_reducible refine o_I0i ?_ | with_reducible refine un_negI ?_ | with_reducible refine s_lst ?_ | with_reducible refine wt_yes ?_ | refine c_len rfl (by first | omega | (simp <;> omega)) ?_ | refine o_addL (by first | omega | (simp <;> omega)) ?_ | refine ite_t rfl ?_ | refine ite_f rfl ?_ | refine ite_t (by decide +kernel) ?_ | refine ite_f (by decide +kernel) ?_ | refine o_inT rfl rfl ?_ | refine o_notInT rfl rfl ?_ | refine ⟨_, rfl, ?_⟩ | refine ⟨Nat.le_of_ble_eq_true rfl, ?_⟩ | refine ⟨fun _ _ _ => ty_lst, ?_⟩))
      exact wd_call [] (wa_cons (wd_var rfl (by decide) (wa_nil ⟨_, _, .nil, bs, rfl, hl, hok, fun h => absurd h (by rw [hg]; decide), fun _ => ⟨_, _, .nil, hx ⟩⟩)))
    · (repeat (first | refine wd_var rfl (by decide) ?_ | with_reducible refine wd_int ?_ | with_reducible refine wd_str ?_ | with_reducible refine wd_bl ?_ | with_reducible refine wd_non ?_ | with_reducible refine wd_op ?_ | with_reducible refine wd_cb ?_ | with_reducible refine wa_cons ?_ | with_reducible refine wa_nil ?_ | with_reducible refine ws_seq ?_ | refine ws_set (by decide) ?_ | with_reducible refine ws_ret ?_ | with_reducible refine ws_if ?_ | with_reducible refine ws_next ?_ | with_reducible refine wt_rng ?_ | with_reducible refine wt_test ?_ | with_reducible refine wt_B ?_ | with_reducible refine wt_and ?_ | with_reducible refine wt_or ?_ | with_reducible refine wt_not ?_ | with_reducible refine wt_tru ?_ | with_reducible refine wd_if ?_ | with_reducible refine wd_andV ?_ | with_reducible refine wd_orV ?_ | with_reducible refine wd_notV ?_ | with_reducible refine wd_chain ?_ | with_reducible refine wd_tup ?_ | with_reducible refine wd_lst ?_ | with_reducible refine wd_un ?_ | with_reducible refine wd_bm ?_ | with_reducible refine wd_sl ?_ | with_reducible refine wo_none ?_ | with_reducible refine wo_some ?_ | with_reducible refine ws_asg ?_ | refine wg_tup rfl ?_ | with_reducible refine wgs_cons ?_ | with_reducible refine wgs_nil ?_ | refine wg_name (by decide) ?_ | with_reducible refine o_eqS ?_ | with_reducible refine o_neS ?_ | with_reducible refine o_eqI ?_ | with_reducible refine o_neI ?_ | refine o_isN rfl ?_ | refine o_notN rfl ?_ | refine o_ixT rfl ?_ | with_reducible refine o_addI ?_ | with_reducible refine o_I0b ?_ | with_reducible refine o_I0i ?_ | with_reducible refine un_negI ?_ | with_reducible refine s_lst ?_ | with_reducible refine wt_yes ?_ | refine c_len rfl (by first | omega | (simp <;> omega)) ?_ | refine o_addL (by first | omega | (simp <;> omega)) ?_ | refine ite_t rfl ?_ | refine ite_f rfl ?_ | refine ite_t (by decide +kernel) ?_ | refine ite_f (by decide +kernel) ?_ | refine o_inT rfl rfl ?_ | refine o_notInT rfl rfl ?_ | refine ⟨_, rfl, ?_⟩ | refine ⟨Nat.le_of_ble_eq_true rfl, ?_⟩ | refine ⟨fun _ _ _ => ty_lst, ?_⟩))
      refine wd_call [] (wa_cons (wd_var rfl (by decide) ?_))
      (repeat (first | refine wd_var rfl (by decide) ?_ | with_reducible refine wd_int ?_ | with_reducible refine wd_str ?_ | with_reducible refine wd_bl ?_ | with_reducible refine wd_non ?_ | with_reducible refine wd_op ?_ | with_reducible refine wd_cb ?_ | with_reducible refine wa_cons ?_ | with_reducible refine wa_nil ?_ | with_reducible refine wt_rng ?_ | with_reducible refine wt_test ?_ | with_reducible refine wt_B ?_ | with_reducible refine wt_and ?_ | with_reducible refine wt_or ?_ | with_reducible refine wt_not ?_ | with_reducible refine wt_tru ?_ | with_reducible refine wd_if ?_ | with_reducible refine wd_andV ?_ | with_reducible refine wd_orV ?_ | with_reducible refine wd_notV ?_ | with_reducible refine wd_chain ?_ | with_reducible refine wd_tup ?_ | with_reducible refine wd_lst ?_ | with_reducible refine wd_un ?_ | with_reducible refine wd_bm ?_ | with_reducible refine wd_sl ?_ | with_reducible refine wo_none ?_ | with_reducible refine wo_some ?_ | refine wg_tup rfl ?_ | with_reducible refine wgs_cons ?_ | with_reducible refine wgs_nil ?_ | refine wg_name (by decide) ?_ | with_reducible refine o_eqS ?_ | with_reducible refine o_neS ?_ | with_reducible refine o_eqI ?_ | with_reducible refine o_neI ?_ | refine o_isN rfl ?_ | refine o_notN rfl ?_ | refine o_ixT rfl ?_ | with_reducible refine o_addI ?_ | with_reducible refine o_I0b ?_ | with_reducible refine o_I0i ?_ | with_reducible refine un_negI ?_ | with_reducible refine s_lst ?_ | with_reducible refine wt_yes ?_ | refine c_len rfl (by first | omega | (simp <;> omega)) ?_ | refine o_addL (by first | omega | (simp <;> omega)) ?_ | refine ite_t rfl ?_ | refine ite_f rfl ?_ | refine ite_t (by decide +kernel) ?_ | refine ite_f (by decide +kernel) ?_ | refine o_inT rfl rfl ?_ | refine o_notInT rfl rfl ?_ | refine ⟨_, rfl, ?_⟩ | refine ⟨Nat.le_of_ble_eq_true rfl, ?_⟩ | refine ⟨fun _ _ _ => ty_lst, ?_⟩))
      exact ⟨_, _, .nil, bs, oneA, rfl, hl, ol, hok, oneA_ok2, g1, _, _, .nil, hx⟩
    · (repeat (first | refine wd_var rfl (by decide) ?_ | with_reducible refine wd_int ?_ | with_reducible refine wd_str ?_ | with_reducible refine wd_bl ?_ | with_reducible refine wd_non ?_ | with_reducible refine wd_op ?_ | with_reducible refine wd_cb ?_ | with_reducible refine wa_cons ?_ | with_reducible refine wa_nil ?_ | with_reducible refine ws_seq ?_ | refine ws_set (by decide) ?_ | with_reducible refine ws_ret ?_ | with_reducible refine ws_if ?_ | with_reducible refine ws_next ?_ | with_reducible refine wt_rng ?_ | with_reducible refine wt_test ?_ | with_reducible refine wt_B ?_ | with_reducible refine wt_and ?_ | with_reducible refine wt_or ?_ | with_reducible refine wt_not ?_ | with_reducible refine wt_tru ?_ | with_reducible refine wd_if ?_ | with_reducible refine wd_andV ?_ | with_reducible refine wd_orV ?_ | with_reducible refine wd_notV ?_ | with_reducible refine wd_chain ?_ | with_reducible refine wd_tup ?_ | with_reducible refine wd_lst ?_ | with_reducible refine wd_un ?_ | with_reducible refine wd_bm ?_ | with_reducible refine wd_sl ?_ | with_reducible refine wo_none ?_ | with_reducible refine wo_some ?_ | with_reducible refine ws_asg ?_ | refine wg_tup rfl ?_ | with_reducible refine wgs_cons ?_ | with_reducible refine wgs_nil ?_ | refine wg_name (by decide) ?_ | with_reducible refine o_eqS ?_ | with_reducible refine o_neS ?_ | with_reducible refine o_eqI ?_ | with_reducible refine o_neI ?_ | refine o_isN rfl ?_ | refine o_notN rfl ?_ | refine o_ixT rfl ?_ | with_reducible refine o_addI ?_ | with_reducible refine o_I0b ?_ | with_reducible refine o_I0i ?_ | with_reducible refine un_negI ?_ | with_reducible refine s_lst ?_ | with_reducible refine wt_yes ?_ | refine c_len rfl (by first | omega | (simp <;> omega)) ?_ | refine o_addL (by first | omega | (simp <;> omega)) ?_ | refine ite_t rfl ?_ | refine ite_f rfl ?_ | refine ite_t (by decide +kernel) ?_ | refine ite_f (by decide +kernel) ?_ | refine o_inT rfl rfl ?_ | refine o_notInT rfl rfl ?_ | refine ⟨_, rfl, ?_⟩ | refine ⟨Nat.le_of_ble_eq_true rfl, ?_⟩ | refine ⟨fun _ _ _ => ty_lst, ?_⟩))
      refine wd_call [] (wa_cons ?_)
      (repeat (first | refine wd_var rfl (by decide) ?_ | with_reducible refine wd_int ?_ | with_reducible refine wd_str ?_ | with_reducible refine wd_bl ?_ | with_reducible refine wd_non ?_ | with_reducible refine wd_op ?_ | with_reducible refine wd_cb ?_ | with_reducible refine wa_cons ?_ | with_reducible refine wa_nil ?_ | with_reducible refine wt_rng ?_ | with_reducible refine wt_test ?_ | with_reducible refine wt_B ?_ | with_reducible refine wt_and ?_ | with_reducible refine wt_or ?_ | with_reducible refine wt_not ?_ | with_reducible refine wt_tru ?_ | with_reducible refine wd_if ?_ | with_reducible refine wd_andV ?_ | with_reducible refine wd_orV ?_ | with_reducible refine wd_notV ?_ | with_reducible refine wd_chain ?_ | with_reducible refine wd_tup ?_ | with_reducible refine wd_lst ?_ | with_reducible refine wd_un ?_ | with_reducible refine wd_bm ?_ | with_reducible refine wd_sl ?_ | with_reducible refine wo_none ?_ | with_reducible refine wo_some ?_ | refine wg_tup rfl ?_ | with_reducible refine wgs_cons ?_ | with_reducible refine wgs_nil ?_ | refine wg_name (by decide) ?_ | with_reducible refine o_eqS ?_ | with_reducible refine o_neS ?_ | with_reducible refine o_eqI ?_ | with_reducible refine o_neI ?_ | refine o_isN rfl ?_ | refine o_notN rfl ?_ | refine o_ixT rfl ?_ | with_reducible refine o_addI ?_ | with_reducible refine o_I0b ?_ | with_reducible refine o_I0i ?_ | with_reducible refine un_negI ?_ | with_reducible refine s_lst ?_ | with_reducible refine wt_yes ?_ | refine c_len rfl (by first | omega | (simp <;> omega)) ?_ | refine o_addL (by first | omega | (simp <;> omega)) ?_ | refine ite_t rfl ?_ | refine ite_f rfl ?_ | refine ite_t (by decide +kernel) ?_ | refine ite_f (by decide +kernel) ?_ | refine o_inT rfl rfl ?_ | refine o_notInT rfl rfl ?_ | refine ⟨_, rfl, ?_⟩ | refine ⟨Nat.le_of_ble_eq_true rfl, ?_⟩ | refine ⟨fun _ _ _ => ty_lst, ?_⟩))
      exact ⟨_, _, .nil, oneA, bs, rfl, ol, hl, oneA_ok2, hok, g2, _, _, .nil, hx⟩
    · (repeat (first | refine wd_var rfl (by decide) ?_ | with_reducible refine wd_int ?_ | with_reducible refine wd_str ?_ | with_reducible refine wd_bl ?_ | with_reducible refine wd_non ?_ | with_reducible refine wd_op ?_ | with_reducible refine wd_cb ?_ | with_reducible refine wa_cons ?_ | with_reducible refine wa_nil ?_ | with_reducible refine ws_seq ?_ | refine ws_set (by decide) ?_ | with_reducible refine ws_ret ?_ | with_reducible refine ws_if ?_ | with_reducible refine ws_next ?_ | with_reducible refine wt_rng ?_ | with_reducible refine wt_test ?_ | with_reducible refine wt_B ?_ | with_reducible refine wt_and ?_ | with_reducible refine wt_or ?_ | with_reducible refine wt_not ?_ | with_reducible refine wt_tru ?_ | with_reducible refine wd_if ?_ | with_reducible refine wd_andV ?_ | with_reducible refine wd_orV ?_ | with_reducible refine wd_notV ?_ | with_reducible refine wd_chain ?_ | with_reducible refine wd_tup ?_ | with_reducible refine wd_lst ?_ | with_reducible refine wd_un ?_ | with_reducible refine wd_bm ?_ | with_reducible refine wd_sl ?_ | with_reducible refine wo_none ?_ | with_reducible refine wo_some ?_ | with_reducible refine ws_asg ?_ | refine wg_tup rfl ?_ | with_reducible refine wgs_cons ?_ | with_reducible refine wgs_nil ?_ | refine wg_name (by decide) ?_ | with_reducible refine o_eqS ?_ | with_reducible refine o_neS ?_ | with_reducible refine o_eqI ?_ | with_reducible refine o_neI ?_ | refine o_isN rfl ?_ | refine o_notN rfl ?_ | refine o_ixT rfl ?_ | with_reducible refine o_addI ?_ | with_reducible refine o_I0b ?_ | with_reducible refine o_I0i ?_ | with_reducible refine un_negI ?_ | with_reducible refine s_lst ?_ | with_reducible refine wt_yes ?_ | refine c_len rfl (by first | omega | (simp <;> omega)) ?_ | refine o_addL (by first | omega | (simp <;> omega)) ?_ | refine ite_t rfl ?_ | refine ite_f rfl ?_ | refine ite_t (by decide +kernel) ?_ | refine ite_f (by decide +kernel) ?_ | refine o_inT rfl rfl ?_ | refine o_notInT rfl rfl ?_ | refine ⟨_, rfl, ?_⟩ | refine ⟨Nat.le_of_ble_eq_true rfl, ?_⟩ | refine ⟨fun _ _ _ => ty_lst, ?_⟩))
      refine wd_call [] (wa_cons (wd_var rfl (by decide) ?_))
      (repeat (first | refine wd_var rfl (by decide) ?_ | with_reducible refine wd_int ?_ | with_reducible refine wd_str ?_ | with_reducible refine wd_bl ?_ | with_reducible refine wd_non ?_ | with_reducible refine wd_op ?_ | with_reducible refine wd_cb ?_ | with_reducible refine wa_cons ?_ | with_reducible refine wa_nil ?_ | with_reducible refine wt_rng ?_ | with_reducible refine wt_test ?_ | with_reducible refine wt_B ?_ | with_reducible refine wt_and ?_ | with_reducible refine wt_or ?_ | with_reducible refine wt_not ?_ | with_reducible refine wt_tru ?_ | with_reducible refine wd_if ?_ | with_reducible refine wd_andV ?_ | with_reducible refine wd_orV ?_ | with_reducible refine wd_notV ?_ | with_reducible refine wd_chain ?_ | with_reducible refine wd_tup ?_ | with_reducible refine wd_lst ?_ | with_reducible refine wd_un ?_ | with_reducible refine wd_bm ?_ | with_reducible refine wd_sl ?_ | with_reducible refine wo_none ?_ | with_reducible refine wo_some ?_ | refine wg_tup rfl ?_ | with_reducible refine wgs_cons ?_ | with_reducible refine wgs_nil ?_ | refine wg_name (by decide) ?_ | with_reducible refine o_eqS ?_ | with_reducible refine o_neS ?_ | with_reducible refine o_eqI ?_ | with_reducible refine o_neI ?_ | refine o_isN rfl ?_ | refine o_notN rfl ?_ | refine o_ixT rfl ?_ | with_reducible refine o_addI ?_ | with_reducible refine o_I0b ?_ | with_reducible refine o_I0i ?_ | with_reducible refine un_negI ?_ | with_reducible refine s_lst ?_ | with_reducible refine wt_yes ?_ | refine c_len rfl (by first | omega | (simp <;> omega)) ?_ | refine o_addL (by first | omega | (simp <;> omega)) ?_ | refine ite_t rfl ?_ | refine ite_f rfl ?_ | refine ite_t (by decide +kernel) ?_ | refine ite_f (by decide +kernel) ?_ | refine o_inT rfl rfl ?_ | refine o_notInT rfl rfl ?_ | refine ⟨_, rfl, ?_⟩ | refine ⟨Nat.le_of_ble_eq_true rfl, ?_⟩ | refine ⟨fun _ _ _ => ty_lst, ?_⟩))
      exact ⟨_, _, .nil, bs, oneA, rfl, hl, ol, hok, oneA_ok2, g1, _, _, .nil, hx⟩
    · (repeat (first | refine wd_var rfl (by decide) ?_ | with_reducible refine wd_int ?_ | with_reducible refine wd_str ?_ | with_reducible refine wd_bl ?_ | with_reducible refine wd_non ?_ | with_reducible refine wd_op ?_ | with_reducible refine wd_cb ?_ | with_reducible refine wa_cons ?_ | with_reducible refine wa_nil ?_ | with_reducible refine ws_seq ?_ | refine ws_set (by decide) ?_ | with_reducible refine ws_ret ?_ | with_reducible refine ws_if ?_ | with_reducible refine ws_next ?_ | with_reducible refine wt_rng ?_ | with_reducible refine wt_test ?_ | with_reducible refine wt_B ?_ | with_reducible refine wt_and ?_ | with_reducible refine wt_or ?_ | with_reducible refine wt_not ?_ | with_reducible refine wt_tru ?_ | with_reducible refine wd_if ?_ | with_reducible refine wd_andV ?_ | with_reducible refine wd_orV ?_ | with_reducible refine wd_notV ?_ | with_reducible refine wd_chain ?_ | with_reducible refine wd_tup ?_ | with_reducible refine wd_lst ?_ | with_reducible refine wd_un ?_ | with_reducible refine wd_bm ?_ | with_reducible refine wd_sl ?_ | with_reducible refine wo_none ?_ | with_reducible refine wo_some ?_ | with_reducible refine ws_asg ?_ | refine wg_tup rfl ?_ | with_reducible refine wgs_cons ?_ | with_reducible refine wgs_nil ?_ | refine wg_name (by decide) ?_ | with_reducible refine o_eqS ?_ | with_reducible refine o_neS ?_ | with_reducible refine o_eqI ?_ | with_reducible refine o_neI ?_ | refine o_isN rfl ?_ | refine o_notN rfl ?_ | refine o_ixT rfl ?_ | with_reducible refine o_addI ?_ | with_reducible refine o_I0b ?_ | with_reducible refine o_I0i ?_ | with_reducible refine un_negI ?_ | with_reducible refine s_lst ?_ | with_reducible refine wt_yes ?_ | refine c_len rfl (by first | omega | (simp <;> omega)) ?_ | refine o_addL (by first | omega | (simp <;> omega)) ?_ | refine ite_t rfl ?_ | refine ite_f rfl ?_ | refine ite_t (by decide +kernel) ?_ | refine ite_f (by decide +kernel) ?_ | refine o_inT rfl rfl ?_ | refine o_notInT rfl rfl ?_ | refine ⟨_, rfl, ?_⟩ | refine ⟨Nat.le_of_ble_eq_true rfl, ?_⟩ | refine ⟨fun _ _ _ => ty_lst, ?_⟩))
      refine wd_call [] (wa_cons ?_)
      (repeat (first | refine wd_var rfl (by decide) ?_ | with_reducible refine wd_int ?_ | with_reducible refine wd_str ?_ | with_reducible refine wd_bl ?_ | with_reducible refine wd_non ?_ | with_reducible refine wd_op ?_ | with_reducible refine wd_cb ?_ | with_reducible refine wa_cons ?_ | with_reducible refine wa_nil ?_ | with_reducible refine wt_rng ?_ | with_reducible refine wt_test ?_ | with_reducible refine wt_B ?_ | with_reducible refine wt_and ?_ | with_reducible refine wt_or ?_ | with_reducible refine wt_not ?_ | with_reducible refine wt_tru ?_ | with_reducible refine wd_if ?_ | with_reducible refine wd_andV ?_ | with_reducible refine wd_orV ?_ | with_reducible refine wd_notV ?_ | with_reducible refine wd_chain ?_ | with_reducible refine wd_tup ?_ | with_reducible refine wd_lst ?_ | with_reducible refine wd_un ?_ | with_reducible refine wd_bm ?_ | with_reducible refine wd_sl ?_ | with_reducible refine wo_none ?_ | with_reducible refine wo_some ?_ | refine wg_tup rfl ?_ | with_reducible refine wgs_cons ?_ | with_reducible refine wgs_nil ?_ | refine wg_name (by decide) ?_ | with_reducible refine o_eqS ?_ | with_reducible refine o_neS ?_ | with_reducible refine o_eqI ?_ | with_reducible refine o_neI ?_ | refine o_isN rfl ?_ | refine o_notN rfl ?_ | refine o_ixT rfl ?_ | with_reducible refine o_addI ?_ | with_reducible refine o_I0b ?_ | with_reducible refine o_I0i ?_ | with_reducible refine un_negI ?_ | with_reducible refine s_lst ?_ | with_reducible refine wt_yes ?_ | refine c_len rfl (by first | omega | (simp <;> omega)) ?_ | refine o_addL (by first | omega | (simp <;> omega)) ?_ | refine ite_t rfl ?_ | refine ite_f rfl ?_ | refine ite_t (by decide +kernel) ?_ | refine ite_f (by decide +kernel) ?_ | refine o_inT rfl rfl ?_ | refine o_notInT rfl rfl ?_ | refine ⟨_, rfl, ?_⟩ | refine ⟨Nat.le_of_ble_eq_true rfl, ?_⟩ | refine ⟨fun _ _ _ => ty_lst, ?_⟩))
      exact ⟨_, _, .nil, oneA, bs, rfl, ol, hl, oneA_ok2, hok, g2, _, _, .nil, hx⟩
    · (repeat (first | refine wd_var rfl (by decide) ?_ | with_reducible refine wd_int ?_ | with_reducible refine wd_str ?_ | with_reducible refine wd_bl ?_ | with_reducible refine wd_non ?_ | with_reducible refine wd_op ?_ | with_reducible refine wd_cb ?_ | with_reducible refine wa_cons ?_ | with_reducible refine wa_nil ?_ | with_reducible refine ws_seq ?_ | refine ws_set (by decide) ?_ | with_reducible refine ws_ret ?_ | with_reducible refine ws_if ?_ | with_reducible refine ws_next ?_ | with_reducible refine wt_rng ?_ | with_reducible refine wt_test ?_ | with_reducible refine wt_B ?_ | with_reducible refine wt_and ?_ | with_reducible refine wt_or ?_ | with_reducible refine wt_not ?_ | with_reducible refine wt_tru ?_ | with_reducible refine wd_if ?_ | with_reducible refine wd_andV ?_ | with_reducible refine wd_orV ?_ | with_reducible refine wd_notV ?_ | with_reducible refine wd_chain ?_ | with_reducible refine wd_tup ?_ | with_reducible refine wd_lst ?_ | with_reducible refine wd_un ?_ | with_reducible refine wd_bm ?_ | with_reducible refine wd_sl ?_ | with_reducible refine wo_none ?_ | with_reducible refine wo_some ?_ | with_reducible refine ws_asg ?_ | refine wg_tup rfl ?_ | with_reducible refine wgs_cons ?_ | with_reducible refine wgs_nil ?_ | refine wg_name (by decide) ?_ | with_reducible refine o_eqS ?_ | with_reducible refine o_neS ?_ | with_reducible refine o_eqI ?_ | with_reducible refine o_neI ?_ | refine o_isN rfl ?_ | refine o_notN rfl ?_ | refine o_ixT rfl ?_ | with_reducible refine o_addI ?_ | with_reducible refine o_I0b ?_ | with_reducible refine o_I0i ?_ | with_reducible refine un_negI ?_ | with_reducible refine s_lst ?_ | with_reducible refine wt_yes ?_ | refine c_len rfl (by first | omega | (simp <;> omega)) ?_ | refine o_addL (by first | omega | (simp <;> omega)) ?_ | refine ite_t rfl ?_ | refine ite_f rfl ?_ | refine ite_t (by decide +kernel) ?_ | refine ite_f (by decide +kernel) ?_ | refine o_inT rfl rfl ?_ | refine o_notInT rfl rfl ?_ | refine ⟨_, rfl, ?_⟩ | refine ⟨Nat.le_of_ble_eq_true rfl, ?_⟩ | refine ⟨fun _ _ _ => ty_lst, ?_⟩))
      refine wd_call [] (wa_cons (wd_var rfl (by decide) ?_))
      (repeat (first | refine wd_var rfl (by decide) ?_ | with_reducible refine wd_int ?_ | with_reducible refine wd_str ?_ | with_reducible refine wd_bl ?_ | with_reducible refine wd_non ?_ | with_reducible refine wd_op ?_ | with_reducible refine wd_cb ?_ | with_reducible refine wa_cons ?_ | with_reducible refine wa_nil ?_ | with_reducible refine wt_rng ?_ | with_reducible refine wt_test ?_ | with_reducible refine wt_B ?_ | with_reducible refine wt_and ?_ | with_reducible refine wt_or ?_ | with_reducible refine wt_not ?_ | with_reducible refine wt_tru ?_ | with_reducible refine wd_if ?_ | with_reducible refine wd_andV ?_ | with_reducible refine wd_orV ?_ | with_reducible refine wd_notV ?_ | with_reducible refine wd_chain ?_ | with_reducible refine wd_tup ?_ | with_reducible refine wd_lst ?_ | with_reducible refine wd_un ?_ | with_reducible refine wd_bm ?_ | with_reducible refine wd_sl ?_ | with_reducible refine wo_none ?_ | with_reducible refine wo_some ?_ | refine wg_tup rfl ?_ | with_reducible refine wgs_cons ?_ | with_reducible refine wgs_nil ?_ | refine wg_name (by decide) ?_ | with_reducible refine o_eqS ?_ | with_reducible refine o_neS ?_ | with_reducible refine o_eqI ?_ | with_reducible refine o_neI ?_ | refine o_isN rfl ?_ | refine o_notN rfl ?_ | refine o_ixT rfl ?_ | with_reducible refine o_addI ?_ | with_reducible refine o_I0b ?_ | with_reducible refine o_I0i ?_ | with_reducible refine un_negI ?_ | with_reducible refine s_lst ?_ | with_reducible refine wt_yes ?_ | refine c_len rfl (by first | omega | (simp <;> omega)) ?_ | refine o_addL (by first | omega | (simp <;> omega)) ?_ | refine ite_t rfl ?_ | refine ite_f rfl ?_ | refine ite_t (by decide +kernel) ?_ | refine ite_f (by decide +kernel) ?_ | refine o_inT rfl rfl ?_ | refine o_notInT rfl rfl ?_ | refine ⟨_, rfl, ?_⟩ | refine ⟨Nat.le_of_ble_eq_true rfl, ?_⟩ | refine ⟨fun _ _ _ => ty_lst, ?_⟩))
      exact ⟨_, _, .nil, bs, bs, rfl, hl, hl, hok, hok, g3, _, _, .nil, hx⟩
    · (repeat (first | refine wd_var rfl (by decide) ?_ | with_reducible refine wd_int ?_ | with_reducible refine wd_str ?_ | with_reducible refine wd_bl ?_ | with_reducible refine wd_non ?_ | with_reducible refine wd_op ?_ | with_reducible refine wd_cb ?_ | with_reducible refine wa_cons ?_ | with_reducible refine wa_nil ?_ | with_reducible refine ws_seq ?_ | refine ws_set (by decide) ?_ | with_reducible refine ws_ret ?_ | with_reducible refine ws_if ?_ | with_reducible refine ws_next ?_ | with_reducible refine wt_rng ?_ | with_reducible refine wt_test ?_ | with_reducible refine wt_B ?_ | with_reducible refine wt_and ?_ | with_reducible refine wt_or ?_ | with_reducible refine wt_not ?_ | with_reducible refine wt_tru ?_ | with_reducible refine wd_if ?_ | with_reducible refine wd_andV ?_ | with_reducible refine wd_orV ?_ | with_reducible refine wd_notV ?_ | with_reducible refine wd_chain ?_ | with_reducible refine wd_tup ?_ | with_reducible refine wd_lst ?_ | with_reducible refine wd_un ?_ | with_reducible refine wd_bm ?_ | with_reducible refine wd_sl ?_ | with_reducible refine wo_none ?_ | with_reducible refine wo_some ?_ | with_reducible refine ws_asg ?_ | refine wg_tup rfl ?_ | with_reducible refine wgs_cons ?_ | with_reducible refine wgs_nil ?_ | refine wg_name (by decide) ?_ | with_reducible refine o_eqS ?_ | with_reducible refine o_neS ?_ | with_reducible refine o_eqI ?_ | with_reducible refine o_neI ?_ | refine o_isN rfl ?_ | refine o_notN rfl ?_ | refine o_ixT rfl ?_ | with_reducible refine o_addI ?_ | with_reducible refine o_I0b ?_ | with_reducible refine o_I0i ?_ | with_reducible refine un_negI ?_ | with_reducible refine s_lst ?_ | with_reducible refine wt_yes ?_ | refine c_len rfl (by first | omega | (simp <;> omega)) ?_ | refine o_addL (by first | omega | (simp <;> omega)) ?_ | refine ite_t rfl ?_ | refine ite_f rfl ?_ | refine ite_t (by decide +kernel) ?_ | refine ite_f (by decide +kernel) ?_ | refine o_inT rfl rfl ?_ | refine o_notInT rfl rfl ?_ | refine ⟨_, rfl, ?_⟩ | refine ⟨Nat.le_of_ble_eq_true rfl, ?_⟩ | refine ⟨fun _ _ _ => ty_lst, ?_⟩))
      refine wd_call [] (wa_cons ?_)
      (repeat (first | refine wd_var rfl (by decide) ?_ | with_reducible refine wd_int ?_ | with_reducible refine wd_str ?_ | with_reducible refine wd_bl ?_ | with_reducible refine wd_non ?_ | with_reducible refine wd_op ?_ | with_reducible refine wd_cb ?_ | with_reducible refine wa_cons ?_ | with_reducible refine wa_nil ?_ | with_reducible refine wt_rng ?_ | with_reducible refine wt_test ?_ | with_reducible refine wt_B ?_ | with_reducible refine wt_and ?_ | with_reducible refine wt_or ?_ | with_reducible refine wt_not ?_ | with_reducible refine wt_tru ?_ | with_reducible refine wd_if ?_ | with_reducible refine wd_andV ?_ | with_reducible refine wd_orV ?_ | with_reducible refine wd_notV ?_ | with_reducible refine wd_chain ?_ | with_reducible refine wd_tup ?_ | with_reducible refine wd_lst ?_ | with_reducible refine wd_un ?_ | with_reducible refine wd_bm ?_ | with_reducible refine wd_sl ?_ | with_reducible refine wo_none ?_ | with_reducible refine wo_some ?_ | refine wg_tup rfl ?_ | with_reducible refine wgs_cons ?_ | with_reducible refine wgs_nil ?_ | refine wg_name (by decide) ?_ | with_reducible refine o_eqS ?_ | with_reducible refine o_neS ?_ | with_reducible refine o_eqI ?_ | with_reducible refine o_neI ?_ | refine o_isN rfl ?_ | refine o_notN rfl ?_ | refine o_ixT rfl ?_ | with_reducible refine o_addI ?_ | with_reducible refine o_I0b ?_ | with_reducible refine o_I0i ?_ | with_reducible refine un_negI ?_ | with_reducible refine s_lst ?_ | with_reducible refine wt_yes ?_ | refine c_len rfl (by first | omega | (simp <;> omega)) ?_ | refine o_addL (by first | omega | (simp <;> omega)) ?_ | refine ite_t rfl ?_ | refine ite_f rfl ?_ | refine ite_t (by decide +kernel) ?_ | refine ite_f (by decide +kernel) ?_ | refine o_inT rfl rfl ?_ | refine o_notInT rfl rfl ?_ | refine ⟨_, rfl, ?_⟩ | refine ⟨Nat.le_of_ble_eq_true rfl, ?_⟩ | refine ⟨fun _ _ _ => ty_lst, ?_⟩))
      exact ⟨_, _, .nil, [oneA, bs], rfl, by simp, fun p hp => by simp at hp; rcases hp with rfl | rfl; exact ⟨ol, oneA_ok2⟩; exact ⟨hl, hok⟩, ⟨bs, by simp, hg⟩, _, _, .nil, hx⟩
def kindX : PySem.Str → PySem.Str := fun x => if x = "BadText" then "text" else "pattern"
def toldD : D ⊕ PySem.Str → D
  | .inl d => .tup [.str "found", d]
  | .inr x => refD (kindX x)
def fs__law_told (K : PySem.W.Frag) : FS := fun ms P X => ∃ k g o, ms = [.fz (.int k), .fz g] ∧ One k g o ∧ P (.fz (toldD o)) ms
/-- _law_told: slots 0 kind, 1 some, 2 caught, 3 found, 4 e -/
def t__law_told (K : PySem.W.Frag) : WX → TS := fun W => (tSeq (tAsg (tC .non) (gName 2)) (tSeq (tAsg (tC .non) (gName 3)) (tSeq (tTryHeld K 4 (He.ga K "HallError") (fun W => (tAsg (tCallS (SpM K (fs__law_one K)) (WE W) (tCons (tVar 0) (tCons (tVar 1) tNil))) (gName 3))) (tAsg (tVar 4) (gName 2)) W) (tRet (tIf (tTest (tOp rIsN (tVar 2) (tC .non))) (tTup (tCons (tC (.str "found")) (tCons (tVar 3) tNil))) (tCallS (SpM K (fs__law_refusal K)) (WE W) (tCons (tVar 2) tNil)))))))
theorem h__law_told {K : PySem.W.Frag} (xf : XF K) : FsOk K 2 5 (fs__law_told K) (t__law_told K) := by
  intro ms P X hf
  obtain ⟨k, g, o, rfl, ho, hP⟩ := hf
  refine ⟨rfl, ?_⟩
  unfold t__law_told
  refine ws_seq (ws_set (by decide) (wd_non (ws_seq (ws_set (by decide) (wd_non ?_ )))))
  refine ws_seq (ws_tryHeld (Y := fun c m => ∃ x, o = .inr x ∧ c = .ref (He.ga K x) ∧ m = [.fz (.int k), .fz g, .fz .non, .fz .non, .un]) (by decide) (by decide) (by decide) ?_ ?_)
  · refine ws_set (by decide) (wd_call [] (wa_cons (wd_var rfl (by decide) (wa_cons (wd_var rfl (by decide) (wa_nil ⟨_, _, .nil, k, g, o, rfl, ho, fun d hd => ⟨_, _, .nil, _, rfl, ?_⟩, fun x hx => ⟨_, _, .nil, x, hx, rfl, rfl ⟩⟩))))))
    subst hd
    exact ws_ret (wd_if (wt_test (wd_op (wd_var rfl (by decide) (wd_non (o_isN rfl ⟨_, rfl, ite_t rfl (wd_tup (wa_cons (wd_str (wa_cons (wd_var rfl (by decide) (wa_nil ⟨Nat.le_of_ble_eq_true rfl, _, .fz (.fz .nil), hP ⟩))))))⟩))))))
  · rintro c m ⟨x, rfl, rfl, rfl⟩
    have hx : x = "BadText" ∨ x = "BadPattern" := by cases ho <;> simp
    rcases hx with rfl | rfl
    · refine ⟨xf.h "BadText" (by decide +kernel), ?_⟩
      exact ws_ret (wd_if (wt_test (wd_op (wd_var rfl (by decide) (wd_non (o_isN rfl ⟨_, rfl, ite_f rfl (wd_call [] (wa_cons (wd_var rfl (by decide) (wa_nil ⟨_, _, .nil, ⟨0, by decide⟩, rfl, _, _, .nil, _, rfl, _, .fz (.fz .nil), hP ⟩))))⟩))))))
    · refine ⟨xf.h "BadPattern" (by decide +kernel), ?_⟩
      have e : toldD (.inr "BadPattern") = refD "pattern" := by
        simp only [toldD, kindX]
        rw [if_neg (by decide +kernel)]
      rw [e] at hP
      exact ws_ret (wd_if (wt_test (wd_op (wd_var rfl (by decide) (wd_non (o_isN rfl ⟨_, rfl, ite_f rfl (wd_call [] (wa_cons (wd_var rfl (by decide) (wa_nil ⟨_, _, .nil, ⟨1, by decide⟩, rfl, _, _, .nil, _, rfl, _, .fz (.fz .nil), hP ⟩))))⟩))))))
end M
namespace M
open PySem PySem.Spec PyProof.Rows L2
/-! ### the law k41 -/
def fs_law (K : PySem.W.Frag) : FS := fun ms P X => ∃ sc, ms = [scr sc] ∧ sc.length ≤ 63 ∧ P (.fz (.bl true)) ms
/-- law: slots 0 script, 1 town, 2 pattern, 3 text, 4 bad, 5 odd, 6 bend, 7 at, 8 sign, 9 bent, 10 told, 11 kind -/
def t_law (K : PySem.W.Frag) : WX → TS := fun W => (tSeq (tAsg (tLst tNil) (gName 1)) (tSeq (tAsg (tCallS (SpM K (fs__law_pattern K)) (WE W) (tCons (tVar 0) (tCons (tVar 1) (tCons (tC (.int 6)) tNil)))) (gName 2)) (tSeq (tAsg (tCallS (SpM K (fs__law_text K)) (WE W) (tCons (tVar 2) tNil)) (gName 3)) (tSeq (tIfS (tOr (tTest (tOp (rNeA K) (tCallS (SpM K (fs_pattern_text K)) (WE W) (tCons (tVar 2) tNil)) (tVar 3))) (tTest (tOp (rNeA K) (tCallS (SpM K (fs__law_told K)) (WE W) (tCons (tC (.int 0)) (tCons (tVar 3) tNil))) (tTup (tCons (tC (.str "found")) (tCons (tVar 2) tNil)))))) (tRet (tC (.bl false))) tNext) (tSeq (tAsg (tLst (tCons (tLst tNil) (tCons (tOp rMulA (tLst (tCons (tTup (tCons (tC (.str "one")) (tCons (tC (.str "a")) tNil))) tNil)) (tC (.int 2))) (tCons (tOp rMulA (tLst (tCons (tTup (tCons (tC (.str "one")) (tCons (tC (.str "a")) tNil))) tNil)) (tC (.int 7))) (tCons (tLst (tCons (tTup (tCons (tC (.str "of")) (tCons (tLst tNil) tNil))) tNil)) (tCons (tLst (tCons (tTup (tCons (tC (.str "of")) (tCons (tOp rMulA (tLst (tCons (tC (.str "a")) tNil)) (tC (.int 5))) tNil))) tNil)) (tCons (tLst (tCons (tTup (tCons (tC (.str "word")) (tCons (tC (.str "A")) tNil))) tNil)) tNil))))))) (gName 4)) (tSeq (tAsg (tOp (rAddA K) (tVar 4) (tLst (tCons (tLst (tCons (tTup (tCons (tC (.str "word")) (tCons (tC (.str "")) tNil))) tNil)) (tCons (tLst (tCons (tTup (tCons (tC (.str "any")) (tCons (tC (.str "x y")) tNil))) tNil)) (tCons (tLst (tCons (tTup (tCons (tC (.str "of")) (tCons (tLst (tCons (tC (.str "a")) (tCons (tC (.str "-")) tNil))) tNil))) tNil)) (tCons (tLst (tCons (tTup (tCons (tC (.str "all")) (tCons (tC (.str "a")) tNil))) tNil)) (tCons (tOp (rAddA K) (tVar 2) (tLst (tCons (tTup (tCons (tC (.str "one")) (tCons (tC (.str "Q")) tNil))) tNil))) tNil))))))) (gName 4)) (tSeq (tAsg (tCallS (SpM K (fs__law_pick K)) (WE W) (tCons (tVar 0) (tCons (tVar 1) (tCons (tVar 4) tNil)))) (gName 5)) (tSeq (tIfS (tTest (tOp (rNeA K) (tLcW (iRng2 (tCons (tC (.int 1)) (tCons (tC (.int 9)) tNil))) (gName 11) (fun W => tYes) (fun W => (tCallS (SpM K (fs__law_told K)) (WE W) (tCons (tVar 11) (tCons (tVar 5) tNil)))) [11]) (tOp rMulA (tLst (tCons (tTup (tCons (tC (.str "refused")) (tCons (tC (.str "pattern")) tNil))) tNil)) (tC (.int 8))))) (tRet (tC (.bl false))) tNext) (tSeq (tFor (iRng1 (tCons (tC (.int 5)) tNil)) (gName 6) (tSeq (tAsg (tCallS (SpM K (fs__law_draw K)) (WE W) (tCons (tVar 0) (tCons (tVar 1) (tCons (tOp (rAddA K) (tCB (rLenA K) (tCons (tVar 3) tNil)) (tC (.int 1))) tNil)))) (gName 7)) (tSeq (tAsg (tCallS (SpM K (fs__law_pick K)) (WE W) (tCons (tVar 0) (tCons (tVar 1) (tCons (tLst (tCons (tC (.str "")) (tCons (tC (.str "a")) (tCons (tC (.str "7")) (tCons (tC (.str " ")) (tCons (tC (.str "|")) (tCons (tC (.str "?")) (tCons (tC (.str "*")) (tCons (tC (.str "? ")) (tCons (tC (.str "A")) (tCons (tC (.str "-")) (tCons (tC (.str " cat")) (tCons (tC (.str "|dog")) tNil))))))))))))) tNil)))) (gName 8)) (tSeq (tAsg (tOp (rAddA K) (tOp (rAddA K) (L2.tSl (rSlA' K) (tVar 3) tNoPart (tPart (tVar 7))) (tVar 8)) (L2.tSl (rSlA' K) (tVar 3) (tPart (tOp (rAddA K) (tVar 7) (tCallS (SpM K (fs__law_draw K)) (WE W) (tCons (tVar 0) (tCons (tVar 1) (tCons (tC (.int 2)) tNil)))))) tNoPart)) (gName 9)) (tSeq (tAsg (tCallS (SpM K (fs__law_told K)) (WE W) (tCons (tC (.int 0)) (tCons (tVar 9) tNil))) (gName 10)) (tIfS (tTest (tOp (rEqA K) (tOp (rIxA K) (tVar 10) (tC (.int 0))) (tC (.str "found")))) (tIfS (tOr (tTest (tOp (rNeA K) (tCallS (SpM K (fs__law_text K)) (WE W) (tCons (tOp (rIxA K) (tVar 10) (tC (.int 1))) tNil)) (tVar 9))) (tTest (tOp (rNeA K) (tOp (rIxA K) (tCallS (SpM K (fs__law_told K)) (WE W) (tCons (tC (.int 2)) (tCons (tOp (rIxA K) (tVar 10) (tC (.int 1))) tNil))) (tC (.int 0))) (tC (.str "found"))))) (tRet (tC (.bl false))) tNext) (tIfS (tTest (tOp (rNeA K) (tVar 10) (tTup (tCons (tC (.str "refused")) (tCons (tC (.str "text")) tNil))))) (tRet (tC (.bl false))) tNext))))))) (tSeq (tAsg (tLst (tCons (tC (.str "")) (tCons (tC (.str " ")) (tCons (tC (.str "?")) (tCons (tC (.str "*")) (tCons (tC (.str "a ")) (tCons (tC (.str " a")) (tCons (tC (.str "a  b")) (tCons (tC (.str "|")) (tCons (tC (.str "|a")) (tCons (tC (.str "a||b")) (tCons (tC (.str "a|b|")) (tCons (tC (.str "?a ?a")) (tCons (tC (.str "*a ?a")) (tCons (tC (.str "a|b|a|b|a")) tNil))))))))))))))) (gName 5)) (tSeq (tAsg (tOp (rAddA K) (tVar 5) (tLst (tCons (tC (.str "a b a b a b a")) (tCons (tC (.str "A")) tNil)))) (gName 5)) (tRet (tOp (rEqA K) (tCallS (SpM K (fs__law_told K)) (WE W) (tCons (tC (.int 0)) (tCons (tCallS (SpM K (fs__law_pick K)) (WE W) (tCons (tVar 0) (tCons (tVar 1) (tCons (tVar 5) tNil)))) tNil))) (tTup (tCons (tC (.str "refused")) (tCons (tC (.str "text")) tNil))))))))))))))))
theorem partL_short {r : RP} (hg : goodPart r = true) (hl : ∀ w ∈ r.ws, w.length ≤ 3) : (partL r).length ≤ 15 ∧ ∀ c ∈ partL r, c < 128 := by
  rcases goodPart_cases hg with ⟨vs, rfl, h1, h2, h3⟩ | ⟨k, s, rfl, hk, h3⟩
  · have hf : ∀ (l : List Nat) (ls : List (List Nat)), (∀ x ∈ l :: ls, x.length ≤ 3 ∧ ∀ c ∈ x, c < 128) → (joinL 124 (l :: ls)).length + 1 ≤ 4 * (ls.length + 1) ∧ ∀ c ∈ joinL 124 (l :: ls), c < 128 := by
      intro l ls
      induction ls generalizing l with
      | nil =>
        intro h
        have := h l List.mem_cons_self
        exact ⟨by show l.length + 1 ≤ _; simp; omega, this.2⟩
      | cons a ls ih =>
        intro h
        have h1 := ih a fun x hx => h x (List.mem_cons_of_mem _ hx)
        have h2 := h l List.mem_cons_self
        rw [joinL]
        · refine ⟨by simp only [List.length_append, List.length_cons] at h1 ⊢; omega, fun c hc => ?_⟩
          rcases List.mem_append.mp hc with hc | hc
          · exact h2.2 c hc
          · rcases List.mem_cons.mp hc with rfl | hc
            · decide
            · exact h1.2 c hc
        · simp
    cases vs with
    | nil => simp at h1
    | cons a b =>
      have hw : ∀ x ∈ cps a :: b.map cps, x.length ≤ 3 ∧ ∀ c ∈ x, c < 128 := fun x hx => by
        rw [← List.map_cons (f := cps)] at hx
        obtain ⟨y, hy, rfl⟩ := List.mem_map.mp hx
        exact ⟨hl y hy, fun c hc => (isW_not ((word_cps (h3 y hy)).2 c hc)).2.2.2.2⟩
      simp only [partL]
      split
      · obtain ⟨x, y⟩ := hf (cps a) (b.map cps) hw
        refine ⟨?_, y⟩
        simp at h2 x ⊢
        omega
      · obtain ⟨x, y⟩ := hw (cps a) List.mem_cons_self
        have e : (List.headD (a :: b) "").cps.toList = cps a := rfl
        rw [e]
        refine ⟨by simp; omega, fun c hc => ?_⟩
        rcases List.mem_append.mp hc with hc | hc
        · exact y c hc
        · simp at hc; subst hc; decide
  · have h3' := hl s (by simp [RP.ws])
    rw [← cps_len] at h3'
    have hc : ∀ c ∈ cps s, c < 128 := fun c hc => (isW_not ((word_cps h3).2 c hc)).2.2.2.2
    simp only [partL]
    split
    · exact ⟨by omega, hc⟩
    · refine ⟨by simp; omega, fun c h => ?_⟩
      rcases List.mem_cons.mp h with rfl | h
      · split <;> decide
      · exact hc c h
theorem text_short {rs : List RP} (hni : Nice rs) : (textL rs).length ≤ 95 ∧ ∀ c ∈ textL rs, c < 128 := by
  obtain ⟨hlen, hgp, hdd⟩ := goodP_iff.mp hni.good
  have hf : ∀ (l : List Nat) (ls : List (List Nat)), (∀ x ∈ l :: ls, x.length ≤ 15 ∧ ∀ c ∈ x, c < 128) → (joinL 32 (l :: ls)).length + 1 ≤ 16 * (ls.length + 1) ∧ ∀ c ∈ joinL 32 (l :: ls), c < 128 := by
    intro l ls
    induction ls generalizing l with
    | nil =>
      intro h
      have := h l List.mem_cons_self
      exact ⟨by show l.length + 1 ≤ _; simp; omega, this.2⟩
    | cons a ls ih =>
      intro h
      have h1 := ih a fun x hx => h x (List.mem_cons_of_mem _ hx)
      have h2 := h l List.mem_cons_self
      rw [joinL]
      · refine ⟨by simp only [List.length_append, List.length_cons] at h1 ⊢; omega, fun c hc => ?_⟩
        rcases List.mem_append.mp hc with hc | hc
        · exact h2.2 c hc
        · rcases List.mem_cons.mp hc with rfl | hc
          · decide
          · exact h1.2 c hc
      · simp
  cases rs with
  | nil => simp at hlen
  | cons r rs =>
    obtain ⟨a, b⟩ := hf (partL r) (rs.map partL) (fun x hx => by
      rw [← List.map_cons (f := partL)] at hx
      obtain ⟨y, hy, rfl⟩ := List.mem_map.mp hx
      exact partL_short (hgp y hy) (hni.short y hy))
    refine ⟨?_, b⟩
    unfold textL
    simp at hlen a ⊢
    omega
def bad1 : List (List RP) := [[], [.ot "one" "a" [], .ot "one" "a" []], List.replicate 7 (.ot "one" "a" []), [.of []], [.of ["a", "a", "a", "a", "a"]], [.ot "word" "A" []], [.ot "word" "" []], [.ot "any" "x y" []], [.of ["a", "-"]], [.ot "all" "a" []]]
def oneQ : RP := .ot "one" "Q" []
theorem bad_const : ∀ bs ∈ bad1, goodP bs = false ∧ (bs.all RP.okB && decide (bs.length ≤ 7)) = true := by decide +kernel
theorem oneQ_ok : oneQ.okB = true ∧ goodPart oneQ = false := by decide +kernel
theorem bad_all {rs : List RP} (hni : Nice rs) : ∀ bs ∈ bad1 ++ [rs ++ [oneQ]], bs.length ≤ 1000 ∧ (∀ r ∈ bs, r.ok) ∧ goodP bs = false := by
  intro bs hb
  obtain ⟨hlen, hgp, hdd⟩ := goodP_iff.mp hni.good
  rcases List.mem_append.mp hb with hb | hb
  · obtain ⟨h1, h2⟩ := bad_const bs hb
    simp only [Bool.and_eq_true, List.all_eq_true, decide_eq_true_eq] at h2
    exact ⟨by omega, fun r hr => okB_ok (h2.1 r hr), h1⟩
  · simp at hb
    subst hb
    refine ⟨by simp; omega, fun r hr => ?_, ?_⟩
    · rcases List.mem_append.mp hr with hr | hr
      · exact hni.ok r hr
      · simp at hr; subst hr; exact okB_ok oneQ_ok.1
    · have : (rs ++ [oneQ]).all goodPart = false := List.all_eq_false.mpr ⟨oneQ, by simp, by rw [oneQ_ok.2]; decide⟩
      simp only [goodP, this]
      simp
def signs12 : List PySem.Str := ["", "a", "7", " ", "|", "?", "*", "? ", "A", "-", " cat", "|dog"]
theorem signs12_ok : ∀ x ∈ signs12, x.length ≤ 4 ∧ ∀ c ∈ x.cps.toList, c < 128 := by decide +kernel
def odd16 : List PySem.Str := ["", " ", "?", "*", "a ", " a", "a  b", "|", "|a", "a||b", "a|b|", "?a ?a", "*a ?a", "a|b|a|b|a", "a b a b a b a", "A"]
theorem odd16_ok : ∀ x ∈ odd16, readsB x.cps.toList = false ∧ x.length ≤ 99 ∧ ∀ c ∈ x.cps.toList, c < 128 := by decide +kernel
theorem found_sh {rs : List RP} (hni : Nice rs) : (D.tup [.str "found", patD rs]).sh = true := by
  have h1 := pat_sh hni
  obtain ⟨a, b⟩ := str_sh_aux ["found"] (by decide +kernel)
  simp only [List.map_cons, List.map_nil, pys, PyData.canLayAll0, Bool.and_true] at a
  have c1 := D.sh_lay h1
  have hd : (patD rs).py.depth ≤ 60 := by
    obtain ⟨hlen, hgp, hdd⟩ := goodP_iff.mp hni.good
    obtain ⟨x, y⟩ := pat_lay rs hgp
    simp only [patD, D.py, PyData.depth]
    omega
  unfold D.sh SeqAt.shaped
  simp only [D.py, pys, PyData.canLay0, PyData.canLayAll0, PyData.depth, PyData.depthAll, Bool.and_true, Bool.and_eq_true]
  refine ⟨⟨a, c1⟩, decide_eq_true (by omega)⟩
theorem wd_drawX {K : PySem.W.Frag} {n : Nat} {ms : List MV} {X : XP} {P : D → List MV → Prop} {sc : List Int} {t : Addr} {k : Nat} {tx : WX → TE} (e0 : ms[0]? = some (scr sc)) (e1 : ms[1]? = some (.ot t (zeros k))) (hn : 1 < n) (hl : sc.length ≤ 63) (hk : k < 90000)
    (h : wpD K n tx ms (fun d m1 => m1 = ms ∧ ∃ mm, d = .int mm ∧ 0 < mm ∧ ∀ z, 0 ≤ z → z < mm → P (.int z) (ms.set 1 (.ot t (zeros (k + 1))))) X) : wpD K n (fun W => tCallS (SpM K (fs__law_draw K)) (WE W) (tCons (tVar 0) (tCons (tVar 1) (tCons (tx W) tNil)))) ms P X := by
  have hl1 : 1 < ms.length := (List.getElem?_eq_some_iff.mp e1).1
  refine wd_call [(1, 1)] (wa_cons (wd_var e0 (by omega) (wa_cons (wd_varO e1 hn (wa_cons (h.mono (fun d m1 q => ?_) fun _ _ z => z) )))))
  obtain ⟨rfl, mm, rfl, hm, hP⟩ := q
  refine wa_nil ⟨_, _, .cons rfl e1 .nil, sc, t, k, mm, rfl, hl, hk, hm, fun z h0 h1 => ⟨_, _, .cons (p := t) (t := zeros (k + 1)) (by simp [hl1]) rfl .nil, _, rfl, ?_⟩⟩
  rw [List.set_set]
  exact hP z h0 h1
theorem h_law {K : PySem.W.Frag} : FsOk K 1 12 (fs_law K) (t_law K) := by
  intro ms P X hf
  obtain ⟨sc, rfl, hl, hP⟩ := hf
  refine ⟨rfl, ?_⟩
  unfold t_law
  refine ws_seq (ws_setN (by decide) (wn_lst (wa_nil ⟨by decide, fun t => ?_ ⟩)))
  refine ws_seq (ws_set (by decide) (wd_call [(1, 1)] (wa_cons (wd_var rfl (by decide) (wa_cons (wd_varO rfl (by decide) (wa_cons (wd_int (wa_nil ?_ )))))))))
  refine ⟨_, _, .cons rfl rfl .nil, sc, t, 0, 6, rfl, hl, by decide, by decide, by decide, fun rs n1 hni hrl hn1 => ⟨_, _, .cons rfl rfl .nil, _, rfl, ?_⟩⟩
  obtain ⟨hlen, hgp, hdd⟩ := goodP_iff.mp hni.good
  obtain ⟨htl, htc⟩ := text_short hni
  have h1000 : ∀ r ∈ rs, goodPart r = true ∧ ∀ w ∈ r.ws, w.length ≤ 1000 := fun r hr => ⟨hgp r hr, fun w hw => by have := hni.short r hr w hw; omega⟩
  refine ws_seq (ws_set (by decide) (wd_call [] (wa_cons (wd_var rfl (by decide) (wa_nil ⟨_, _, .nil, rs, rfl, by omega, h1000, _, _, .nil, _, rfl, ?_ ⟩)))))
  have hread := read_text hni.good
  have hrb : readsB (textL rs) = true := by unfold readsB; rw [hread, hni.good]; simp
  refine ws_cut (fun m => m = [scr sc, .ot t (zeros n1), .fz (patD rs), .fz (.str (S (textL rs))), .un, .un, .un, .un, .un, .un, .un, .un]) ?_ ?_
  · refine ws_if (wt_or (wt_test (wd_op (wd_call [] (wa_cons (wd_var rfl (by decide) (wa_nil ⟨_, _, .nil, rs, rfl, by omega, hni.ok, fun _ => ⟨_, _, .nil, _, rfl, wd_var rfl (by decide) (o_neS ⟨_, rfl, ite_f (by simp) ?_⟩)⟩, fun hb => absurd hni.good (by rw [hb]; decide) ⟩)))))))
    refine wt_test (wd_op (wd_call [] (wa_cons (wd_int (wa_cons (wd_var rfl (by decide) (wa_nil ⟨_, _, .nil, 0, _, _, rfl, .read (textL rs) ⟨by omega, htc⟩ hrb, _, _, .nil, _, rfl, ?_ ⟩)))))))
    rw [hread]
    refine wd_tup (wa_cons (wd_str (wa_cons (wd_var rfl (by decide) (wa_nil ⟨Nat.le_of_ble_eq_true rfl, o_neSame (found_sh hni) ⟨_, rfl, ite_f rfl (ws_next rfl) ⟩⟩)))))
  · rintro m rfl
    refine ws_assoc (ws_cut (fun m => m = [scr sc, .ot t (zeros n1), .fz (patD rs), .fz (.str (S (textL rs))), .fz (.lst ((bad1 ++ [rs ++ [oneQ]]).map patD)), .un, .un, .un, .un, .un, .un, .un]) ?_ ?_)
    · refine ws_seq (ws_set (by decide) ?_)
      (repeat (first | refine wd_var rfl (by decide) ?_ | with_reducible refine wd_int ?_ | with_reducible refine wd_str ?_ | with_reducible refine wd_bl ?_ | with_reducible refine wd_non ?_ | with_reducible refine wd_op ?_ | with_reducible refine wd_cb ?_ | with_reducible refine wa_cons ?_ | with_reducible refine wa_nil ?_ | with_reducible refine wt_rng ?_ | with_reducible refine wt_test ?_ | with_reducible refine wt_B ?_ | with_reducible refine wt_and ?_ | with_reducible refine wt_or ?_ | with_reducible refine wt_not ?_ | with_reducible refine wt_tru ?_ | with_reducible refine wd_if ?_ | with_reducible refine wd_andV ?_ | with_reducible refine wd_orV ?_ | with_reducible refine wd_notV ?_ | with_reducible refine wd_chain ?_ | with_reducible refine wd_tup ?_ | with_reducible refine wd_lst ?_ | with_reducible refine wd_un ?_ | with_reducible refine wd_bm ?_ | with_reducible refine wd_sl ?_ | with_reducible refine wo_none ?_ | with_reducible refine wo_some ?_ | refine wg_tup rfl ?_ | with_reducible refine wgs_cons ?_ | with_reducible refine wgs_nil ?_ | refine wg_name (by decide) ?_ | with_reducible refine o_eqS ?_ | with_reducible refine o_neS ?_ | with_reducible refine o_eqI ?_ | with_reducible refine o_neI ?_ | refine o_isN rfl ?_ | refine o_notN rfl ?_ | refine o_ixT rfl ?_ | with_reducible refine o_addI ?_ | with_reducible refine o_I0b ?_ | with_reducible refine o_I0i ?_ | with_reducible refine un_negI ?_ | with_reducible refine s_lst ?_ | with_reducible refine wt_yes ?_ | refine c_len rfl (by first | omega | (simp <;> omega)) ?_ | refine o_addL (by first | omega | (simp <;> omega)) ?_ | refine ite_t rfl ?_ | refine ite_f rfl ?_ | refine ite_t (by decide +kernel) ?_ | refine ite_f (by decide +kernel) ?_ | refine o_inT rfl rfl ?_ | refine o_notInT rfl rfl ?_ | refine ⟨_, rfl, ?_⟩ | refine ⟨Nat.le_of_ble_eq_true rfl, ?_⟩ | refine ⟨fun _ _ _ => ty_lst, ?_⟩))
      refine o_mulL (by decide) (by decide) (by simp) ?_
      (repeat (first | refine wd_var rfl (by decide) ?_ | with_reducible refine wd_int ?_ | with_reducible refine wd_str ?_ | with_reducible refine wd_bl ?_ | with_reducible refine wd_non ?_ | with_reducible refine wd_op ?_ | with_reducible refine wd_cb ?_ | with_reducible refine wa_cons ?_ | with_reducible refine wa_nil ?_ | with_reducible refine wt_rng ?_ | with_reducible refine wt_test ?_ | with_reducible refine wt_B ?_ | with_reducible refine wt_and ?_ | with_reducible refine wt_or ?_ | with_reducible refine wt_not ?_ | with_reducible refine wt_tru ?_ | with_reducible refine wd_if ?_ | with_reducible refine wd_andV ?_ | with_reducible refine wd_orV ?_ | with_reducible refine wd_notV ?_ | with_reducible refine wd_chain ?_ | with_reducible refine wd_tup ?_ | with_reducible refine wd_lst ?_ | with_reducible refine wd_un ?_ | with_reducible refine wd_bm ?_ | with_reducible refine wd_sl ?_ | with_reducible refine wo_none ?_ | with_reducible refine wo_some ?_ | refine wg_tup rfl ?_ | with_reducible refine wgs_cons ?_ | with_reducible refine wgs_nil ?_ | refine wg_name (by decide) ?_ | with_reducible refine o_eqS ?_ | with_reducible refine o_neS ?_ | with_reducible refine o_eqI ?_ | with_reducible refine o_neI ?_ | refine o_isN rfl ?_ | refine o_notN rfl ?_ | refine o_ixT rfl ?_ | with_reducible refine o_addI ?_ | with_reducible refine o_I0b ?_ | with_reducible refine o_I0i ?_ | with_reducible refine un_negI ?_ | with_reducible refine s_lst ?_ | with_reducible refine wt_yes ?_ | refine c_len rfl (by first | omega | (simp <;> omega)) ?_ | refine o_addL (by first | omega | (simp <;> omega)) ?_ | refine ite_t rfl ?_ | refine ite_f rfl ?_ | refine ite_t (by decide +kernel) ?_ | refine ite_f (by decide +kernel) ?_ | refine o_inT rfl rfl ?_ | refine o_notInT rfl rfl ?_ | refine ⟨_, rfl, ?_⟩ | refine ⟨Nat.le_of_ble_eq_true rfl, ?_⟩ | refine ⟨fun _ _ _ => ty_lst, ?_⟩))
      refine o_mulL (by decide) (by decide) (by simp) ?_
      (repeat (first | refine wd_var rfl (by decide) ?_ | with_reducible refine wd_int ?_ | with_reducible refine wd_str ?_ | with_reducible refine wd_bl ?_ | with_reducible refine wd_non ?_ | with_reducible refine wd_op ?_ | with_reducible refine wd_cb ?_ | with_reducible refine wa_cons ?_ | with_reducible refine wa_nil ?_ | with_reducible refine wt_rng ?_ | with_reducible refine wt_test ?_ | with_reducible refine wt_B ?_ | with_reducible refine wt_and ?_ | with_reducible refine wt_or ?_ | with_reducible refine wt_not ?_ | with_reducible refine wt_tru ?_ | with_reducible refine wd_if ?_ | with_reducible refine wd_andV ?_ | with_reducible refine wd_orV ?_ | with_reducible refine wd_notV ?_ | with_reducible refine wd_chain ?_ | with_reducible refine wd_tup ?_ | with_reducible refine wd_lst ?_ | with_reducible refine wd_un ?_ | with_reducible refine wd_bm ?_ | with_reducible refine wd_sl ?_ | with_reducible refine wo_none ?_ | with_reducible refine wo_some ?_ | refine wg_tup rfl ?_ | with_reducible refine wgs_cons ?_ | with_reducible refine wgs_nil ?_ | refine wg_name (by decide) ?_ | with_reducible refine o_eqS ?_ | with_reducible refine o_neS ?_ | with_reducible refine o_eqI ?_ | with_reducible refine o_neI ?_ | refine o_isN rfl ?_ | refine o_notN rfl ?_ | refine o_ixT rfl ?_ | with_reducible refine o_addI ?_ | with_reducible refine o_I0b ?_ | with_reducible refine o_I0i ?_ | with_reducible refine un_negI ?_ | with_reducible refine s_lst ?_ | with_reducible refine wt_yes ?_ | refine c_len rfl (by first | omega | (simp <;> omega)) ?_ | refine o_addL (by first | omega | (simp <;> omega)) ?_ | refine ite_t rfl ?_ | refine ite_f rfl ?_ | refine ite_t (by decide +kernel) ?_ | refine ite_f (by decide +kernel) ?_ | refine o_inT rfl rfl ?_ | refine o_notInT rfl rfl ?_ | refine ⟨_, rfl, ?_⟩ | refine ⟨Nat.le_of_ble_eq_true rfl, ?_⟩ | refine ⟨fun _ _ _ => ty_lst, ?_⟩))
      refine o_mulL (by decide) (by decide) (by simp) ?_
      (repeat (first | refine wd_var rfl (by decide) ?_ | with_reducible refine wd_int ?_ | with_reducible refine wd_str ?_ | with_reducible refine wd_bl ?_ | with_reducible refine wd_non ?_ | with_reducible refine wd_op ?_ | with_reducible refine wd_cb ?_ | with_reducible refine wa_cons ?_ | with_reducible refine wa_nil ?_ | with_reducible refine wt_rng ?_ | with_reducible refine wt_test ?_ | with_reducible refine wt_B ?_ | with_reducible refine wt_and ?_ | with_reducible refine wt_or ?_ | with_reducible refine wt_not ?_ | with_reducible refine wt_tru ?_ | with_reducible refine wd_if ?_ | with_reducible refine wd_andV ?_ | with_reducible refine wd_orV ?_ | with_reducible refine wd_notV ?_ | with_reducible refine wd_chain ?_ | with_reducible refine wd_tup ?_ | with_reducible refine wd_lst ?_ | with_reducible refine wd_un ?_ | with_reducible refine wd_bm ?_ | with_reducible refine wd_sl ?_ | with_reducible refine wo_none ?_ | with_reducible refine wo_some ?_ | refine wg_tup rfl ?_ | with_reducible refine wgs_cons ?_ | with_reducible refine wgs_nil ?_ | refine wg_name (by decide) ?_ | with_reducible refine o_eqS ?_ | with_reducible refine o_neS ?_ | with_reducible refine o_eqI ?_ | with_reducible refine o_neI ?_ | refine o_isN rfl ?_ | refine o_notN rfl ?_ | refine o_ixT rfl ?_ | with_reducible refine o_addI ?_ | with_reducible refine o_I0b ?_ | with_reducible refine o_I0i ?_ | with_reducible refine un_negI ?_ | with_reducible refine s_lst ?_ | with_reducible refine wt_yes ?_ | refine c_len rfl (by first | omega | (simp <;> omega)) ?_ | refine o_addL (by first | omega | (simp <;> omega)) ?_ | refine ite_t rfl ?_ | refine ite_f rfl ?_ | refine ite_t (by decide +kernel) ?_ | refine ite_f (by decide +kernel) ?_ | refine o_inT rfl rfl ?_ | refine o_notInT rfl rfl ?_ | refine ⟨_, rfl, ?_⟩ | refine ⟨Nat.le_of_ble_eq_true rfl, ?_⟩ | refine ⟨fun _ _ _ => ty_lst, ?_⟩))
      refine ws_set (by decide) ?_
      (repeat (first | refine wd_var rfl (by decide) ?_ | with_reducible refine wd_int ?_ | with_reducible refine wd_str ?_ | with_reducible refine wd_bl ?_ | with_reducible refine wd_non ?_ | with_reducible refine wd_op ?_ | with_reducible refine wd_cb ?_ | with_reducible refine wa_cons ?_ | with_reducible refine wa_nil ?_ | with_reducible refine wt_rng ?_ | with_reducible refine wt_test ?_ | with_reducible refine wt_B ?_ | with_reducible refine wt_and ?_ | with_reducible refine wt_or ?_ | with_reducible refine wt_not ?_ | with_reducible refine wt_tru ?_ | with_reducible refine wd_if ?_ | with_reducible refine wd_andV ?_ | with_reducible refine wd_orV ?_ | with_reducible refine wd_notV ?_ | with_reducible refine wd_chain ?_ | with_reducible refine wd_tup ?_ | with_reducible refine wd_lst ?_ | with_reducible refine wd_un ?_ | with_reducible refine wd_bm ?_ | with_reducible refine wd_sl ?_ | with_reducible refine wo_none ?_ | with_reducible refine wo_some ?_ | refine wg_tup rfl ?_ | with_reducible refine wgs_cons ?_ | with_reducible refine wgs_nil ?_ | refine wg_name (by decide) ?_ | with_reducible refine o_eqS ?_ | with_reducible refine o_neS ?_ | with_reducible refine o_eqI ?_ | with_reducible refine o_neI ?_ | refine o_isN rfl ?_ | refine o_notN rfl ?_ | refine o_ixT rfl ?_ | with_reducible refine o_addI ?_ | with_reducible refine o_I0b ?_ | with_reducible refine o_I0i ?_ | with_reducible refine un_negI ?_ | with_reducible refine s_lst ?_ | with_reducible refine wt_yes ?_ | refine c_len rfl (by first | omega | (simp <;> omega)) ?_ | refine o_addL (by first | omega | (simp <;> omega)) ?_ | refine ite_t rfl ?_ | refine ite_f rfl ?_ | refine ite_t (by decide +kernel) ?_ | refine ite_f (by decide +kernel) ?_ | refine o_inT rfl rfl ?_ | refine o_notInT rfl rfl ?_ | refine ⟨_, rfl, ?_⟩ | refine ⟨Nat.le_of_ble_eq_true rfl, ?_⟩ | refine ⟨fun _ _ _ => ty_lst, ?_⟩))
      have e : (bad1 ++ [rs ++ [oneQ]]).map patD = bad1.map patD ++ [D.lst (rs.map rpD ++ [rpD oneQ])] := by
        simp [patD]
      rw [e]
      rfl
    · rintro m rfl
      refine ws_seq (ws_set (by decide) (wd_pickX rfl rfl (by decide) hl (by omega) (wd_var rfl (by decide) ⟨rfl, _, rfl, by simp, by simp [bad1], fun e he => ?_ ⟩)))
      obtain ⟨bs, hbs, rfl⟩ := List.mem_map.mp he
      obtain ⟨hb1, hb2, hb3⟩ := bad_all hni bs hbs
      refine ws_cut (fun m => m = [scr sc, .ot t (zeros (n1 + 1)), .fz (patD rs), .fz (.str (S (textL rs))), .fz (.lst ((bad1 ++ [rs ++ [oneQ]]).map patD)), .fz (patD bs), .un, .un, .un, .un, .un, .un]) ?_ ?_
      · refine ws_if (wt_test (wd_op (wd_lcMap (by decide) (gok_name (by decide)) (wi_rng2 (wa_cons (wd_int (wa_cons (wd_int (wa_nil ⟨_, _, rfl, ⟨by decide, by decide⟩, ⟨by decide, by decide⟩, ?_ ⟩)))))))))
        refine ⟨by decide, fun _ => true, fun _ => refD "pattern", fun d hd => ?_, ?_⟩
        · obtain ⟨i, hi, rfl⟩ := List.mem_map.mp hd
          have hi8 : i < 8 := by simpa using hi
          refine wg_name (by decide) (wt_yes ⟨rfl, rfl, fun _ => ?_⟩)
          refine wd_call [] (wa_cons (wd_var rfl (by decide) (wa_cons (wd_var rfl (by decide) (wa_nil ⟨_, _, .nil, 1 + (i : Int), _, _, rfl, .bad _ bs (by omega) (by omega) hb1 hb2 hb3, _, _, .nil, _, rfl, ?_, rfl ⟩)))))
          simp only [toldD, kindX]
          rw [if_neg (by decide +kernel)]
        · (repeat (first | refine wd_var rfl (by decide) ?_ | with_reducible refine wd_int ?_ | with_reducible refine wd_str ?_ | with_reducible refine wd_bl ?_ | with_reducible refine wd_non ?_ | with_reducible refine wd_op ?_ | with_reducible refine wd_cb ?_ | with_reducible refine wa_cons ?_ | with_reducible refine wa_nil ?_ | with_reducible refine wt_rng ?_ | with_reducible refine wt_test ?_ | with_reducible refine wt_B ?_ | with_reducible refine wt_and ?_ | with_reducible refine wt_or ?_ | with_reducible refine wt_not ?_ | with_reducible refine wt_tru ?_ | with_reducible refine wd_if ?_ | with_reducible refine wd_andV ?_ | with_reducible refine wd_orV ?_ | with_reducible refine wd_notV ?_ | with_reducible refine wd_chain ?_ | with_reducible refine wd_tup ?_ | with_reducible refine wd_lst ?_ | with_reducible refine wd_un ?_ | with_reducible refine wd_bm ?_ | with_reducible refine wd_sl ?_ | with_reducible refine wo_none ?_ | with_reducible refine wo_some ?_ | refine wg_tup rfl ?_ | with_reducible refine wgs_cons ?_ | with_reducible refine wgs_nil ?_ | refine wg_name (by decide) ?_ | with_reducible refine o_eqS ?_ | with_reducible refine o_neS ?_ | with_reducible refine o_eqI ?_ | with_reducible refine o_neI ?_ | refine o_isN rfl ?_ | refine o_notN rfl ?_ | refine o_ixT rfl ?_ | with_reducible refine o_addI ?_ | with_reducible refine o_I0b ?_ | with_reducible refine o_I0i ?_ | with_reducible refine un_negI ?_ | with_reducible refine s_lst ?_ | with_reducible refine wt_yes ?_ | refine c_len rfl (by first | omega | (simp <;> omega)) ?_ | refine o_addL (by first | omega | (simp <;> omega)) ?_ | refine ite_t rfl ?_ | refine ite_f rfl ?_ | refine ite_t (by decide +kernel) ?_ | refine ite_f (by decide +kernel) ?_ | refine o_inT rfl rfl ?_ | refine o_notInT rfl rfl ?_ | refine ⟨_, rfl, ?_⟩ | refine ⟨Nat.le_of_ble_eq_true rfl, ?_⟩ | refine ⟨fun _ _ _ => ty_lst, ?_⟩))
          refine o_mulL (by decide) (by decide) (by simp) ?_
          refine o_neSame (a := .lst (List.replicate 8 (refD "pattern"))) (by decide +kernel) ⟨_, rfl, ite_f rfl (ws_next rfl)⟩
      · rintro m rfl
        refine ws_cut (fun m => ∃ n2 z6 z7 z8 z9 z10, m = [scr sc, .ot t (zeros n2), .fz (patD rs), .fz (.str (S (textL rs))), .fz (.lst ((bad1 ++ [rs ++ [oneQ]]).map patD)), .fz (patD bs), z6, z7, z8, z9, z10, .un] ∧ n2 ≤ 1000) ?_ ?_
        · refine ws_for (wi_rng1 (wa_cons (wd_int (wa_nil ⟨_, rfl, by decide, by decide, ?_ ⟩))))
          refine ⟨fun i m => ∃ n2 z6 z7 z8 z9 z10, m = [scr sc, .ot t (zeros n2), .fz (patD rs), .fz (.str (S (textL rs))), .fz (.lst ((bad1 ++ [rs ++ [oneQ]]).map patD)), .fz (patD bs), z6, z7, z8, z9, z10, .un] ∧ n2 ≤ 200 + 10 * i, ⟨_, _, _, _, _, _, rfl, by omega⟩, ?_, ?_⟩
          · rintro i d m hd ⟨n2, z6, z7, z8, z9, z10, rfl, hn2⟩
            obtain ⟨hi, rfl⟩ := rngD_at hd
            have hi5 : i < 5 := hi
            have hSl : (S (textL rs)).length ≤ 1000000 := by rw [S_len]; omega
            refine wg_name (by decide) (ws_seq (ws_set (by decide) (wd_drawX rfl rfl (by decide) hl (by omega) (wd_op (wd_cb (wa_cons (wd_var rfl (by decide) (wa_nil (c_len (m := (textL rs).length) (by simp [lenD, S_len]) (by omega) (wd_int (o_addI ⟨rfl, _, rfl, by omega, fun at_ ha0 ha1 => ?_ ⟩)))))))))))
            refine ws_seq (ws_set (by decide) (wd_pickX rfl rfl (by decide) hl (by omega) ?_))
            (repeat (first | refine wd_var rfl (by decide) ?_ | with_reducible refine wd_int ?_ | with_reducible refine wd_str ?_ | with_reducible refine wd_bl ?_ | with_reducible refine wd_non ?_ | with_reducible refine wd_op ?_ | with_reducible refine wd_cb ?_ | with_reducible refine wa_cons ?_ | with_reducible refine wa_nil ?_ | with_reducible refine wt_rng ?_ | with_reducible refine wt_test ?_ | with_reducible refine wt_B ?_ | with_reducible refine wt_and ?_ | with_reducible refine wt_or ?_ | with_reducible refine wt_not ?_ | with_reducible refine wt_tru ?_ | with_reducible refine wd_if ?_ | with_reducible refine wd_andV ?_ | with_reducible refine wd_orV ?_ | with_reducible refine wd_notV ?_ | with_reducible refine wd_chain ?_ | with_reducible refine wd_tup ?_ | with_reducible refine wd_lst ?_ | with_reducible refine wd_un ?_ | with_reducible refine wd_bm ?_ | with_reducible refine wd_sl ?_ | with_reducible refine wo_none ?_ | with_reducible refine wo_some ?_ | refine wg_tup rfl ?_ | with_reducible refine wgs_cons ?_ | with_reducible refine wgs_nil ?_ | refine wg_name (by decide) ?_ | with_reducible refine o_eqS ?_ | with_reducible refine o_neS ?_ | with_reducible refine o_eqI ?_ | with_reducible refine o_neI ?_ | refine o_isN rfl ?_ | refine o_notN rfl ?_ | refine o_ixT rfl ?_ | with_reducible refine o_addI ?_ | with_reducible refine o_I0b ?_ | with_reducible refine o_I0i ?_ | with_reducible refine un_negI ?_ | with_reducible refine s_lst ?_ | with_reducible refine wt_yes ?_ | refine c_len rfl (by first | omega | (simp <;> omega)) ?_ | refine o_addL (by first | omega | (simp <;> omega)) ?_ | refine ite_t rfl ?_ | refine ite_f rfl ?_ | refine ite_t (by decide +kernel) ?_ | refine ite_f (by decide +kernel) ?_ | refine o_inT rfl rfl ?_ | refine o_notInT rfl rfl ?_ | refine ⟨_, rfl, ?_⟩ | refine ⟨Nat.le_of_ble_eq_true rfl, ?_⟩ | refine ⟨fun _ _ _ => ty_lst, ?_⟩))
            refine ⟨rfl, _, rfl, by decide, by decide, fun e he => ?_⟩
            obtain ⟨sg, hsg, rfl⟩ : ∃ x ∈ signs12, e = .str x := by
              have : e ∈ signs12.map D.str := he
              obtain ⟨x, hx, rfl⟩ := List.mem_map.mp this
              exact ⟨x, hx, rfl⟩
            obtain ⟨hsl, hsc⟩ := signs12_ok sg hsg
            obtain ⟨a, rfl⟩ : ∃ a : Nat, at_ = a := ⟨at_.toNat, by omega⟩
            refine ws_seq (ws_set (by decide) (wd_op (wd_op (wd_sl (wd_var rfl (by decide) (wo_none (wo_some (wd_var rfl (by decide) ⟨_, rfl, s_str hSl (wd_var rfl (by decide) ?_ )⟩))))))))
            rw [cutS_take]
            refine o_addS (by rw [S_len]; simp; omega) (wd_sl (wd_var rfl (by decide) (wo_some (wd_op (wd_var rfl (by decide) (wd_drawC rfl rfl (by decide) hl (by omega) (by decide) fun z hz0 hz1 => o_addI ⟨_, rfl, wo_none (s_str hSl ?_ )⟩))))))
            obtain ⟨b, rfl⟩ : ∃ b : Nat, z = b := ⟨z.toNat, by omega⟩
            rw [show ((a : Int) + (b : Int)) = ((a + b : Nat) : Int) by omega, cutS_drop, S_app_str]
            refine o_addS (by rw [S_len, S_len]; simp [cps_len]; omega) ?_
            rw [S_append]
            generalize hbent : (textL rs).take a ++ cps sg ++ (textL rs).drop (a + b) = bent
            have hbt : txtL bent := by
              subst hbent
              refine ⟨by simp [cps_len]; omega, fun c hc => ?_⟩
              rcases List.mem_append.mp hc with hc | hc
              · rcases List.mem_append.mp hc with hc | hc
                · exact htc c (List.mem_of_mem_take hc)
                · exact hsc c hc
              · exact htc c (List.mem_of_mem_drop hc)
            cases hrd : readsB bent with
            | false =>
              refine ws_seq (ws_set (by decide) (wd_call [] (wa_cons (wd_int (wa_cons (wd_var rfl (by decide) (wa_nil ⟨_, _, .nil, 0, _, _, rfl, .noRead bent hbt hrd, _, _, .nil, _, rfl, ?_ ⟩)))))))
              have e : toldD (.inr "BadText") = .tup [.str "refused", .str "text"] := by
                simp only [toldD, kindX]
                rw [if_pos trivial]; rfl
              rw [e]
              refine ws_if (wt_test (wd_op (wd_op (wd_var rfl (by decide) (wd_int (o_ixT rfl (wd_str (o_eqS ⟨_, rfl, ite_f (by decide +kernel) ?_ ⟩))))))))
              refine ws_if (wt_test (wd_op (wd_var rfl (by decide) (wd_tup (wa_cons (wd_str (wa_cons (wd_str (wa_nil ⟨Nat.le_of_ble_eq_true rfl, o_neSame (by decide +kernel) ⟨_, rfl, ite_f rfl (ws_next ?_) ⟩⟩)))))))))
              exact ⟨_, _, _, _, _, _, rfl, by omega⟩
            | true =>
              have hrd' := hrd
              unfold readsB at hrd'
              rw [Bool.and_eq_true, decide_eq_true_eq] at hrd'
              obtain ⟨hg2, ht2⟩ := hrd'
              obtain ⟨hl2, hok2⟩ := readL_ok hbt
              obtain ⟨hlen2, hgp2, _⟩ := goodP_iff.mp hg2
              refine ws_seq (ws_set (by decide) (wd_call [] (wa_cons (wd_int (wa_cons (wd_var rfl (by decide) (wa_nil ⟨_, _, .nil, 0, _, _, rfl, .read bent hbt hrd, _, _, .nil, _, rfl, ?_ ⟩)))))))
              refine ws_if (wt_test (wd_op (wd_op (wd_var rfl (by decide) (wd_int (o_ixT rfl (wd_str (o_eqS ⟨_, rfl, ite_t (by decide +kernel) ?_ ⟩))))))))
              refine ws_if (wt_or (wt_test (wd_op (wd_call [] (wa_cons (wd_op (wd_var rfl (by decide) (wd_int (o_ixT rfl (wa_nil ⟨_, _, .nil, readL bent, rfl, hl2, fun r hr => ⟨hgp2 r hr, ok_ws (hok2 r hr)⟩, _, _, .nil, _, rfl, wd_var rfl (by decide) (o_neS ⟨_, rfl, ite_f (by rw [ht2]; simp) ?_ ⟩)⟩))))))))))
              refine wt_test (wd_op (wd_op (wd_call [] (wa_cons (wd_int (wa_cons (wd_op (wd_var rfl (by decide) (wd_int (o_ixT rfl (wa_nil ⟨_, _, .nil, 2, _, _, rfl, .rank (readL bent) (by omega) hok2 hg2, _, _, .nil, _, rfl, wd_int (o_ixT rfl (wd_str (o_neS ⟨_, rfl, ite_f (by decide +kernel) (ws_next ?_) ⟩)))⟩)))))))))))
              exact ⟨_, _, _, _, _, _, rfl, by omega⟩
          · rintro m ⟨n2, z6, z7, z8, z9, z10, rfl, hn2⟩
            exact ⟨n2, _, _, _, _, _, rfl, by simp [rngD] at hn2; omega⟩
        · rintro m ⟨n2, z6, z7, z8, z9, z10, rfl, hn2⟩
          refine ws_seq (ws_set (by decide) ?_)
          (repeat (first | refine wd_var rfl (by decide) ?_ | with_reducible refine wd_int ?_ | with_reducible refine wd_str ?_ | with_reducible refine wd_bl ?_ | with_reducible refine wd_non ?_ | with_reducible refine wd_op ?_ | with_reducible refine wd_cb ?_ | with_reducible refine wa_cons ?_ | with_reducible refine wa_nil ?_ | with_reducible refine wt_rng ?_ | with_reducible refine wt_test ?_ | with_reducible refine wt_B ?_ | with_reducible refine wt_and ?_ | with_reducible refine wt_or ?_ | with_reducible refine wt_not ?_ | with_reducible refine wt_tru ?_ | with_reducible refine wd_if ?_ | with_reducible refine wd_andV ?_ | with_reducible refine wd_orV ?_ | with_reducible refine wd_notV ?_ | with_reducible refine wd_chain ?_ | with_reducible refine wd_tup ?_ | with_reducible refine wd_lst ?_ | with_reducible refine wd_un ?_ | with_reducible refine wd_bm ?_ | with_reducible refine wd_sl ?_ | with_reducible refine wo_none ?_ | with_reducible refine wo_some ?_ | refine wg_tup rfl ?_ | with_reducible refine wgs_cons ?_ | with_reducible refine wgs_nil ?_ | refine wg_name (by decide) ?_ | with_reducible refine o_eqS ?_ | with_reducible refine o_neS ?_ | with_reducible refine o_eqI ?_ | with_reducible refine o_neI ?_ | refine o_isN rfl ?_ | refine o_notN rfl ?_ | refine o_ixT rfl ?_ | with_reducible refine o_addI ?_ | with_reducible refine o_I0b ?_ | with_reducible refine o_I0i ?_ | with_reducible refine un_negI ?_ | with_reducible refine s_lst ?_ | with_reducible refine wt_yes ?_ | refine c_len rfl (by first | omega | (simp <;> omega)) ?_ | refine o_addL (by first | omega | (simp <;> omega)) ?_ | refine ite_t rfl ?_ | refine ite_f rfl ?_ | refine ite_t (by decide +kernel) ?_ | refine ite_f (by decide +kernel) ?_ | refine o_inT rfl rfl ?_ | refine o_notInT rfl rfl ?_ | refine ⟨_, rfl, ?_⟩ | refine ⟨Nat.le_of_ble_eq_true rfl, ?_⟩ | refine ⟨fun _ _ _ => ty_lst, ?_⟩))
          refine ws_seq (ws_set (by decide) ?_)
          (repeat (first | refine wd_var rfl (by decide) ?_ | with_reducible refine wd_int ?_ | with_reducible refine wd_str ?_ | with_reducible refine wd_bl ?_ | with_reducible refine wd_non ?_ | with_reducible refine wd_op ?_ | with_reducible refine wd_cb ?_ | with_reducible refine wa_cons ?_ | with_reducible refine wa_nil ?_ | with_reducible refine wt_rng ?_ | with_reducible refine wt_test ?_ | with_reducible refine wt_B ?_ | with_reducible refine wt_and ?_ | with_reducible refine wt_or ?_ | with_reducible refine wt_not ?_ | with_reducible refine wt_tru ?_ | with_reducible refine wd_if ?_ | with_reducible refine wd_andV ?_ | with_reducible refine wd_orV ?_ | with_reducible refine wd_notV ?_ | with_reducible refine wd_chain ?_ | with_reducible refine wd_tup ?_ | with_reducible refine wd_lst ?_ | with_reducible refine wd_un ?_ | with_reducible refine wd_bm ?_ | with_reducible refine wd_sl ?_ | with_reducible refine wo_none ?_ | with_reducible refine wo_some ?_ | refine wg_tup rfl ?_ | with_reducible refine wgs_cons ?_ | with_reducible refine wgs_nil ?_ | refine wg_name (by decide) ?_ | with_reducible refine o_eqS ?_ | with_reducible refine o_neS ?_ | with_reducible refine o_eqI ?_ | with_reducible refine o_neI ?_ | refine o_isN rfl ?_ | refine o_notN rfl ?_ | refine o_ixT rfl ?_ | with_reducible refine o_addI ?_ | with_reducible refine o_I0b ?_ | with_reducible refine o_I0i ?_ | with_reducible refine un_negI ?_ | with_reducible refine s_lst ?_ | with_reducible refine wt_yes ?_ | refine c_len rfl (by first | omega | (simp <;> omega)) ?_ | refine o_addL (by first | omega | (simp <;> omega)) ?_ | refine ite_t rfl ?_ | refine ite_f rfl ?_ | refine ite_t (by decide +kernel) ?_ | refine ite_f (by decide +kernel) ?_ | refine o_inT rfl rfl ?_ | refine o_notInT rfl rfl ?_ | refine ⟨_, rfl, ?_⟩ | refine ⟨Nat.le_of_ble_eq_true rfl, ?_⟩ | refine ⟨fun _ _ _ => ty_lst, ?_⟩))
          refine ws_ret (wd_op (wd_call [] (wa_cons (wd_int (wa_cons (wd_pickX rfl rfl (by decide) hl (by omega) (wd_var rfl (by decide) ⟨rfl, _, rfl, by decide, by decide, fun e he => ?_ ⟩)))))))
          obtain ⟨x, hx, rfl⟩ : ∃ x ∈ odd16, e = .str x := by
            have : e ∈ odd16.map D.str := he
            obtain ⟨x, hx, rfl⟩ := List.mem_map.mp this
            exact ⟨x, hx, rfl⟩
          obtain ⟨ho1, ho2, ho3⟩ := odd16_ok x hx
          refine wa_nil ⟨_, _, .nil, 0, _, _, by rw [S_cps]; rfl, .noRead x.cps.toList ⟨ho2, ho3⟩ ho1, _, _, .nil, _, rfl, ?_⟩
          have e : toldD (.inr "BadText") = .tup [.str "refused", .str "text"] := by
            simp only [toldD, kindX]
            rw [if_pos trivial]; rfl
          rw [e]
          exact wd_tup (wa_cons (wd_str (wa_cons (wd_str (wa_nil ⟨Nat.le_of_ble_eq_true rfl, o_eqSame (by decide +kernel) ⟨_, .fz .nil, hP ⟩⟩)))))
end M
namespace Rk
open PySem PySem.Spec PyProof.Rows L2 M
def top (i : Nat) : Stmt := PySem.Challenge.pw_answerhall_k41_whole_pattern_texts.main.body.getD i (.Pass ⟨0, 0, 0, 0⟩)
abbrev s__law_cell : Stmt := top 34
abbrev N__law_cell : List PySem.Str := ["script", "k"]
theorem sc__law_cell : FnScope N__law_cell ["script", "k"] (defScope s__law_cell) := ⟨rfl, rfl, rfl, by decide +kernel, rfl, by decide +kernel, by decide +kernel⟩
abbrev s__law_mix : Stmt := top 35
abbrev N__law_mix : List PySem.Str := ["script", "k", "number"]
theorem sc__law_mix : FnScope N__law_mix ["script", "k"] (defScope s__law_mix) := ⟨rfl, rfl, rfl, by decide +kernel, rfl, by decide +kernel, by decide +kernel⟩
abbrev s__law_draw : Stmt := top 36
abbrev N__law_draw : List PySem.Str := ["script", "town", "many"]
theorem sc__law_draw : FnScope N__law_draw ["script", "town", "many"] (defScope s__law_draw) := ⟨rfl, rfl, rfl, by decide +kernel, rfl, by decide +kernel, by decide +kernel⟩
abbrev s__law_pick : Stmt := top 37
abbrev N__law_pick : List PySem.Str := ["script", "town", "some"]
theorem sc__law_pick : FnScope N__law_pick ["script", "town", "some"] (defScope s__law_pick) := ⟨rfl, rfl, rfl, by decide +kernel, rfl, by decide +kernel, by decide +kernel⟩
abbrev s__law_menu : Stmt := top 39
abbrev N__law_menu : List PySem.Str := []
theorem sc__law_menu : FnScope N__law_menu [] (defScope s__law_menu) := ⟨rfl, rfl, rfl, by decide +kernel, rfl, by decide +kernel, by decide +kernel⟩
abbrev s__law_pattern : Stmt := top 40
abbrev N__law_pattern : List PySem.Str := ["script", "town", "most", "found", "names", "k", "way", "some", "j"]
theorem sc__law_pattern : FnScope N__law_pattern ["script", "town", "most"] (defScope s__law_pattern) := ⟨rfl, rfl, rfl, by decide +kernel, rfl, by decide +kernel, by decide +kernel⟩
abbrev s__law_text : Stmt := top 41
abbrev N__law_text : List PySem.Str := ["pattern", "found", "kind", "what", "text", "word"]
theorem sc__law_text : FnScope N__law_text ["pattern"] (defScope s__law_text) := ⟨rfl, rfl, rfl, by decide +kernel, rfl, by decide +kernel, by decide +kernel⟩
abbrev s_is_word : Stmt := top 9
abbrev N_is_word : List PySem.Str := ["text", "sign"]
theorem sc_is_word : FnScope N_is_word ["text"] (defScope s_is_word) := ⟨rfl, rfl, rfl, by decide +kernel, rfl, by decide +kernel, by decide +kernel⟩
abbrev s_look_pattern : Stmt := top 13
abbrev N_look_pattern : List PySem.Str := ["pattern", "names", "part", "words", "word"]
theorem sc_look_pattern : FnScope N_look_pattern ["pattern"] (defScope s_look_pattern) := ⟨rfl, rfl, rfl, by decide +kernel, rfl, by decide +kernel, by decide +kernel⟩
abbrev s_part_text : Stmt := top 17
abbrev N_part_text : List PySem.Str := ["part"]
theorem sc_part_text : FnScope N_part_text ["part"] (defScope s_part_text) := ⟨rfl, rfl, rfl, by decide +kernel, rfl, by decide +kernel, by decide +kernel⟩
abbrev s_text_of : Stmt := top 18
abbrev N_text_of : List PySem.Str := ["pattern", "part"]
theorem sc_text_of : FnScope N_text_of ["pattern"] (defScope s_text_of) := ⟨rfl, rfl, rfl, by decide +kernel, rfl, by decide +kernel, by decide +kernel⟩
abbrev s_pattern_text : Stmt := top 19
abbrev N_pattern_text : List PySem.Str := ["pattern"]
theorem sc_pattern_text : FnScope N_pattern_text ["pattern"] (defScope s_pattern_text) := ⟨rfl, rfl, rfl, by decide +kernel, rfl, by decide +kernel, by decide +kernel⟩
abbrev s_part_in : Stmt := top 20
abbrev N_part_in : List PySem.Str := ["word"]
theorem sc_part_in : FnScope N_part_in ["word"] (defScope s_part_in) := ⟨rfl, rfl, rfl, by decide +kernel, rfl, by decide +kernel, by decide +kernel⟩
abbrev s_read_pattern : Stmt := top 21
abbrev N_read_pattern : List PySem.Str := ["text", "found", "good", "word"]
theorem sc_read_pattern : FnScope N_read_pattern ["text"] (defScope s_read_pattern) := ⟨rfl, rfl, rfl, by decide +kernel, rfl, by decide +kernel, by decide +kernel⟩
abbrev s_rank : Stmt := top 15
abbrev N_rank : List PySem.Str := ["pattern", "kinds", "part"]
theorem sc_rank : FnScope N_rank ["pattern"] (defScope s_rank) := ⟨rfl, rfl, rfl, by decide +kernel, rfl, by decide +kernel, by decide +kernel⟩
abbrev s_look_both : Stmt := top 28
abbrev N_look_both : List PySem.Str := ["one", "other"]
theorem sc_look_both : FnScope N_look_both ["one", "other"] (defScope s_look_both) := ⟨rfl, rfl, rfl, by decide +kernel, rfl, by decide +kernel, by decide +kernel⟩
abbrev s_covers : Stmt := top 29
abbrev N_covers : List PySem.Str := ["one", "other"]
theorem sc_covers : FnScope N_covers ["one", "other"] (defScope s_covers) := ⟨rfl, rfl, rfl, by decide +kernel, rfl, by decide +kernel, by decide +kernel⟩
abbrev s_apart : Stmt := top 30
abbrev N_apart : List PySem.Str := ["one", "other"]
theorem sc_apart : FnScope N_apart ["one", "other"] (defScope s_apart) := ⟨rfl, rfl, rfl, by decide +kernel, rfl, by decide +kernel, by decide +kernel⟩
abbrev s_common : Stmt := top 31
abbrev N_common : List PySem.Str := ["one", "other"]
theorem sc_common : FnScope N_common ["one", "other"] (defScope s_common) := ⟨rfl, rfl, rfl, by decide +kernel, rfl, by decide +kernel, by decide +kernel⟩
abbrev s_alphabet : Stmt := top 26
abbrev N_alphabet : List PySem.Str := ["one", "other", "some", "fresh"]
theorem sc_alphabet : FnScope N_alphabet ["one", "other"] (defScope s_alphabet) := ⟨rfl, rfl, rfl, by decide +kernel, rfl, by decide +kernel, by decide +kernel⟩
abbrev s_needless : Stmt := top 32
abbrev N_needless : List PySem.Str := ["patterns", "pattern", "found", "k", "some", "j"]
theorem sc_needless : FnScope N_needless ["patterns"] (defScope s_needless) := ⟨rfl, rfl, rfl, by decide +kernel, rfl, by decide +kernel, by decide +kernel⟩
abbrev s__law_one : Stmt := top 42
abbrev N__law_one : List PySem.Str := ["kind", "given"]
theorem sc__law_one : FnScope N__law_one ["kind", "given"] (defScope s__law_one) := ⟨rfl, rfl, rfl, by decide +kernel, rfl, by decide +kernel, by decide +kernel⟩
abbrev s__law_refusal : Stmt := top 38
abbrev N__law_refusal : List PySem.Str := ["caught", "kinds"]
theorem sc__law_refusal : FnScope N__law_refusal ["caught"] (defScope s__law_refusal) := ⟨rfl, rfl, rfl, by decide +kernel, rfl, by decide +kernel, by decide +kernel⟩
abbrev s__law_told : Stmt := top 43
abbrev N__law_told : List PySem.Str := ["kind", "some", "caught", "found", "e"]
theorem sc__law_told : FnScope N__law_told ["kind", "some"] (defScope s__law_told) := ⟨rfl, rfl, rfl, by decide +kernel, rfl, by decide +kernel, by decide +kernel⟩
abbrev s_law : Stmt := top 44
abbrev N_law : List PySem.Str := ["script", "town", "pattern", "text", "bad", "odd", "bend", "at", "sign", "bent", "told", "kind"]
theorem sc_law : FnScope N_law ["script"] (defScope s_law) := ⟨rfl, rfl, rfl, by decide +kernel, rfl, by decide +kernel, by decide +kernel⟩
structure Tx (K : PySem.W.Frag) (mg : PySem.Str → Option Value) : Prop where
  f_len : mg "len" = none
  f_range : mg "range" = none
  f_all : mg "all" = none
  f_set : mg "set" = none
  f_isinstance : mg "isinstance" = none
  f_ValueError : mg "ValueError" = none
  c_LETTERS : ∃ t, mg "LETTERS" = some (.str "abcdefghijklmnopqrstuvwxyz0123456789" t)
  c_MOST_PARTS : ∃ t, mg "MOST_PARTS" = some (.int 6 t)
  c_MOST_WORDS : ∃ t, mg "MOST_WORDS" = some (.int 4 t)
  g_BadPattern : mg "BadPattern" = some (.ref (He.ga K "BadPattern"))
  g_BadText : mg "BadText" = some (.ref (He.ga K "BadText"))
  g_BadAnswer : mg "BadAnswer" = some (.ref (He.ga K "BadAnswer"))
  g_BadTalk : mg "BadTalk" = some (.ref (He.ga K "BadTalk"))
  g_BadRule : mg "BadRule" = some (.ref (He.ga K "BadRule"))
  g_HallError : mg "HallError" = some (.ref (He.ga K "HallError"))
  x_BadPattern : PySem.W.excIn K (He.ga K "BadPattern") He.veBase "ValueError.__new__" = true ∧ PySem.W.keepIn K (.ref (He.ga K "BadPattern")) = true ∧ PySem.W.subIn K (.ref (He.ga K "BadPattern")) (.type "BaseException") = some true ∧ PySem.W.typeIn K (.ref (He.ga K "BadPattern")) = some (.type "type")
  x_BadText : PySem.W.excIn K (He.ga K "BadText") He.veBase "ValueError.__new__" = true ∧ PySem.W.keepIn K (.ref (He.ga K "BadText")) = true ∧ PySem.W.subIn K (.ref (He.ga K "BadText")) (.type "BaseException") = some true ∧ PySem.W.typeIn K (.ref (He.ga K "BadText")) = some (.type "type")
section
variable {P : Program} {w : World} {K : PySem.W.Frag} {mg : PySem.Str → Option Value} {base : Heap}
theorem ok__law_cell (T : Tx K mg) (dd : Df K mg "_law_cell" s__law_cell ["script", "k"])  (hf : FsOk K 2 2 (fs__law_cell K) (t__law_cell K)) : Ok P w K mg base "_law_cell" ["script", "k"] 1 (SpM K (fs__law_cell K)) := by
  refine ok_mk (t := t__law_cell K) dd sc__law_cell (by decide) hf (fun f cdv A outer s H E hr tk po => ?_)
  have sc := sc__law_cell
  exact (pss_cons (ps_if (pt_truth (pv 0) (by intro _; rfl)) (pss_one (ps_ret (pe_ix ix_any (pv 0) (pe_op op_mod (pv 1) (pe_callB call_lenA (by rfl) T.f_len PySem.boot_len (pa_cons (pv 0) pa_nil))) (fun _ _ => rfl)))) pss_nil) (pss_one (ps_ret pe_int)))
theorem ok__law_mix (T : Tx K mg) (dd : Df K mg "_law_mix" s__law_mix ["script", "k"]) (o__law_cell : Ok P w K mg base "_law_cell" ["script", "k"] 1 (SpM K (fs__law_cell K))) (hf : FsOk K 2 3 (fs__law_mix K) (t__law_mix K)) : Ok P w K mg base "_law_mix" ["script", "k"] 2 (SpM K (fs__law_mix K)) := by
  refine ok_mk (t := t__law_mix K) dd sc__law_mix (by decide) hf (fun f cdv A outer s H E hr tk po => ?_)
  have sc := sc__law_mix
  exact (pss_cons (ps_set (i := 2) sc.nd rfl (by first | exact Or.inl rfl | exact Or.inr rfl) (pe_op op_mod (pe_op op_addA (pe_callO o__law_cell (hr.mono (by decide)) (by rfl) tk (pa_cons (pv 0) (pa_cons (pv 1) pa_nil))) (pe_op op_mulA pe_int (pe_op op_addA (pv 1) pe_int))) pe_int)) (pss_cons (ps_set (i := 2) sc.nd rfl (by first | exact Or.inl rfl | exact Or.inr rfl) (pe_op op_mod (pe_op op_pow (pv 2) pe_int) pe_int)) (pss_one (ps_ret (pe_op op_mod (pe_op op_addA (pe_op op_mulA (pe_op op_fdiv (pv 2) pe_int) pe_int) (pv 2)) pe_int)))))
theorem ok__law_draw (T : Tx K mg) (dd : Df K mg "_law_draw" s__law_draw ["script", "town", "many"]) (o__law_mix : Ok P w K mg base "_law_mix" ["script", "k"] 2 (SpM K (fs__law_mix K))) (hf : FsOk K 3 3 (fs__law_draw K) (t__law_draw K)) : Ok P w K mg base "_law_draw" ["script", "town", "many"] 3 (SpM K (fs__law_draw K)) := by
  refine ok_mk (t := t__law_draw K) dd sc__law_draw (by decide) hf (fun f cdv A outer s H E hr tk po => ?_)
  have sc := sc__law_draw
  exact (pss_cons (ps_expr (pe_bm PySem.F.plainAttrs_list PySem.F.slot_list_append PySem.F.type_list_append mt_append (pv 1) (pa_cons pe_int pa_nil))) (pss_one (ps_ret (pe_op op_mod (pe_op op_fdiv (pe_callO o__law_mix (hr.mono (by decide)) (by rfl) tk (pa_cons (pv 0) (pa_cons (pe_callB call_lenA (by rfl) T.f_len PySem.boot_len (pa_cons (pv 1) pa_nil)) pa_nil))) pe_int) (pv 2)))))
theorem ok__law_pick (T : Tx K mg) (dd : Df K mg "_law_pick" s__law_pick ["script", "town", "some"]) (o__law_draw : Ok P w K mg base "_law_draw" ["script", "town", "many"] 3 (SpM K (fs__law_draw K))) (hf : FsOk K 3 3 (fs__law_pick K) (t__law_pick K)) : Ok P w K mg base "_law_pick" ["script", "town", "some"] 4 (SpM K (fs__law_pick K)) := by
  refine ok_mk (t := t__law_pick K) dd sc__law_pick (by decide) hf (fun f cdv A outer s H E hr tk po => ?_)
  have sc := sc__law_pick
  exact (pss_one (ps_ret (pe_ix ix_any (pv 2) (pe_callO o__law_draw (hr.mono (by decide)) (by rfl) tk (pa_cons (pv 0) (pa_cons (pv 1) (pa_cons (pe_callB call_lenA (by rfl) T.f_len PySem.boot_len (pa_cons (pv 2) pa_nil)) pa_nil)))) (fun _ _ => rfl))))
theorem ok__law_menu (T : Tx K mg) (dd : Df K mg "_law_menu" s__law_menu [])  (hf : FsOk K 0 0 (fs__law_menu K) (t__law_menu K)) : Ok P w K mg base "_law_menu" [] 1 (SpM K (fs__law_menu K)) := by
  refine ok_mk (t := t__law_menu K) dd sc__law_menu (by decide) hf (fun f cdv A outer s H E hr tk po => ?_)
  have sc := sc__law_menu
  exact (pss_one (ps_ret (pe_lst (pa_cons pe_str (pa_cons pe_str (pa_cons pe_str (pa_cons pe_str (pa_cons pe_str (pa_cons pe_str (pa_cons pe_str (pa_cons pe_str (pa_cons pe_str (pa_cons pe_str pa_nil)))))))))))))
theorem ok__law_pattern (T : Tx K mg) (dd : Df K mg "_law_pattern" s__law_pattern ["script", "town", "most"]) (o__law_draw : Ok P w K mg base "_law_draw" ["script", "town", "many"] 3 (SpM K (fs__law_draw K))) (o__law_pick : Ok P w K mg base "_law_pick" ["script", "town", "some"] 4 (SpM K (fs__law_pick K))) (o__law_menu : Ok P w K mg base "_law_menu" [] 1 (SpM K (fs__law_menu K))) (hf : FsOk K 3 9 (fs__law_pattern K) (t__law_pattern K)) : Ok P w K mg base "_law_pattern" ["script", "town", "most"] 5 (SpM K (fs__law_pattern K)) := by
  refine ok_mk (t := t__law_pattern K) dd sc__law_pattern (by decide) hf (fun f cdv A outer s H E hr tk po => ?_)
  have sc := sc__law_pattern
  exact (pss_cons (ps_set (i := 3) sc.nd rfl (by first | exact Or.inl rfl | exact Or.inr rfl) (pe_lst pa_nil)) (pss_cons (ps_set (i := 4) sc.nd rfl (by first | exact Or.inl rfl | exact Or.inr rfl) (pe_lst (pa_cons pe_str (pa_cons pe_str (pa_cons pe_str (pa_cons pe_str (pa_cons pe_str (pa_cons pe_str pa_nil)))))))) (pss_cons (ps_for po rfl (pi_range1 (by rfl) T.f_range (pa_cons (pe_op op_addA pe_int (pe_callO o__law_draw (hr.mono (by decide)) (by rfl) tk (pa_cons (pv 0) (pa_cons (pv 1) (pa_cons (pv 2) pa_nil))))) pa_nil)) (pg_name (i := 5) sc.nd rfl (by first | exact Or.inl rfl | exact Or.inr rfl)) (pss_cons (ps_set (i := 6) sc.nd rfl (by first | exact Or.inl rfl | exact Or.inr rfl) (pe_callO o__law_draw (hr.mono (by decide)) (by rfl) tk (pa_cons (pv 0) (pa_cons (pv 1) (pa_cons pe_int pa_nil))))) (pss_one (ps_if (pt_cmpR op_lt (pv 6) pe_int (nomark _)) (pss_one (ps_expr (pe_bm PySem.F.plainAttrs_list PySem.F.slot_list_append PySem.F.type_list_append mt_append (pv 3) (pa_cons (pe_tup (pa_cons pe_str (pa_cons (pe_callO o__law_pick (hr.mono (by decide)) (by rfl) tk (pa_cons (pv 0) (pa_cons (pv 1) (pa_cons (pe_callO0 o__law_menu (hr.mono (by decide)) (by rfl)) pa_nil)))) pa_nil))) pa_nil)))) (pss_one (ps_if (pt_cmpR (op_eqA hr.units) (pv 6) pe_int (nomark _)) (pss_cons (ps_setLc (own := [("j", 8)]) (i := 7) (g := (gName 8)) rfl sc.nd rfl rfl (sw_true rfl rfl rfl (by decide +kernel)) (pi_range1 (by rfl) T.f_range (pa_cons (pe_op op_addA pe_int (pe_callO o__law_draw (hr.mono (by decide)) (by rfl) tk (pa_cons (pv 0) (pa_cons (pv 1) (pa_cons pe_int pa_nil))))) pa_nil)) (blkOk_by (N := N__law_pattern) (sc := defScope s__law_pattern) (by decide +kernel)) (fun _ _ _ _ _ => (pg_name (i := 8) sc.nd rfl (by first | exact Or.inl rfl | exact Or.inr rfl))) (fun _ _ _ _ _ => pts_nil) (fun _ _ _ _ _ => (pe_callO o__law_pick (hr.mono (by decide)) (by rfl) takes0 (pa_cons (pv 0) (pa_cons (pv 1) (pa_cons (pe_callO0 o__law_menu (hr.mono (by decide)) (by rfl)) pa_nil)))))) (pss_one (ps_expr (pe_bm PySem.F.plainAttrs_list PySem.F.slot_list_append PySem.F.type_list_append mt_append (pv 3) (pa_cons (pe_tup (pa_cons pe_str (pa_cons (pv 7) pa_nil))) pa_nil))))) (pss_one (ps_expr (pe_bm PySem.F.plainAttrs_list PySem.F.slot_list_append PySem.F.type_list_append mt_append (pv 3) (pa_cons (pe_tup (pa_cons (pe_ifExp (pt_cmpR op_lt (pv 6) pe_int (nomark _)) pe_str pe_str) (pa_cons (pe_ix ix_any (pv 4) (pv 5) (fun _ _ => rfl)) pa_nil))) pa_nil)))))))))) (pss_one (ps_ret (pv 3))))))
theorem ok__law_text (T : Tx K mg) (dd : Df K mg "_law_text" s__law_text ["pattern"])  (hf : FsOk K 1 6 (fs__law_text K) (t__law_text K)) : Ok P w K mg base "_law_text" ["pattern"] 1 (SpM K (fs__law_text K)) := by
  refine ok_mk (t := t__law_text K) dd sc__law_text (by decide) hf (fun f cdv A outer s H E hr tk po => ?_)
  have sc := sc__law_text
  exact (pss_cons (ps_set (i := 1) sc.nd rfl (by first | exact Or.inl rfl | exact Or.inr rfl) (pe_lst pa_nil)) (pss_cons (ps_for po rfl (pi_list (pv 0)) (pg_tup rfl (pgs_cons (pg_name (i := 2) sc.nd rfl (by first | exact Or.inl rfl | exact Or.inr rfl)) (pgs_cons (pg_name (i := 3) sc.nd rfl (by first | exact Or.inl rfl | exact Or.inr rfl)) pgs_nil))) (pss_one (ps_if (pt_cmpR (op_eqA hr.units) (pv 2) pe_str (nomark _)) (pss_cons (ps_set (i := 4) sc.nd rfl (by first | exact Or.inl rfl | exact Or.inr rfl) (pe_ix ix_any (pv 3) pe_int (fun _ _ => rfl))) (pss_cons (ps_for po rfl (pi_list (pe_slice sl_any (pv 3) (po_some pe_int) po_none)) (pg_name (i := 5) sc.nd rfl (by first | exact Or.inl rfl | exact Or.inr rfl)) (pss_one (ps_set (i := 4) sc.nd rfl (by first | exact Or.inl rfl | exact Or.inr rfl) (pe_op op_addA (pe_op op_addA (pv 4) pe_str) (pv 5))))) (pss_one (ps_expr (pe_bm PySem.F.plainAttrs_list PySem.F.slot_list_append PySem.F.type_list_append mt_append (pv 1) (pa_cons (pe_op op_addA (pv 4) (pe_ifExp (pt_cmpR (op_eqA hr.units) (pe_callB call_lenA (by rfl) T.f_len PySem.boot_len (pa_cons (pv 3) pa_nil)) pe_int (nomark _)) pe_str pe_str)) pa_nil)))))) (pss_one (ps_expr (pe_bm PySem.F.plainAttrs_list PySem.F.slot_list_append PySem.F.type_list_append mt_append (pv 1) (pa_cons (pe_op op_addA (pe_dget (hu_of hr) (pe_disp (pps_cons pe_str pe_str (pps_cons pe_str pe_str (pps_cons pe_str pe_str pps_nil))) (by rfl) (by rfl) (fun z => by cases z) (by decide)) (pv 2) (fun _ _ => rfl)) (pv 3)) pa_nil))))))) (pss_one (ps_ret (pe_join pe_str (pv 1))))))
theorem ok_is_word (T : Tx K mg) (dd : Df K mg "is_word" s_is_word ["text"])  (hf : FsOk K 1 2 (fs_is_word K) (t_is_word K)) : Ok P w K mg base "is_word" ["text"] 1 (SpM K (fs_is_word K)) := by
  refine ok_mk (t := t_is_word K) dd sc_is_word (by decide) hf (fun f cdv A outer s H E hr tk po => ?_)
  have sc := sc_is_word
  exact (pss_one (ps_ret (pe_and (pe_cmpR (op_neA hr.units) (pv 0) pe_str (nomark _)) (pe_one (pe_callB (cr_all rfl) (by rfl) T.f_all (by decide +kernel) (pa_cons (pe_lc (own := [("sign", 1)]) (g := (gName 1)) rfl sc.nd (pi_str (pv 0)) (blkOk_by (N := N_is_word) (sc := defScope s_is_word) (by decide +kernel)) (fun _ _ _ _ _ => (pg_name (i := 1) sc.nd rfl (by first | exact Or.inl rfl | exact Or.inr rfl))) (fun _ _ _ _ _ => pts_nil) (fun _ _ _ _ _ => (pe_cmpR op_inA (pv 1) (pe_gstr (by rfl) T.c_LETTERS) (by rfl)))) pa_nil))))))
theorem ok_look_pattern (T : Tx K mg) (dd : Df K mg "look_pattern" s_look_pattern ["pattern"]) (o_is_word : Ok P w K mg base "is_word" ["text"] 1 (SpM K (fs_is_word K))) (hf : FsOk K 1 5 (fs_look_pattern K) (t_look_pattern K)) : Ok P w K mg base "look_pattern" ["pattern"] 2 (SpM K (fs_look_pattern K)) := by
  refine ok_mk (t := t_look_pattern K) dd sc_look_pattern (by decide) hf (fun f cdv A outer s H E hr tk po => ?_)
  have sc := sc_look_pattern
  exact (pss_cons (ps_if (pt_not (pt_chain op_le op_le pe_int (pe_callB call_lenA (by rfl) T.f_len PySem.boot_len (pa_cons (pv 0) pa_nil)) (pe_gint (by rfl) T.c_MOST_PARTS))) (pss_one (ps_raise rfl tk (pmk_own PySem.F.excBase_ValueError T.x_BadPattern.1 T.g_BadPattern T.x_BadPattern.2.1 (raises_own T.x_BadPattern.2.2.1 T.x_BadPattern.2.2.2) (by rfl)))) pss_nil) (pss_cons (ps_set (i := 1) sc.nd rfl (by first | exact Or.inl rfl | exact Or.inr rfl) (pe_lst pa_nil)) (pss_cons (ps_for po rfl (pi_list (pv 0)) (pg_name (i := 2) sc.nd rfl (by first | exact Or.inl rfl | exact Or.inr rfl)) (pss_cons (ps_if (PW.pt (pw_or (pt_cmpR (op_neA hr.units) (pe_callB call_lenA (by rfl) T.f_len PySem.boot_len (pa_cons (pv 2) pa_nil)) pe_int (nomark _)) (pw_or1 (pt_cmpR op_notInA (pe_ix ix_any (pv 2) pe_int (fun _ _ => rfl)) (pe_tup (pa_cons pe_str (pa_cons pe_str (pa_cons pe_str (pa_cons pe_str pa_nil))))) (by rfl))))) (pss_one (ps_raise rfl tk (pmk_own PySem.F.excBase_ValueError T.x_BadPattern.1 T.g_BadPattern T.x_BadPattern.2.1 (raises_own T.x_BadPattern.2.2.1 T.x_BadPattern.2.2.2) (by rfl)))) pss_nil) (pss_cons (ps_set (i := 3) sc.nd rfl (by first | exact Or.inl rfl | exact Or.inr rfl) (pe_ifExp (pt_cmpR (op_eqA hr.units) (pe_ix ix_any (pv 2) pe_int (fun _ _ => rfl)) pe_str (nomark _)) (pe_ix ix_any (pv 2) pe_int (fun _ _ => rfl)) (pe_lst (pa_cons (pe_ix ix_any (pv 2) pe_int (fun _ _ => rfl)) pa_nil)))) (pss_cons (ps_if (PW.pt (pw_or (pt_not (pt_chain op_le op_le pe_int (pe_callB call_lenA (by rfl) T.f_len PySem.boot_len (pa_cons (pv 3) pa_nil)) (pe_gint (by rfl) T.c_MOST_WORDS))) (pw_or1 (pt_not (pt_val (pe_callB (cr_all rfl) (by rfl) T.f_all (by decide +kernel) (pa_cons (pe_lc (own := [("word", 4)]) (g := (gName 4)) rfl sc.nd (pi_list (pv 3)) (blkOk_by (N := N_look_pattern) (sc := defScope s_look_pattern) (by decide +kernel)) (fun _ _ _ _ _ => (pg_name (i := 4) sc.nd rfl (by first | exact Or.inl rfl | exact Or.inr rfl))) (fun _ _ _ _ _ => pts_nil) (fun _ _ _ _ _ => (pe_callO o_is_word (hr.mono (by decide)) (by rfl) takes0 (pa_cons (pv 4) pa_nil)))) pa_nil))))))) (pss_one (ps_raise rfl tk (pmk_own PySem.F.excBase_ValueError T.x_BadPattern.1 T.g_BadPattern T.x_BadPattern.2.1 (raises_own T.x_BadPattern.2.2.1 T.x_BadPattern.2.2.2) (by rfl)))) pss_nil) (pss_one (ps_if (pt_cmpR op_inA (pe_ix ix_any (pv 2) pe_int (fun _ _ => rfl)) (pe_tup (pa_cons pe_str (pa_cons pe_str pa_nil))) (by rfl)) (pss_one (ps_expr (pe_bm PySem.F.plainAttrs_list PySem.F.slot_list_append PySem.F.type_list_append mt_append (pv 1) (pa_cons (pe_ix ix_any (pv 2) pe_int (fun _ _ => rfl)) pa_nil)))) pss_nil)))))) (pss_one (ps_if (pt_cmpR op_lt (pe_lenSetS rfl (by rfl) T.f_len (by rfl) T.f_set (pv 1)) (pe_callB call_lenA (by rfl) T.f_len PySem.boot_len (pa_cons (pv 1) pa_nil)) (nomark _)) (pss_one (ps_raise rfl tk (pmk_own PySem.F.excBase_ValueError T.x_BadPattern.1 T.g_BadPattern T.x_BadPattern.2.1 (raises_own T.x_BadPattern.2.2.1 T.x_BadPattern.2.2.2) (by rfl)))) pss_nil)))))
theorem ok_part_text (T : Tx K mg) (dd : Df K mg "part_text" s_part_text ["part"])  (hf : FsOk K 1 1 (fs_part_text K) (t_part_text K)) : Ok P w K mg base "part_text" ["part"] 1 (SpM K (fs_part_text K)) := by
  refine ok_mk (t := t_part_text K) dd sc_part_text (by decide) hf (fun f cdv A outer s H E hr tk po => ?_)
  have sc := sc_part_text
  exact (pss_cons (ps_if (pt_cmpR (op_eqA hr.units) (pe_ix ix_any (pv 0) pe_int (fun _ _ => rfl)) pe_str (nomark _)) (pss_one (ps_ret (pe_ifExp (pt_cmpR op_gt (pe_callB call_lenA (by rfl) T.f_len PySem.boot_len (pa_cons (pe_ix ix_any (pv 0) pe_int (fun _ _ => rfl)) pa_nil)) pe_int (nomark _)) (pe_join pe_str (pe_ix ix_any (pv 0) pe_int (fun _ _ => rfl))) (pe_op op_addA (pe_ix ix_any (pe_ix ix_any (pv 0) pe_int (fun _ _ => rfl)) pe_int (fun _ _ => rfl)) pe_str)))) pss_nil) (pss_one (ps_ret (pe_ifExp (pt_cmpR (op_eqA hr.units) (pe_ix ix_any (pv 0) pe_int (fun _ _ => rfl)) pe_str (nomark _)) (pe_ix ix_any (pv 0) pe_int (fun _ _ => rfl)) (pe_op op_addA (pe_ifExp (pt_cmpR (op_eqA hr.units) (pe_ix ix_any (pv 0) pe_int (fun _ _ => rfl)) pe_str (nomark _)) pe_str pe_str) (pe_ix ix_any (pv 0) pe_int (fun _ _ => rfl)))))))
theorem ok_text_of (T : Tx K mg) (dd : Df K mg "text_of" s_text_of ["pattern"]) (o_part_text : Ok P w K mg base "part_text" ["part"] 1 (SpM K (fs_part_text K))) (hf : FsOk K 1 2 (fs_text_of K) (t_text_of K)) : Ok P w K mg base "text_of" ["pattern"] 2 (SpM K (fs_text_of K)) := by
  refine ok_mk (t := t_text_of K) dd sc_text_of (by decide) hf (fun f cdv A outer s H E hr tk po => ?_)
  have sc := sc_text_of
  exact (pss_one (ps_ret (pe_join pe_str (pe_lc (own := [("part", 1)]) (g := (gName 1)) rfl sc.nd (pi_list (pv 0)) (blkOk_by (N := N_text_of) (sc := defScope s_text_of) (by decide +kernel)) (fun _ _ _ _ _ => (pg_name (i := 1) sc.nd rfl (by first | exact Or.inl rfl | exact Or.inr rfl))) (fun _ _ _ _ _ => pts_nil) (fun _ _ _ _ _ => (pe_callO o_part_text (hr.mono (by decide)) (by rfl) takes0 (pa_cons (pv 1) pa_nil)))))))
theorem ok_pattern_text (T : Tx K mg) (dd : Df K mg "pattern_text" s_pattern_text ["pattern"]) (o_look_pattern : Ok P w K mg base "look_pattern" ["pattern"] 2 (SpM K (fs_look_pattern K))) (o_text_of : Ok P w K mg base "text_of" ["pattern"] 2 (SpM K (fs_text_of K))) (hf : FsOk K 1 1 (fs_pattern_text K) (t_pattern_text K)) : Ok P w K mg base "pattern_text" ["pattern"] 3 (SpM K (fs_pattern_text K)) := by
  refine ok_mk (t := t_pattern_text K) dd sc_pattern_text (by decide) hf (fun f cdv A outer s H E hr tk po => ?_)
  have sc := sc_pattern_text
  exact (pss_cons (ps_expr (pe_callO o_look_pattern (hr.mono (by decide)) (by rfl) tk (pa_cons (pv 0) pa_nil))) (pss_one (ps_ret (pe_callO o_text_of (hr.mono (by decide)) (by rfl) tk (pa_cons (pv 0) pa_nil)))))
theorem ok_part_in (T : Tx K mg) (dd : Df K mg "part_in" s_part_in ["word"])  (hf : FsOk K 1 1 (fs_part_in K) (t_part_in K)) : Ok P w K mg base "part_in" ["word"] 1 (SpM K (fs_part_in K)) := by
  refine ok_mk (t := t_part_in K) dd sc_part_in (by decide) hf (fun f cdv A outer s H E hr tk po => ?_)
  have sc := sc_part_in
  exact (pss_cons (ps_if (pt_cmpR (op_eqA hr.units) (pe_slice sl_any (pv 0) po_none (po_some pe_int)) pe_str (nomark _)) (pss_one (ps_ret (pe_tup (pa_cons pe_str (pa_cons (pe_slice sl_any (pv 0) (po_some pe_int) po_none) pa_nil))))) pss_nil) (pss_cons (ps_if (pt_cmpR (op_eqA hr.units) (pe_slice sl_any (pv 0) po_none (po_some pe_int)) pe_str (nomark _)) (pss_one (ps_ret (pe_tup (pa_cons pe_str (pa_cons (pe_slice sl_any (pv 0) (po_some pe_int) po_none) pa_nil))))) pss_nil) (pss_cons (ps_if (pt_cmpR op_inA pe_str (pv 0) (by rfl)) (pss_one (ps_ret (pe_tup (pa_cons pe_str (pa_cons (pe_ifExp (pt_cmpR (op_eqA hr.units) (pe_ix ix_any (pv 0) (pe_un un_neg pe_int) (fun _ _ => rfl)) pe_str (nomark _)) (pe_split (pe_slice sl_any (pv 0) po_none (po_some (pe_un un_neg pe_int))) pe_str) (pe_split (pv 0) pe_str)) pa_nil))))) pss_nil) (pss_one (ps_ret (pe_tup (pa_cons pe_str (pa_cons (pv 0) pa_nil))))))))
theorem ok_read_pattern (T : Tx K mg) (dd : Df K mg "read_pattern" s_read_pattern ["text"]) (o_part_in : Ok P w K mg base "part_in" ["word"] 1 (SpM K (fs_part_in K))) (o_look_pattern : Ok P w K mg base "look_pattern" ["pattern"] 2 (SpM K (fs_look_pattern K))) (o_text_of : Ok P w K mg base "text_of" ["pattern"] 2 (SpM K (fs_text_of K))) (hf : FsOk K 1 4 (fs_read_pattern K) (t_read_pattern K)) : Ok P w K mg base "read_pattern" ["text"] 3 (SpM K (fs_read_pattern K)) := by
  refine ok_mk (t := t_read_pattern K) dd sc_read_pattern (by decide) hf (fun f cdv A outer s H E hr tk po => ?_)
  have sc := sc_read_pattern
  exact (pss_cons (ps_setLc (own := [("word", 3)]) (i := 1) (g := (gName 3)) rfl sc.nd rfl rfl (sw_true rfl rfl rfl (by decide +kernel)) (pi_list (pe_split (pv 0) pe_str)) (blkOk_by (N := N_read_pattern) (sc := defScope s_read_pattern) (by decide +kernel)) (fun _ _ _ _ _ => (pg_name (i := 3) sc.nd rfl (by first | exact Or.inl rfl | exact Or.inr rfl))) (fun _ _ _ _ _ => pts_nil) (fun _ _ _ _ _ => (pe_callO o_part_in (hr.mono (by decide)) (by rfl) takes0 (pa_cons (pv 3) pa_nil)))) (pss_cons (ps_set (i := 2) sc.nd rfl (by first | exact Or.inl rfl | exact Or.inr rfl) pe_bl) (pss_cons (ps_try_only (tb := fun W => (tDrop (tCallS (SpM K (fs_look_pattern K)) (WE W) (tCons (tVar 1) tNil)))) (ts := fun _ _ _ => (tAsg (tC (.bl false)) (gName 2))) rfl rfl ⟨rfl, by decide, Or.inl T.g_BadPattern⟩ tk (fun W pn xe tk po => (pss_one (ps_expr (pe_callO o_look_pattern (hr.mono (by decide)) (by rfl) tk (pa_cons (pv 1) pa_nil))))) (fun a oe cls d pn hz hf => (pss_one (ps_set (i := 2) sc.nd rfl (by first | exact Or.inl rfl | exact Or.inr rfl) pe_bl)))) (pss_cons (ps_if (PW.pt (pw_or (pt_not (pt_truth (pv 2) (by intro _; rfl))) (pw_or1 (pt_cmpR (op_neA hr.units) (pe_callO o_text_of (hr.mono (by decide)) (by rfl) tk (pa_cons (pv 1) pa_nil)) (pv 0) (nomark _))))) (pss_one (ps_raise rfl tk (pmk_own PySem.F.excBase_ValueError T.x_BadText.1 T.g_BadText T.x_BadText.2.1 (raises_own T.x_BadText.2.2.1 T.x_BadText.2.2.2) (by rfl)))) pss_nil) (pss_one (ps_ret (pv 1)))))))
theorem ok_rank (T : Tx K mg) (dd : Df K mg "rank" s_rank ["pattern"]) (o_look_pattern : Ok P w K mg base "look_pattern" ["pattern"] 2 (SpM K (fs_look_pattern K))) (hf : FsOk K 1 3 (fs_rank K) (t_rank K)) : Ok P w K mg base "rank" ["pattern"] 3 (SpM K (fs_rank K)) := by
  refine ok_mk (t := t_rank K) dd sc_rank (by decide) hf (fun f cdv A outer s H E hr tk po => ?_)
  have sc := sc_rank
  exact (pss_cons (ps_expr (pe_callO o_look_pattern (hr.mono (by decide)) (by rfl) tk (pa_cons (pv 0) pa_nil))) (pss_cons (ps_setLc (own := [("part", 2)]) (i := 1) (g := (gName 2)) rfl sc.nd rfl rfl (sw_true rfl rfl rfl (by decide +kernel)) (pi_list (pv 0)) (blkOk_by (N := N_rank) (sc := defScope s_rank) (by decide +kernel)) (fun _ _ _ _ _ => (pg_name (i := 2) sc.nd rfl (by first | exact Or.inl rfl | exact Or.inr rfl))) (fun _ _ _ _ _ => pts_nil) (fun _ _ _ _ _ => (pe_ix ix_any (pv 2) pe_int (fun _ _ => rfl)))) (pss_one (ps_ret (pe_tup (pa_cons (pe_bm PySem.F.plainAttrs_list PySem.F.slot_list_count PySem.F.type_list_count mt_countA (pv 1) (pa_cons pe_str pa_nil)) (pa_cons (pe_bm PySem.F.plainAttrs_list PySem.F.slot_list_count PySem.F.type_list_count mt_countA (pv 1) (pa_cons pe_str pa_nil)) (pa_cons (pe_bm PySem.F.plainAttrs_list PySem.F.slot_list_count PySem.F.type_list_count mt_countA (pv 1) (pa_cons pe_str pa_nil)) (pa_cons (pe_op op_sub pe_int (pe_bm PySem.F.plainAttrs_list PySem.F.slot_list_count PySem.F.type_list_count mt_countA (pv 1) (pa_cons pe_str pa_nil))) pa_nil)))))))))
theorem ok_look_both (T : Tx K mg) (dd : Df K mg "look_both" s_look_both ["one", "other"]) (o_look_pattern : Ok P w K mg base "look_pattern" ["pattern"] 2 (SpM K (fs_look_pattern K))) (hf : FsOk K 2 2 (fs_look_both K) (t_look_both K)) : Ok P w K mg base "look_both" ["one", "other"] 3 (SpM K (fs_look_both K)) := by
  refine ok_mk (t := t_look_both K) dd sc_look_both (by decide) hf (fun f cdv A outer s H E hr tk po => ?_)
  have sc := sc_look_both
  exact (pss_cons (ps_expr (pe_callO o_look_pattern (hr.mono (by decide)) (by rfl) tk (pa_cons (pv 0) pa_nil))) (pss_one (ps_expr (pe_callO o_look_pattern (hr.mono (by decide)) (by rfl) tk (pa_cons (pv 1) pa_nil)))))
theorem ok_covers (T : Tx K mg) (dd : Df K mg "covers" s_covers ["one", "other"]) (o_look_both : Ok P w K mg base "look_both" ["one", "other"] 3 (SpM K (fs_look_both K))) (hf : FsOk K 2 2 (fs_covers K) (t_covers K)) : Ok P w K mg base "covers" ["one", "other"] 4 (SpM K (fs_covers K)) := by
  refine ok_mk (t := t_covers K) dd sc_covers (by decide) hf (fun f cdv A outer s H E hr tk po => ?_)
  have sc := sc_covers
  exact (pss_cons (ps_expr (pe_callO o_look_both (hr.mono (by decide)) (by rfl) tk (pa_cons (pv 0) (pa_cons (pv 1) pa_nil)))) M.pss_never)
theorem ok_apart (T : Tx K mg) (dd : Df K mg "apart" s_apart ["one", "other"]) (o_look_both : Ok P w K mg base "look_both" ["one", "other"] 3 (SpM K (fs_look_both K))) (hf : FsOk K 2 2 (fs_apart K) (t_apart K)) : Ok P w K mg base "apart" ["one", "other"] 4 (SpM K (fs_apart K)) := by
  refine ok_mk (t := t_apart K) dd sc_apart (by decide) hf (fun f cdv A outer s H E hr tk po => ?_)
  have sc := sc_apart
  exact (pss_cons (ps_expr (pe_callO o_look_both (hr.mono (by decide)) (by rfl) tk (pa_cons (pv 0) (pa_cons (pv 1) pa_nil)))) M.pss_never)
theorem ok_common (T : Tx K mg) (dd : Df K mg "common" s_common ["one", "other"]) (o_look_both : Ok P w K mg base "look_both" ["one", "other"] 3 (SpM K (fs_look_both K))) (hf : FsOk K 2 2 (fs_common K) (t_common K)) : Ok P w K mg base "common" ["one", "other"] 4 (SpM K (fs_common K)) := by
  refine ok_mk (t := t_common K) dd sc_common (by decide) hf (fun f cdv A outer s H E hr tk po => ?_)
  have sc := sc_common
  exact (pss_cons (ps_expr (pe_callO o_look_both (hr.mono (by decide)) (by rfl) tk (pa_cons (pv 0) (pa_cons (pv 1) pa_nil)))) M.pss_never)
theorem ok_alphabet (T : Tx K mg) (dd : Df K mg "alphabet" s_alphabet ["one", "other"]) (o_look_both : Ok P w K mg base "look_both" ["one", "other"] 3 (SpM K (fs_look_both K))) (hf : FsOk K 2 4 (fs_alphabet K) (t_alphabet K)) : Ok P w K mg base "alphabet" ["one", "other"] 4 (SpM K (fs_alphabet K)) := by
  refine ok_mk (t := t_alphabet K) dd sc_alphabet (by decide) hf (fun f cdv A outer s H E hr tk po => ?_)
  have sc := sc_alphabet
  exact (pss_cons (ps_expr (pe_callO o_look_both (hr.mono (by decide)) (by rfl) tk (pa_cons (pv 0) (pa_cons (pv 1) pa_nil)))) M.pss_never)
theorem ok_needless (T : Tx K mg) (dd : Df K mg "needless" s_needless ["patterns"]) (o_look_pattern : Ok P w K mg base "look_pattern" ["pattern"] 2 (SpM K (fs_look_pattern K))) (hf : FsOk K 1 6 (fs_needless K) (t_needless K)) : Ok P w K mg base "needless" ["patterns"] 3 (SpM K (fs_needless K)) := by
  refine ok_mk (t := t_needless K) dd sc_needless (by decide) hf (fun f cdv A outer s H E hr tk po => ?_)
  have sc := sc_needless
  exact (pss_cons (ps_for po rfl (pi_list (pv 0)) (pg_name (i := 1) sc.nd rfl (by first | exact Or.inl rfl | exact Or.inr rfl)) (pss_one (ps_expr (pe_callO o_look_pattern (hr.mono (by decide)) (by rfl) tk (pa_cons (pv 1) pa_nil))))) M.pss_never)
theorem ok__law_one (T : Tx K mg) (dd : Df K mg "_law_one" s__law_one ["kind", "given"]) (o_read_pattern : Ok P w K mg base "read_pattern" ["text"] 3 (SpM K (fs_read_pattern K))) (o_pattern_text : Ok P w K mg base "pattern_text" ["pattern"] 3 (SpM K (fs_pattern_text K))) (o_rank : Ok P w K mg base "rank" ["pattern"] 3 (SpM K (fs_rank K))) (o_covers : Ok P w K mg base "covers" ["one", "other"] 4 (SpM K (fs_covers K))) (o_apart : Ok P w K mg base "apart" ["one", "other"] 4 (SpM K (fs_apart K))) (o_common : Ok P w K mg base "common" ["one", "other"] 4 (SpM K (fs_common K))) (o_alphabet : Ok P w K mg base "alphabet" ["one", "other"] 4 (SpM K (fs_alphabet K))) (o_needless : Ok P w K mg base "needless" ["patterns"] 3 (SpM K (fs_needless K))) (hf : FsOk K 2 2 (fs__law_one K) (t__law_one K)) : Ok P w K mg base "_law_one" ["kind", "given"] 5 (SpM K (fs__law_one K)) := by
  refine ok_mk (t := t__law_one K) dd sc__law_one (by decide) hf (fun f cdv A outer s H E hr tk po => ?_)
  have sc := sc__law_one
  exact (pss_cons (ps_if (pt_cmpR op_lt (pv 0) pe_int (nomark _)) (pss_cons (ps_if (pt_cmpR (op_eqA hr.units) (pv 0) pe_int (nomark _)) (pss_one (ps_ret (pe_callO o_read_pattern (hr.mono (by decide)) (by rfl) tk (pa_cons (pv 1) pa_nil)))) pss_nil) (pss_one (ps_ret (pe_ifExp (pt_cmpR (op_eqA hr.units) (pv 0) pe_int (nomark _)) (pe_callO o_pattern_text (hr.mono (by decide)) (by rfl) tk (pa_cons (pv 1) pa_nil)) (pe_callO o_rank (hr.mono (by decide)) (by rfl) tk (pa_cons (pv 1) pa_nil)))))) pss_nil) (pss_cons (ps_if (pt_cmpR op_lt (pv 0) pe_int (nomark _)) (pss_one (ps_ret (pe_ifExp (pt_cmpR (op_eqA hr.units) (pv 0) pe_int (nomark _)) (pe_callO o_covers (hr.mono (by decide)) (by rfl) tk (pa_cons (pv 1) (pa_cons (pe_lst (pa_cons (pe_tup (pa_cons pe_str (pa_cons pe_str pa_nil))) pa_nil)) pa_nil))) (pe_callO o_covers (hr.mono (by decide)) (by rfl) tk (pa_cons (pe_lst (pa_cons (pe_tup (pa_cons pe_str (pa_cons pe_str pa_nil))) pa_nil)) (pa_cons (pv 1) pa_nil)))))) pss_nil) (pss_cons (ps_if (pt_cmpR op_lt (pv 0) pe_int (nomark _)) (pss_one (ps_ret (pe_ifExp (pt_cmpR (op_eqA hr.units) (pv 0) pe_int (nomark _)) (pe_callO o_apart (hr.mono (by decide)) (by rfl) tk (pa_cons (pv 1) (pa_cons (pe_lst (pa_cons (pe_tup (pa_cons pe_str (pa_cons pe_str pa_nil))) pa_nil)) pa_nil))) (pe_callO o_common (hr.mono (by decide)) (by rfl) tk (pa_cons (pe_lst (pa_cons (pe_tup (pa_cons pe_str (pa_cons pe_str pa_nil))) pa_nil)) (pa_cons (pv 1) pa_nil)))))) pss_nil) (pss_one (ps_ret (pe_ifExp (pt_cmpR (op_eqA hr.units) (pv 0) pe_int (nomark _)) (pe_callO o_alphabet (hr.mono (by decide)) (by rfl) tk (pa_cons (pv 1) (pa_cons (pv 1) pa_nil))) (pe_callO o_needless (hr.mono (by decide)) (by rfl) tk (pa_cons (pe_lst (pa_cons (pe_lst (pa_cons (pe_tup (pa_cons pe_str (pa_cons pe_str pa_nil))) pa_nil)) (pa_cons (pv 1) pa_nil))) pa_nil))))))))
theorem ok__law_refusal (T : Tx K mg) (dd : Df K mg "_law_refusal" s__law_refusal ["caught"])  (hf : FsOk K 1 2 (fs__law_refusal K) (t__law_refusal K)) : Ok P w K mg base "_law_refusal" ["caught"] 1 (SpM K (fs__law_refusal K)) := by
  refine ok_mk (t := t__law_refusal K) dd sc__law_refusal (by decide) hf (fun f cdv A outer s H E hr tk po => ?_)
  have sc := sc__law_refusal
  exact (pss_cons (ps_if (pt_cmpR op_isN (pv 0) pe_non (nomark _)) (pss_one (ps_ret (pe_tup (pa_cons pe_str pa_nil)))) pss_nil) (pss_cons (ps_set (i := 1) sc.nd rfl (by first | exact Or.inl rfl | exact Or.inr rfl) (pe_lst (pa_cons (pe_callB call_isiA (by rfl) T.f_isinstance (by decide +kernel) (pa_cons (pv 0) (pa_cons (pe_gref (by rfl) T.g_BadText) pa_nil))) (pa_cons (pe_callB call_isiA (by rfl) T.f_isinstance (by decide +kernel) (pa_cons (pv 0) (pa_cons (pe_gref (by rfl) T.g_BadPattern) pa_nil))) (pa_cons (pe_callB call_isiA (by rfl) T.f_isinstance (by decide +kernel) (pa_cons (pv 0) (pa_cons (pe_gref (by rfl) T.g_BadAnswer) pa_nil))) pa_nil))))) (pss_cons (ps_set (i := 1) sc.nd rfl (by first | exact Or.inl rfl | exact Or.inr rfl) (pe_op op_addA (pv 1) (pe_lst (pa_cons (pe_callB call_isiA (by rfl) T.f_isinstance (by decide +kernel) (pa_cons (pv 0) (pa_cons (pe_gref (by rfl) T.g_BadRule) pa_nil))) (pa_cons (pe_callB call_isiA (by rfl) T.f_isinstance (by decide +kernel) (pa_cons (pv 0) (pa_cons (pe_gref (by rfl) T.g_BadTalk) pa_nil))) pa_nil))))) (pss_cons (ps_if (PW.pt (pw_or (pt_cmpR (op_neA hr.units) (pe_bm PySem.F.plainAttrs_list PySem.F.slot_list_count PySem.F.type_list_count mt_countA (pv 1) (pa_cons pe_bl pa_nil)) pe_int (nomark _)) (pw_or1 (pt_not (pt_val (pe_callB call_isiA (by rfl) T.f_isinstance (by decide +kernel) (pa_cons (pv 0) (pa_cons (pe_bty (by rfl) T.f_ValueError (by decide +kernel)) pa_nil)))))))) (pss_one (ps_ret (pe_tup (pa_cons pe_str pa_nil)))) pss_nil) (pss_one (ps_ret (pe_tup (pa_cons pe_str (pa_cons (pe_ix ix_any (pe_lst (pa_cons pe_str (pa_cons pe_str (pa_cons pe_str (pa_cons pe_str (pa_cons pe_str pa_nil)))))) (pe_bm PySem.F.plainAttrs_list PySem.F.slot_list_index PySem.F.type_list_index (mt_indexD hr.units1) (pv 1) (pa_cons pe_bl pa_nil)) (fun _ _ => rfl)) pa_nil)))))))))
theorem ok__law_told (T : Tx K mg) (dd : Df K mg "_law_told" s__law_told ["kind", "some"]) (o__law_one : Ok P w K mg base "_law_one" ["kind", "given"] 5 (SpM K (fs__law_one K))) (o__law_refusal : Ok P w K mg base "_law_refusal" ["caught"] 1 (SpM K (fs__law_refusal K))) (hf : FsOk K 2 5 (fs__law_told K) (t__law_told K)) : Ok P w K mg base "_law_told" ["kind", "some"] 6 (SpM K (fs__law_told K)) := by
  refine ok_mk (t := t__law_told K) dd sc__law_told (by decide) hf (fun f cdv A outer s H E hr tk po => ?_)
  have sc := sc__law_told
  exact (pss_cons (ps_set (i := 2) sc.nd rfl (by first | exact Or.inl rfl | exact Or.inr rfl) pe_non) (pss_cons (ps_set (i := 3) sc.nd rfl (by first | exact Or.inl rfl | exact Or.inr rfl) pe_non) (pss_cons (ps_try_held (i := 4) (tb := fun W => (tAsg (tCallS (SpM K (fs__law_one K)) (WE W) (tCons (tVar 0) (tCons (tVar 1) tNil))) (gName 3))) (ts := (tAsg (tVar 4) (gName 2))) rfl rfl rfl sc.nd rfl rfl ⟨rfl, by decide, Or.inl T.g_HallError⟩ tk (fun W pn xe tk po => (pss_one (ps_set (i := 3) sc.nd rfl (by first | exact Or.inl rfl | exact Or.inr rfl) (pe_callO o__law_one (hr.mono (by decide)) (by rfl) tk (pa_cons (pv 0) (pa_cons (pv 1) pa_nil)))))) (fun a oe cls d pn hz hf => (pss_one (ps_set (i := 2) sc.nd rfl (by first | exact Or.inl rfl | exact Or.inr rfl) (pv 4))))) (pss_one (ps_ret (pe_ifExp (pt_cmpR op_isN (pv 2) pe_non (nomark _)) (pe_tup (pa_cons pe_str (pa_cons (pv 3) pa_nil))) (pe_callO o__law_refusal (hr.mono (by decide)) (by rfl) tk (pa_cons (pv 2) pa_nil))))))))
theorem ok_law {f : Addr} {fd : FuncData} (T : Tx K mg) (dd : DfF K mg "law" s_law ["script"] f fd) (o__law_pattern : Ok P w K mg base "_law_pattern" ["script", "town", "most"] 5 (SpM K (fs__law_pattern K))) (o__law_text : Ok P w K mg base "_law_text" ["pattern"] 1 (SpM K (fs__law_text K))) (o_pattern_text : Ok P w K mg base "pattern_text" ["pattern"] 3 (SpM K (fs_pattern_text K))) (o__law_told : Ok P w K mg base "_law_told" ["kind", "some"] 6 (SpM K (fs__law_told K))) (o__law_pick : Ok P w K mg base "_law_pick" ["script", "town", "some"] 4 (SpM K (fs__law_pick K))) (o__law_draw : Ok P w K mg base "_law_draw" ["script", "town", "many"] 3 (SpM K (fs__law_draw K))) (hf : FsOk K 1 12 (fs_law K) (t_law K)) : FnOk P w K mg base (L2.CX P w) 7 f fd ["script"] (SpM K (fs_law K)) := by
  refine ok_mkF (t := t_law K) dd sc_law (by decide) hf (fun f cdv A outer s H E hr tk po => ?_)
  have sc := sc_law
  exact (pss_cons (ps_set (i := 1) sc.nd rfl (by first | exact Or.inl rfl | exact Or.inr rfl) (pe_lst pa_nil)) (pss_cons (ps_set (i := 2) sc.nd rfl (by first | exact Or.inl rfl | exact Or.inr rfl) (pe_callO o__law_pattern (hr.mono (by decide)) (by rfl) tk (pa_cons (pv 0) (pa_cons (pv 1) (pa_cons pe_int pa_nil))))) (pss_cons (ps_set (i := 3) sc.nd rfl (by first | exact Or.inl rfl | exact Or.inr rfl) (pe_callO o__law_text (hr.mono (by decide)) (by rfl) tk (pa_cons (pv 2) pa_nil))) (pss_cons (ps_if (PW.pt (pw_or (pt_cmpR (op_neA hr.units) (pe_callO o_pattern_text (hr.mono (by decide)) (by rfl) tk (pa_cons (pv 2) pa_nil)) (pv 3) (nomark _)) (pw_or1 (pt_cmpR (op_neA hr.units) (pe_callO o__law_told (hr.mono (by decide)) (by rfl) tk (pa_cons pe_int (pa_cons (pv 3) pa_nil))) (pe_tup (pa_cons pe_str (pa_cons (pv 2) pa_nil))) (nomark _))))) (pss_one (ps_ret pe_bl)) pss_nil) (pss_cons (ps_set (i := 4) sc.nd rfl (by first | exact Or.inl rfl | exact Or.inr rfl) (pe_lst (pa_cons (pe_lst pa_nil) (pa_cons (pe_op op_mulA (pe_lst (pa_cons (pe_tup (pa_cons pe_str (pa_cons pe_str pa_nil))) pa_nil)) pe_int) (pa_cons (pe_op op_mulA (pe_lst (pa_cons (pe_tup (pa_cons pe_str (pa_cons pe_str pa_nil))) pa_nil)) pe_int) (pa_cons (pe_lst (pa_cons (pe_tup (pa_cons pe_str (pa_cons (pe_lst pa_nil) pa_nil))) pa_nil)) (pa_cons (pe_lst (pa_cons (pe_tup (pa_cons pe_str (pa_cons (pe_op op_mulA (pe_lst (pa_cons pe_str pa_nil)) pe_int) pa_nil))) pa_nil)) (pa_cons (pe_lst (pa_cons (pe_tup (pa_cons pe_str (pa_cons pe_str pa_nil))) pa_nil)) pa_nil)))))))) (pss_cons (ps_set (i := 4) sc.nd rfl (by first | exact Or.inl rfl | exact Or.inr rfl) (pe_op op_addA (pv 4) (pe_lst (pa_cons (pe_lst (pa_cons (pe_tup (pa_cons pe_str (pa_cons pe_str pa_nil))) pa_nil)) (pa_cons (pe_lst (pa_cons (pe_tup (pa_cons pe_str (pa_cons pe_str pa_nil))) pa_nil)) (pa_cons (pe_lst (pa_cons (pe_tup (pa_cons pe_str (pa_cons (pe_lst (pa_cons pe_str (pa_cons pe_str pa_nil))) pa_nil))) pa_nil)) (pa_cons (pe_lst (pa_cons (pe_tup (pa_cons pe_str (pa_cons pe_str pa_nil))) pa_nil)) (pa_cons (pe_op op_addA (pv 2) (pe_lst (pa_cons (pe_tup (pa_cons pe_str (pa_cons pe_str pa_nil))) pa_nil))) pa_nil)))))))) (pss_cons (ps_set (i := 5) sc.nd rfl (by first | exact Or.inl rfl | exact Or.inr rfl) (pe_callO o__law_pick (hr.mono (by decide)) (by rfl) tk (pa_cons (pv 0) (pa_cons (pv 1) (pa_cons (pv 4) pa_nil))))) (pss_cons (ps_if (pt_cmpR (op_neA hr.units) (pe_lc (own := [("kind", 11)]) (g := (gName 11)) rfl sc.nd (pi_range2 (by rfl) T.f_range (pa_cons pe_int (pa_cons pe_int pa_nil))) (blkOk_by (N := N_law) (sc := defScope s_law) (by decide +kernel)) (fun _ _ _ _ _ => (pg_name (i := 11) sc.nd rfl (by first | exact Or.inl rfl | exact Or.inr rfl))) (fun _ _ _ _ _ => pts_nil) (fun _ _ _ _ _ => (pe_callO o__law_told (hr.mono (by decide)) (by rfl) takes0 (pa_cons (pv 11) (pa_cons (pv 5) pa_nil))))) (pe_op op_mulA (pe_lst (pa_cons (pe_tup (pa_cons pe_str (pa_cons pe_str pa_nil))) pa_nil)) pe_int) (nomark _)) (pss_one (ps_ret pe_bl)) pss_nil) (pss_cons (ps_for po rfl (pi_range1 (by rfl) T.f_range (pa_cons pe_int pa_nil)) (pg_name (i := 6) sc.nd rfl (by first | exact Or.inl rfl | exact Or.inr rfl)) (pss_cons (ps_set (i := 7) sc.nd rfl (by first | exact Or.inl rfl | exact Or.inr rfl) (pe_callO o__law_draw (hr.mono (by decide)) (by rfl) tk (pa_cons (pv 0) (pa_cons (pv 1) (pa_cons (pe_op op_addA (pe_callB call_lenA (by rfl) T.f_len PySem.boot_len (pa_cons (pv 3) pa_nil)) pe_int) pa_nil))))) (pss_cons (ps_set (i := 8) sc.nd rfl (by first | exact Or.inl rfl | exact Or.inr rfl) (pe_callO o__law_pick (hr.mono (by decide)) (by rfl) tk (pa_cons (pv 0) (pa_cons (pv 1) (pa_cons (pe_lst (pa_cons pe_str (pa_cons pe_str (pa_cons pe_str (pa_cons pe_str (pa_cons pe_str (pa_cons pe_str (pa_cons pe_str (pa_cons pe_str (pa_cons pe_str (pa_cons pe_str (pa_cons pe_str (pa_cons pe_str pa_nil))))))))))))) pa_nil))))) (pss_cons (ps_set (i := 9) sc.nd rfl (by first | exact Or.inl rfl | exact Or.inr rfl) (pe_op op_addA (pe_op op_addA (pe_slice sl_any (pv 3) po_none (po_some (pv 7))) (pv 8)) (pe_slice sl_any (pv 3) (po_some (pe_op op_addA (pv 7) (pe_callO o__law_draw (hr.mono (by decide)) (by rfl) tk (pa_cons (pv 0) (pa_cons (pv 1) (pa_cons pe_int pa_nil)))))) po_none))) (pss_cons (ps_set (i := 10) sc.nd rfl (by first | exact Or.inl rfl | exact Or.inr rfl) (pe_callO o__law_told (hr.mono (by decide)) (by rfl) tk (pa_cons pe_int (pa_cons (pv 9) pa_nil)))) (pss_one (ps_if (pt_cmpR (op_eqA hr.units) (pe_ix ix_any (pv 10) pe_int (fun _ _ => rfl)) pe_str (nomark _)) (pss_one (ps_if (PW.pt (pw_or (pt_cmpR (op_neA hr.units) (pe_callO o__law_text (hr.mono (by decide)) (by rfl) tk (pa_cons (pe_ix ix_any (pv 10) pe_int (fun _ _ => rfl)) pa_nil)) (pv 9) (nomark _)) (pw_or1 (pt_cmpR (op_neA hr.units) (pe_ix ix_any (pe_callO o__law_told (hr.mono (by decide)) (by rfl) tk (pa_cons pe_int (pa_cons (pe_ix ix_any (pv 10) pe_int (fun _ _ => rfl)) pa_nil))) pe_int (fun _ _ => rfl)) pe_str (nomark _))))) (pss_one (ps_ret pe_bl)) pss_nil)) (pss_one (ps_if (pt_cmpR (op_neA hr.units) (pv 10) (pe_tup (pa_cons pe_str (pa_cons pe_str pa_nil))) (nomark _)) (pss_one (ps_ret pe_bl)) pss_nil))))))))) (pss_cons (ps_set (i := 5) sc.nd rfl (by first | exact Or.inl rfl | exact Or.inr rfl) (pe_lst (pa_cons pe_str (pa_cons pe_str (pa_cons pe_str (pa_cons pe_str (pa_cons pe_str (pa_cons pe_str (pa_cons pe_str (pa_cons pe_str (pa_cons pe_str (pa_cons pe_str (pa_cons pe_str (pa_cons pe_str (pa_cons pe_str (pa_cons pe_str pa_nil)))))))))))))))) (pss_cons (ps_set (i := 5) sc.nd rfl (by first | exact Or.inl rfl | exact Or.inr rfl) (pe_op op_addA (pv 5) (pe_lst (pa_cons pe_str (pa_cons pe_str pa_nil))))) (pss_one (ps_ret (pe_cmpR (op_eqA hr.units) (pe_callO o__law_told (hr.mono (by decide)) (by rfl) tk (pa_cons pe_int (pa_cons (pe_callO o__law_pick (hr.mono (by decide)) (by rfl) tk (pa_cons (pv 0) (pa_cons (pv 1) (pa_cons (pv 5) pa_nil)))) pa_nil))) (pe_tup (pa_cons pe_str (pa_cons pe_str pa_nil))) (nomark _)))))))))))))))
end
def d__law_cell : He.DefD := ⟨("_law_cell", none), "_law_cell", "_law_cell", defArgs s__law_cell, defBody s__law_cell, defScope s__law_cell, [], []⟩
def d__law_mix : He.DefD := ⟨("_law_mix", none), "_law_mix", "_law_mix", defArgs s__law_mix, defBody s__law_mix, defScope s__law_mix, [], []⟩
def d__law_draw : He.DefD := ⟨("_law_draw", none), "_law_draw", "_law_draw", defArgs s__law_draw, defBody s__law_draw, defScope s__law_draw, [], []⟩
def d__law_pick : He.DefD := ⟨("_law_pick", none), "_law_pick", "_law_pick", defArgs s__law_pick, defBody s__law_pick, defScope s__law_pick, [], []⟩
def d__law_menu : He.DefD := ⟨("_law_menu", none), "_law_menu", "_law_menu", defArgs s__law_menu, defBody s__law_menu, defScope s__law_menu, [], []⟩
def d__law_pattern : He.DefD := ⟨("_law_pattern", none), "_law_pattern", "_law_pattern", defArgs s__law_pattern, defBody s__law_pattern, defScope s__law_pattern, [], []⟩
def d__law_text : He.DefD := ⟨("_law_text", none), "_law_text", "_law_text", defArgs s__law_text, defBody s__law_text, defScope s__law_text, [], []⟩
def d_is_word : He.DefD := ⟨("is_word", none), "is_word", "is_word", defArgs s_is_word, defBody s_is_word, defScope s_is_word, [], []⟩
def d_look_pattern : He.DefD := ⟨("look_pattern", none), "look_pattern", "look_pattern", defArgs s_look_pattern, defBody s_look_pattern, defScope s_look_pattern, [], []⟩
def d_part_text : He.DefD := ⟨("part_text", none), "part_text", "part_text", defArgs s_part_text, defBody s_part_text, defScope s_part_text, [], []⟩
def d_text_of : He.DefD := ⟨("text_of", none), "text_of", "text_of", defArgs s_text_of, defBody s_text_of, defScope s_text_of, [], []⟩
def d_pattern_text : He.DefD := ⟨("pattern_text", none), "pattern_text", "pattern_text", defArgs s_pattern_text, defBody s_pattern_text, defScope s_pattern_text, [], []⟩
def d_part_in : He.DefD := ⟨("part_in", none), "part_in", "part_in", defArgs s_part_in, defBody s_part_in, defScope s_part_in, [], []⟩
def d_read_pattern : He.DefD := ⟨("read_pattern", none), "read_pattern", "read_pattern", defArgs s_read_pattern, defBody s_read_pattern, defScope s_read_pattern, [], []⟩
def d_rank : He.DefD := ⟨("rank", none), "rank", "rank", defArgs s_rank, defBody s_rank, defScope s_rank, [], []⟩
def d_look_both : He.DefD := ⟨("look_both", none), "look_both", "look_both", defArgs s_look_both, defBody s_look_both, defScope s_look_both, [], []⟩
def d_covers : He.DefD := ⟨("covers", none), "covers", "covers", defArgs s_covers, defBody s_covers, defScope s_covers, [], []⟩
def d_apart : He.DefD := ⟨("apart", none), "apart", "apart", defArgs s_apart, defBody s_apart, defScope s_apart, [], []⟩
def d_common : He.DefD := ⟨("common", none), "common", "common", defArgs s_common, defBody s_common, defScope s_common, [], []⟩
def d_alphabet : He.DefD := ⟨("alphabet", none), "alphabet", "alphabet", defArgs s_alphabet, defBody s_alphabet, defScope s_alphabet, [], []⟩
def d_needless : He.DefD := ⟨("needless", none), "needless", "needless", defArgs s_needless, defBody s_needless, defScope s_needless, [], []⟩
def d__law_one : He.DefD := ⟨("_law_one", none), "_law_one", "_law_one", defArgs s__law_one, defBody s__law_one, defScope s__law_one, [], []⟩
def d__law_refusal : He.DefD := ⟨("_law_refusal", none), "_law_refusal", "_law_refusal", defArgs s__law_refusal, defBody s__law_refusal, defScope s__law_refusal, [], []⟩
def d__law_told : He.DefD := ⟨("_law_told", none), "_law_told", "_law_told", defArgs s__law_told, defBody s__law_told, defScope s__law_told, [], []⟩
def d_law : He.DefD := ⟨("law", none), "law", "law", defArgs s_law, defBody s_law, defScope s_law, [], []⟩
def fnL : List He.DefD := [d__law_cell, d__law_mix, d__law_draw, d__law_pick, d__law_menu, d__law_pattern, d__law_text, d_is_word, d_look_pattern, d_part_text, d_text_of, d_pattern_text, d_part_in, d_read_pattern, d_rank, d_look_both, d_covers, d_apart, d_common, d_alphabet, d_needless, d__law_one, d__law_refusal, d__law_told, d_law]
def faL : List He.Fa := [.free "len", .free "range", .free "all", .free "set", .free "isinstance", .free "ValueError", .str "LETTERS" "abcdefghijklmnopqrstuvwxyz0123456789", .int "MOST_PARTS" 6, .int "MOST_WORDS" 4, .glo "BadPattern", .glo "BadText", .glo "BadAnswer", .glo "BadTalk", .glo "BadRule", .glo "HallError", .exc "BadPattern", .exc "BadText", .glo "_law_cell", .glo "_law_mix", .glo "_law_draw", .glo "_law_pick", .glo "_law_menu", .glo "_law_pattern", .glo "_law_text", .glo "is_word", .glo "look_pattern", .glo "part_text", .glo "text_of", .glo "pattern_text", .glo "part_in", .glo "read_pattern", .glo "rank", .glo "look_both", .glo "covers", .glo "apart", .glo "common", .glo "alphabet", .glo "needless", .glo "_law_one", .glo "_law_refusal", .glo "_law_told", .glo "law"]
def exB (K : PySem.W.Frag) : Bool := xfB K
abbrev R : PySem.W.OpenRow := PySem.W.OpenLaw.row PySem.Challenge.rw_answerhall_k41_whole_pattern_texts
abbrev hk : PySem.W.Hook := hookM 5 faL fnL exB
def ob (s : PySem.W.SharedT) : He.AlD × Bool := obM 5 faL fnL exB (HandSHeadRun.getT s)
theorem ob_eq (s : PySem.W.SharedT) : ob s = hk.obs s.abs := obM_eq (HandSHeadRun.getT_eq s)
def loose0 : List PySem.Str := ["HallError", "BadText", "BadPattern", "BadAnswer", "BadRule", "BadTalk", "LETTERS", "is_word", "MOST_PARTS", "MOST_WORDS", "look_pattern", "takes", "rank", "part_text", "text_of", "pattern_text", "part_in", "read_pattern", "closed", "behind", "words_in", "alphabet", "shortest", "look_both", "covers", "apart", "common", "needless", "_law_cell", "_law_mix"]
def loose1 : List PySem.Str := ["_law_draw", "_law_pick", "_law_refusal", "_law_menu", "_law_pattern", "_law_text", "_law_one", "_law_told"]
def loose : List PySem.Str := loose0 ++ loose1
theorem run (w : World) : HandSHeadRun.RunEq R (PySem.W.view R.prog [44]) hk ob 9000 loose w := by
  intro os
  kernel_rfl
theorem facts {P : Program} {w : World} {K : PySem.W.Frag} {h : Heap} {mg : PySem.Str → Option Value} {f : Addr} (X : K.In h) (G : h.Ns mainGlobals mg) (hfa : mg ("law" : PySem.Str) = some (.ref f)) (c : He.SaysD faL fnL K) (ce : exB K = true) :
    ∃ fd : FuncData, (∀ (s : Shared) (v : Value), BindsTo s fd ⟨[v], []⟩ [("script", v)]) ∧ ∀ base : Heap, FnOk P w K mg base (L2.CX P w) 7 f fd ["script"] (SpM K (fs_law K)) := by
  have T : Tx K mg := ⟨He.free_ok X G (c.fact 0 rfl), He.free_ok X G (c.fact 1 rfl), He.free_ok X G (c.fact 2 rfl), He.free_ok X G (c.fact 3 rfl), He.free_ok X G (c.fact 4 rfl), He.free_ok X G (c.fact 5 rfl), He.str_ok X G (c.fact 6 rfl), He.int_ok X G (c.fact 7 rfl), He.int_ok X G (c.fact 8 rfl), He.glo_ok X G (c.fact 9 rfl), He.glo_ok X G (c.fact 10 rfl), He.glo_ok X G (c.fact 11 rfl), He.glo_ok X G (c.fact 12 rfl), He.glo_ok X G (c.fact 13 rfl), He.glo_ok X G (c.fact 14 rfl), He.exc_ok (c.fact 15 rfl), He.exc_ok (c.fact 16 rfl)⟩
  have xf := xfB_ok ce
  obtain ⟨fd, F⟩ := c.def_ 24 (d := d_law) rfl
  have e := hfa.symm.trans (He.glo_ok X G (c.fact 41 (f := .glo "law") rfl))
  cases e
  have b := FunD.bindsA (ps := ["script"]) F fun _ _ _ _ _ _ us hl => match us, hl with | [_], _ => rfl
  refine ⟨fd, fun s v => b s [v] rfl, fun base => ?_⟩
  have dd__law_cell : Df K mg "_law_cell" s__law_cell ["script", "k"] := df_of X G (c.fact 17 (f := .glo "_law_cell") rfl) (c.def_ 0 (d := d__law_cell) rfl) (fun _ _ _ _ _ _ us hl => match us, hl with | [_, _], _ => rfl)
  have o__law_cell : Ok P w K mg base "_law_cell" ["script", "k"] 1 (SpM K (fs__law_cell K)) := ok__law_cell T dd__law_cell  h__law_cell
  have dd__law_mix : Df K mg "_law_mix" s__law_mix ["script", "k"] := df_of X G (c.fact 18 (f := .glo "_law_mix") rfl) (c.def_ 1 (d := d__law_mix) rfl) (fun _ _ _ _ _ _ us hl => match us, hl with | [_, _], _ => rfl)
  have o__law_mix : Ok P w K mg base "_law_mix" ["script", "k"] 2 (SpM K (fs__law_mix K)) := ok__law_mix T dd__law_mix o__law_cell h__law_mix
  have dd__law_draw : Df K mg "_law_draw" s__law_draw ["script", "town", "many"] := df_of X G (c.fact 19 (f := .glo "_law_draw") rfl) (c.def_ 2 (d := d__law_draw) rfl) (fun _ _ _ _ _ _ us hl => match us, hl with | [_, _, _], _ => rfl)
  have o__law_draw : Ok P w K mg base "_law_draw" ["script", "town", "many"] 3 (SpM K (fs__law_draw K)) := ok__law_draw T dd__law_draw o__law_mix h__law_draw
  have dd__law_pick : Df K mg "_law_pick" s__law_pick ["script", "town", "some"] := df_of X G (c.fact 20 (f := .glo "_law_pick") rfl) (c.def_ 3 (d := d__law_pick) rfl) (fun _ _ _ _ _ _ us hl => match us, hl with | [_, _, _], _ => rfl)
  have o__law_pick : Ok P w K mg base "_law_pick" ["script", "town", "some"] 4 (SpM K (fs__law_pick K)) := ok__law_pick T dd__law_pick o__law_draw h__law_pick
  have dd__law_menu : Df K mg "_law_menu" s__law_menu [] := df_of X G (c.fact 21 (f := .glo "_law_menu") rfl) (c.def_ 4 (d := d__law_menu) rfl) (fun _ _ _ _ _ _ us hl => match us, hl with | [], _ => rfl)
  have o__law_menu : Ok P w K mg base "_law_menu" [] 1 (SpM K (fs__law_menu K)) := ok__law_menu T dd__law_menu  h__law_menu
  have dd__law_pattern : Df K mg "_law_pattern" s__law_pattern ["script", "town", "most"] := df_of X G (c.fact 22 (f := .glo "_law_pattern") rfl) (c.def_ 5 (d := d__law_pattern) rfl) (fun _ _ _ _ _ _ us hl => match us, hl with | [_, _, _], _ => rfl)
  have o__law_pattern : Ok P w K mg base "_law_pattern" ["script", "town", "most"] 5 (SpM K (fs__law_pattern K)) := ok__law_pattern T dd__law_pattern o__law_draw o__law_pick o__law_menu h__law_pattern
  have dd__law_text : Df K mg "_law_text" s__law_text ["pattern"] := df_of X G (c.fact 23 (f := .glo "_law_text") rfl) (c.def_ 6 (d := d__law_text) rfl) (fun _ _ _ _ _ _ us hl => match us, hl with | [_], _ => rfl)
  have o__law_text : Ok P w K mg base "_law_text" ["pattern"] 1 (SpM K (fs__law_text K)) := ok__law_text T dd__law_text  h__law_text
  have dd_is_word : Df K mg "is_word" s_is_word ["text"] := df_of X G (c.fact 24 (f := .glo "is_word") rfl) (c.def_ 7 (d := d_is_word) rfl) (fun _ _ _ _ _ _ us hl => match us, hl with | [_], _ => rfl)
  have o_is_word : Ok P w K mg base "is_word" ["text"] 1 (SpM K (fs_is_word K)) := ok_is_word T dd_is_word  h_is_word
  have dd_look_pattern : Df K mg "look_pattern" s_look_pattern ["pattern"] := df_of X G (c.fact 25 (f := .glo "look_pattern") rfl) (c.def_ 8 (d := d_look_pattern) rfl) (fun _ _ _ _ _ _ us hl => match us, hl with | [_], _ => rfl)
  have o_look_pattern : Ok P w K mg base "look_pattern" ["pattern"] 2 (SpM K (fs_look_pattern K)) := ok_look_pattern T dd_look_pattern o_is_word h_look_pattern
  have dd_part_text : Df K mg "part_text" s_part_text ["part"] := df_of X G (c.fact 26 (f := .glo "part_text") rfl) (c.def_ 9 (d := d_part_text) rfl) (fun _ _ _ _ _ _ us hl => match us, hl with | [_], _ => rfl)
  have o_part_text : Ok P w K mg base "part_text" ["part"] 1 (SpM K (fs_part_text K)) := ok_part_text T dd_part_text  h_part_text
  have dd_text_of : Df K mg "text_of" s_text_of ["pattern"] := df_of X G (c.fact 27 (f := .glo "text_of") rfl) (c.def_ 10 (d := d_text_of) rfl) (fun _ _ _ _ _ _ us hl => match us, hl with | [_], _ => rfl)
  have o_text_of : Ok P w K mg base "text_of" ["pattern"] 2 (SpM K (fs_text_of K)) := ok_text_of T dd_text_of o_part_text h_text_of
  have dd_pattern_text : Df K mg "pattern_text" s_pattern_text ["pattern"] := df_of X G (c.fact 28 (f := .glo "pattern_text") rfl) (c.def_ 11 (d := d_pattern_text) rfl) (fun _ _ _ _ _ _ us hl => match us, hl with | [_], _ => rfl)
  have o_pattern_text : Ok P w K mg base "pattern_text" ["pattern"] 3 (SpM K (fs_pattern_text K)) := ok_pattern_text T dd_pattern_text o_look_pattern o_text_of h_pattern_text
  have dd_part_in : Df K mg "part_in" s_part_in ["word"] := df_of X G (c.fact 29 (f := .glo "part_in") rfl) (c.def_ 12 (d := d_part_in) rfl) (fun _ _ _ _ _ _ us hl => match us, hl with | [_], _ => rfl)
  have o_part_in : Ok P w K mg base "part_in" ["word"] 1 (SpM K (fs_part_in K)) := ok_part_in T dd_part_in  h_part_in
  have dd_read_pattern : Df K mg "read_pattern" s_read_pattern ["text"] := df_of X G (c.fact 30 (f := .glo "read_pattern") rfl) (c.def_ 13 (d := d_read_pattern) rfl) (fun _ _ _ _ _ _ us hl => match us, hl with | [_], _ => rfl)
  have o_read_pattern : Ok P w K mg base "read_pattern" ["text"] 3 (SpM K (fs_read_pattern K)) := ok_read_pattern T dd_read_pattern o_part_in o_look_pattern o_text_of (h_read_pattern xf)
  have dd_rank : Df K mg "rank" s_rank ["pattern"] := df_of X G (c.fact 31 (f := .glo "rank") rfl) (c.def_ 14 (d := d_rank) rfl) (fun _ _ _ _ _ _ us hl => match us, hl with | [_], _ => rfl)
  have o_rank : Ok P w K mg base "rank" ["pattern"] 3 (SpM K (fs_rank K)) := ok_rank T dd_rank o_look_pattern h_rank
  have dd_look_both : Df K mg "look_both" s_look_both ["one", "other"] := df_of X G (c.fact 32 (f := .glo "look_both") rfl) (c.def_ 15 (d := d_look_both) rfl) (fun _ _ _ _ _ _ us hl => match us, hl with | [_, _], _ => rfl)
  have o_look_both : Ok P w K mg base "look_both" ["one", "other"] 3 (SpM K (fs_look_both K)) := ok_look_both T dd_look_both o_look_pattern h_look_both
  have dd_covers : Df K mg "covers" s_covers ["one", "other"] := df_of X G (c.fact 33 (f := .glo "covers") rfl) (c.def_ 16 (d := d_covers) rfl) (fun _ _ _ _ _ _ us hl => match us, hl with | [_, _], _ => rfl)
  have o_covers : Ok P w K mg base "covers" ["one", "other"] 4 (SpM K (fs_covers K)) := ok_covers T dd_covers o_look_both h_covers
  have dd_apart : Df K mg "apart" s_apart ["one", "other"] := df_of X G (c.fact 34 (f := .glo "apart") rfl) (c.def_ 17 (d := d_apart) rfl) (fun _ _ _ _ _ _ us hl => match us, hl with | [_, _], _ => rfl)
  have o_apart : Ok P w K mg base "apart" ["one", "other"] 4 (SpM K (fs_apart K)) := ok_apart T dd_apart o_look_both h_apart
  have dd_common : Df K mg "common" s_common ["one", "other"] := df_of X G (c.fact 35 (f := .glo "common") rfl) (c.def_ 18 (d := d_common) rfl) (fun _ _ _ _ _ _ us hl => match us, hl with | [_, _], _ => rfl)
  have o_common : Ok P w K mg base "common" ["one", "other"] 4 (SpM K (fs_common K)) := ok_common T dd_common o_look_both h_common
  have dd_alphabet : Df K mg "alphabet" s_alphabet ["one", "other"] := df_of X G (c.fact 36 (f := .glo "alphabet") rfl) (c.def_ 19 (d := d_alphabet) rfl) (fun _ _ _ _ _ _ us hl => match us, hl with | [_, _], _ => rfl)
  have o_alphabet : Ok P w K mg base "alphabet" ["one", "other"] 4 (SpM K (fs_alphabet K)) := ok_alphabet T dd_alphabet o_look_both h_alphabet
  have dd_needless : Df K mg "needless" s_needless ["patterns"] := df_of X G (c.fact 37 (f := .glo "needless") rfl) (c.def_ 20 (d := d_needless) rfl) (fun _ _ _ _ _ _ us hl => match us, hl with | [_], _ => rfl)
  have o_needless : Ok P w K mg base "needless" ["patterns"] 3 (SpM K (fs_needless K)) := ok_needless T dd_needless o_look_pattern h_needless
  have dd__law_one : Df K mg "_law_one" s__law_one ["kind", "given"] := df_of X G (c.fact 38 (f := .glo "_law_one") rfl) (c.def_ 21 (d := d__law_one) rfl) (fun _ _ _ _ _ _ us hl => match us, hl with | [_, _], _ => rfl)
  have o__law_one : Ok P w K mg base "_law_one" ["kind", "given"] 5 (SpM K (fs__law_one K)) := ok__law_one T dd__law_one o_read_pattern o_pattern_text o_rank o_covers o_apart o_common o_alphabet o_needless h__law_one
  have dd__law_refusal : Df K mg "_law_refusal" s__law_refusal ["caught"] := df_of X G (c.fact 39 (f := .glo "_law_refusal") rfl) (c.def_ 22 (d := d__law_refusal) rfl) (fun _ _ _ _ _ _ us hl => match us, hl with | [_], _ => rfl)
  have o__law_refusal : Ok P w K mg base "_law_refusal" ["caught"] 1 (SpM K (fs__law_refusal K)) := ok__law_refusal T dd__law_refusal  (h__law_refusal xf)
  have dd__law_told : Df K mg "_law_told" s__law_told ["kind", "some"] := df_of X G (c.fact 40 (f := .glo "_law_told") rfl) (c.def_ 23 (d := d__law_told) rfl) (fun _ _ _ _ _ _ us hl => match us, hl with | [_, _], _ => rfl)
  have o__law_told : Ok P w K mg base "_law_told" ["kind", "some"] 6 (SpM K (fs__law_told K)) := ok__law_told T dd__law_told o__law_one o__law_refusal (h__law_told xf)
  exact ok_law T ⟨F⟩ o__law_pattern o__law_text o_pattern_text o__law_told o__law_pick o__law_draw h_law
end Rk
open PySem PySem.W PySem.Calls PyProof.Rows
set_option maxRecDepth 100000 in
set_option maxHeartbeats 0 in
theorem PySem.Challenge.cw_answerhall_k41_whole_pattern_texts_holds : PySem.Challenge.rw_answerhall_k41_whole_pattern_texts.Holds := by
  w_on; o_law
  refine HandSHeadRun.head_any (r := OpenLaw.row PySem.Challenge.rw_answerhall_k41_whole_pattern_texts) (q := view (OpenLaw.row PySem.Challenge.rw_answerhall_k41_whole_pattern_texts).prog [44]) (H := Rk.hk) (ob := Rk.ob) (M := 9000) (loose := Rk.loose) (d := HandSHeadRun.topDef (OpenLaw.row PySem.Challenge.rw_answerhall_k41_whole_pattern_texts).prog 44) (kwd := []) Rk.ob_eq
    (by kernel_rfl) (fun s => by kernel_rfl) Rk.run (by kernel_rfl) (by kernel_rfl) (by kernel_rfl) (by rfl) (by first | assumption | decide +kernel) (by decide +kernel) ⟨rfl, rfl, rfl, rfl, rfl, by decide +kernel⟩ ?hw ?hc
  case hw => w_witness2
  case hc =>
    refine L2.walk_ofE (l := PySem.Challenge.rw_answerhall_k41_whole_pattern_texts) (n := 63) (k := 7) (x := "script") (CX := L2.CX0) rfl (by decide) (by kernel_rfl) ⟨rfl, by decide, by decide⟩ ?F (fun _ _ _ _ z => z)
    intro w mg fa h Y G hmg0
    obtain ⟨K, KX, c, ce⟩ := Y
    have hmg : mg ("law" : PySem.Str) = some (.ref fa) := by
      have e : (HandSHeadRun.topDef (OpenLaw.row PySem.Challenge.rw_answerhall_k41_whole_pattern_texts).prog 44).name = ("law" : PySem.Str) := by kernel_rfl
      rw [← e]
      exact hmg0
    obtain ⟨fd, hb, hF⟩ := Rk.facts (P := (PySem.Challenge.rw_answerhall_k41_whole_pattern_texts).prog) (w := w) KX G hmg c ce
    exact ⟨K, fd, fun vs H Q _ => M.SpM K (M.fs_law K) vs H Q fun _ _ _ => False, KX, hb, fun H a ns hl _ hS => M.law_start (fs := M.fs_law K) (fun sc P X hl hP => ⟨sc, rfl, hl, hP⟩) H a ns hl hS, fun base _ _ => M.fnok_nox (hF base)⟩
